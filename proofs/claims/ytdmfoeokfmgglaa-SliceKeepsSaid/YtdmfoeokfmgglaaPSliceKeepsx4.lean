/- The Go functions that the law reaches, as Lean functions, and that the code comes to their answers. Laid by this session's own program; no condition. -/
import Derived.Test.YtdmfoeokfmgglaaPSliceKeepsx0
import Derived.Test.YtdmfoeokfmgglaaPSliceKeepsx2
import Derived.Test.YtdmfoeokfmgglaaPSliceKeepsx3
namespace Go.Proofs.Ytdmfoeokfmgglaa.PSliceKeeps
open Go.RowKit Go.Proofs.YtdmfoeokfmgglaaW.PrintWords Go.Proofs.YtdmfoeokfmgglaaW.PrintLast Go.Proofs.YtdmfoeokfmgglaaW.PrintMore
attribute [local go_sem] max2_int min2_int max_two min_two max_three min_three max_four min_four   -- for this text's walks alone
set_option linter.unusedVariables false
set_option linter.unusedSimpArgs false

/-! ### rotalaw22_SliceKeeps: function 6 -/
mutual
def rotalaw22_SliceKeeps.j0 : Nat → Int → List (S45) → Bool → Option (Bool)
  | 0, _, _, _ => none
  | k + 1, x0, x1, x13 => if x13 = true then (rotalaw22_SliceKeeps.j1 k 7 x1) else (rotalaw22_SliceKeeps.j1 k x0 x1)
def rotalaw22_SliceKeeps.j1 : Nat → Int → List (S45) → Option (Bool)
  | 0, _, _ => none
  | k + 1, x0, x1 => rotalaw22_SliceKeeps.l0 k x0 x1 0 false 0 0 0 0 false 0
def rotalaw22_SliceKeeps.l0 : Nat → Int → List (S45) → Int → Bool → Int → Int → Int → Int → Bool → Int → Option (Bool)
  | 0, _, _, _, _, _, _, _, _, _, _ => none
  | k + 1, x0, x1, x6, x147000, x147001, x147002, x147003, x147004, x147005, x147006 => if x6 < (x1.length : Int) then (if 0 ≤ x6 then (if ((rd_T45 x1 x6).f0) = 0 then (rotalaw22_SliceKeeps.j3 k x0 x1 x6 ((rd_T45 x1 x6).f0) (((rd_T45 x1 x6).f0) == 0) x147000 x147001 x147002 x147003 x147004 x147005 x147006 ((rd_T45 x1 x6).f0) ((rd_T45 x1 x6).f1) ((rd_T45 x1 x6).f2)) else (rotalaw22_SliceKeeps.j3 k x0 x1 x6 ((rd_T45 x1 x6).f0) (((rd_T45 x1 x6).f0) == 1) x147000 x147001 x147002 x147003 x147004 x147005 x147006 ((rd_T45 x1 x6).f0) ((rd_T45 x1 x6).f1) ((rd_T45 x1 x6).f2))) else (none)) else ((rotalaw22_awake.f k).bind fun t147 => (some t147))
def rotalaw22_SliceKeeps.j4 : Nat → Int → List (S45) → Int → Bool → Int → Int → Int → Int → Bool → Int → Option (Bool)
  | 0, _, _, _, _, _, _, _, _, _, _ => none
  | k + 1, x0, x1, x6, x147000, x147001, x147002, x147003, x147004, x147005, x147006 => (slice_May.f x147000 x147001 x147002 x147003 x147004 x147005 x147006 x0).bind fun t195 => (if t195 = true then ((rotaref22_May.f k x147000 x147001 x147002 x147003 x147004 x147005 x147006 x0).bind fun t196 => (if t196 = true then (rotalaw22_SliceKeeps.l0 k x0 x1 (wrap64 (x6 + 1)) x147000 x147001 x147002 x147003 x147004 x147005 x147006) else (some false))) else (some false))
def rotalaw22_SliceKeeps.j3 : Nat → Int → List (S45) → Int → Int → Bool → Bool → Int → Int → Int → Int → Bool → Int → Int → Int → Int → Option (Bool)
  | 0, _, _, _, _, _, _, _, _, _, _, _, _, _, _, _ => none
  | k + 1, x0, x1, x6, x26, x27, x147000, x147001, x147002, x147003, x147004, x147005, x147006, x150000, x150001, x150002 => if x27 = true then ((slice_Dispatch.f x147000 x147001 x147002 x147003 x147004 x147005 x147006 0 0 x150001 (x150000 == 1) x0).bind fun bt150 => (rotalaw22_SliceKeeps.j4 k x0 x1 x6 bt150.1 bt150.2.1 bt150.2.2.1 bt150.2.2.2.1 bt150.2.2.2.2.1 bt150.2.2.2.2.2.1 bt150.2.2.2.2.2.2.1)) else (if x26 = 2 then ((slice_Begin.f k x147000 x147001 x147002 x147003 x147004 x147005 x147006 x150002).bind fun bt158 => (rotalaw22_SliceKeeps.j4 k x0 x1 x6 bt158.1 bt158.2.1 bt158.2.2.1 bt158.2.2.2.1 bt158.2.2.2.2.1 bt158.2.2.2.2.2.1 bt158.2.2.2.2.2.2.1)) else (if x26 = 3 then ((slice_Tick.f x147000 x147001 x147002 x147003 x147004 x147005 x147006).bind fun bt166 => (rotalaw22_SliceKeeps.j4 k x0 x1 x6 bt166.1 bt166.2.1 bt166.2.2.1 bt166.2.2.2.1 bt166.2.2.2.2.1 bt166.2.2.2.2.2.1 bt166.2.2.2.2.2.2.1)) else (if x26 = 4 then ((slice_Leave.f x147000 x147001 x147002 x147003 x147004 x147005 x147006).bind fun bt175 => (rotalaw22_SliceKeeps.j4 k x0 x1 x6 bt175.1 bt175.2.1 bt175.2.2.1 bt175.2.2.2.1 bt175.2.2.2.2.1 bt175.2.2.2.2.2.1 bt175.2.2.2.2.2.2.1)) else (if x26 = 5 then ((slice_Close.f x147000 x147001 x147002 x147003 x147004 x147005 x147006).bind fun bt187 => (rotalaw22_SliceKeeps.j4 k x0 x1 x6 bt187.1 bt187.2.1 bt187.2.2.1 bt187.2.2.2.1 bt187.2.2.2.2.1 bt187.2.2.2.2.2.1 bt187.2.2.2.2.2.2.1)) else (rotalaw22_SliceKeeps.j4 k x0 x1 x6 x147000 x147001 x147002 x147003 x147004 x147005 x147006)))))
end
def rotalaw22_SliceKeeps.f (k : Nat) (a0 : Int) (l1 : List (S45)) : Option (Bool) := if a0 < 1 then (rotalaw22_SliceKeeps.j0 k a0 l1 true) else (rotalaw22_SliceKeeps.j0 k a0 l1 (decide (a0 > 65536)))
theorem rotalaw22_SliceKeeps.mono_l : ∀ k, (∀ y0 y1 y2, LeO (rotalaw22_SliceKeeps.j0 k y0 y1 y2) (rotalaw22_SliceKeeps.j0 (k + 1) y0 y1 y2)) ∧ (∀ y0 y1, LeO (rotalaw22_SliceKeeps.j1 k y0 y1) (rotalaw22_SliceKeeps.j1 (k + 1) y0 y1)) ∧ (∀ y0 y1 y2 y3 y4 y5 y6 y7 y8 y9, LeO (rotalaw22_SliceKeeps.l0 k y0 y1 y2 y3 y4 y5 y6 y7 y8 y9) (rotalaw22_SliceKeeps.l0 (k + 1) y0 y1 y2 y3 y4 y5 y6 y7 y8 y9)) ∧ (∀ y0 y1 y2 y3 y4 y5 y6 y7 y8 y9, LeO (rotalaw22_SliceKeeps.j4 k y0 y1 y2 y3 y4 y5 y6 y7 y8 y9) (rotalaw22_SliceKeeps.j4 (k + 1) y0 y1 y2 y3 y4 y5 y6 y7 y8 y9)) ∧ (∀ y0 y1 y2 y3 y4 y5 y6 y7 y8 y9 y10 y11 y12 y13 y14, LeO (rotalaw22_SliceKeeps.j3 k y0 y1 y2 y3 y4 y5 y6 y7 y8 y9 y10 y11 y12 y13 y14) (rotalaw22_SliceKeeps.j3 (k + 1) y0 y1 y2 y3 y4 y5 y6 y7 y8 y9 y10 y11 y12 y13 y14))
  | 0 => ⟨fun _ _ _ r h => by simp [rotalaw22_SliceKeeps.j0] at h, fun _ _ r h => by simp [rotalaw22_SliceKeeps.j1] at h, fun _ _ _ _ _ _ _ _ _ _ r h => by simp [rotalaw22_SliceKeeps.l0] at h, fun _ _ _ _ _ _ _ _ _ _ r h => by simp [rotalaw22_SliceKeeps.j4] at h, fun _ _ _ _ _ _ _ _ _ _ _ _ _ _ _ r h => by simp [rotalaw22_SliceKeeps.j3] at h⟩
  | k + 1 => by
    obtain ⟨ih0, ih1, ih2, ih3, ih4⟩ := rotalaw22_SliceKeeps.mono_l k
    refine ⟨?_, ?_, ?_, ?_, ?_⟩
    · intro y0 y1 y2
      unfold rotalaw22_SliceKeeps.j0
      repeat' first
      | (with_reducible exact ih0 _ _ _)
      | (with_reducible exact ih1 _ _)
      | (with_reducible exact ih2 _ _ _ _ _ _ _ _ _ _)
      | (with_reducible exact ih3 _ _ _ _ _ _ _ _ _ _)
      | (with_reducible exact ih4 _ _ _ _ _ _ _ _ _ _ _ _ _ _ _)
      | (with_reducible exact rotalaw22_awake.mono _)
      | (with_reducible exact rotaref22_May.mono _ _ _ _ _ _ _ _ _)
      | (with_reducible exact slice_Begin.mono _ _ _ _ _ _ _ _ _)
      | (with_reducible exact LeO.refl _)
      | (with_reducible exact LeO.none _)
      | (with_reducible refine LeO.ite ?_ ?_)
      | (with_reducible refine LeO.bind ?_ (fun _ => ?_))
      | exact ih0 _ _ _
      | exact ih1 _ _
      | exact ih2 _ _ _ _ _ _ _ _ _ _
      | exact ih3 _ _ _ _ _ _ _ _ _ _
      | exact ih4 _ _ _ _ _ _ _ _ _ _ _ _ _ _ _
      | exact rotalaw22_awake.mono _
      | exact rotaref22_May.mono _ _ _ _ _ _ _ _ _
      | exact slice_Begin.mono _ _ _ _ _ _ _ _ _
      | exact LeO.none _
      | refine LeO.ite ?_ ?_
      | refine LeO.bind ?_ (fun _ => ?_)
    · intro y0 y1
      unfold rotalaw22_SliceKeeps.j1
      repeat' first
      | (with_reducible exact ih0 _ _ _)
      | (with_reducible exact ih1 _ _)
      | (with_reducible exact ih2 _ _ _ _ _ _ _ _ _ _)
      | (with_reducible exact ih3 _ _ _ _ _ _ _ _ _ _)
      | (with_reducible exact ih4 _ _ _ _ _ _ _ _ _ _ _ _ _ _ _)
      | (with_reducible exact rotalaw22_awake.mono _)
      | (with_reducible exact rotaref22_May.mono _ _ _ _ _ _ _ _ _)
      | (with_reducible exact slice_Begin.mono _ _ _ _ _ _ _ _ _)
      | (with_reducible exact LeO.refl _)
      | (with_reducible exact LeO.none _)
      | (with_reducible refine LeO.ite ?_ ?_)
      | (with_reducible refine LeO.bind ?_ (fun _ => ?_))
      | exact ih0 _ _ _
      | exact ih1 _ _
      | exact ih2 _ _ _ _ _ _ _ _ _ _
      | exact ih3 _ _ _ _ _ _ _ _ _ _
      | exact ih4 _ _ _ _ _ _ _ _ _ _ _ _ _ _ _
      | exact rotalaw22_awake.mono _
      | exact rotaref22_May.mono _ _ _ _ _ _ _ _ _
      | exact slice_Begin.mono _ _ _ _ _ _ _ _ _
      | exact LeO.none _
      | refine LeO.ite ?_ ?_
      | refine LeO.bind ?_ (fun _ => ?_)
    · intro y0 y1 y2 y3 y4 y5 y6 y7 y8 y9
      unfold rotalaw22_SliceKeeps.l0
      repeat' first
      | (with_reducible exact ih0 _ _ _)
      | (with_reducible exact ih1 _ _)
      | (with_reducible exact ih2 _ _ _ _ _ _ _ _ _ _)
      | (with_reducible exact ih3 _ _ _ _ _ _ _ _ _ _)
      | (with_reducible exact ih4 _ _ _ _ _ _ _ _ _ _ _ _ _ _ _)
      | (with_reducible exact rotalaw22_awake.mono _)
      | (with_reducible exact rotaref22_May.mono _ _ _ _ _ _ _ _ _)
      | (with_reducible exact slice_Begin.mono _ _ _ _ _ _ _ _ _)
      | (with_reducible exact LeO.refl _)
      | (with_reducible exact LeO.none _)
      | (with_reducible refine LeO.ite ?_ ?_)
      | (with_reducible refine LeO.bind ?_ (fun _ => ?_))
      | exact ih0 _ _ _
      | exact ih1 _ _
      | exact ih2 _ _ _ _ _ _ _ _ _ _
      | exact ih3 _ _ _ _ _ _ _ _ _ _
      | exact ih4 _ _ _ _ _ _ _ _ _ _ _ _ _ _ _
      | exact rotalaw22_awake.mono _
      | exact rotaref22_May.mono _ _ _ _ _ _ _ _ _
      | exact slice_Begin.mono _ _ _ _ _ _ _ _ _
      | exact LeO.none _
      | refine LeO.ite ?_ ?_
      | refine LeO.bind ?_ (fun _ => ?_)
    · intro y0 y1 y2 y3 y4 y5 y6 y7 y8 y9
      unfold rotalaw22_SliceKeeps.j4
      repeat' first
      | (with_reducible exact ih0 _ _ _)
      | (with_reducible exact ih1 _ _)
      | (with_reducible exact ih2 _ _ _ _ _ _ _ _ _ _)
      | (with_reducible exact ih3 _ _ _ _ _ _ _ _ _ _)
      | (with_reducible exact ih4 _ _ _ _ _ _ _ _ _ _ _ _ _ _ _)
      | (with_reducible exact rotalaw22_awake.mono _)
      | (with_reducible exact rotaref22_May.mono _ _ _ _ _ _ _ _ _)
      | (with_reducible exact slice_Begin.mono _ _ _ _ _ _ _ _ _)
      | (with_reducible exact LeO.refl _)
      | (with_reducible exact LeO.none _)
      | (with_reducible refine LeO.ite ?_ ?_)
      | (with_reducible refine LeO.bind ?_ (fun _ => ?_))
      | exact ih0 _ _ _
      | exact ih1 _ _
      | exact ih2 _ _ _ _ _ _ _ _ _ _
      | exact ih3 _ _ _ _ _ _ _ _ _ _
      | exact ih4 _ _ _ _ _ _ _ _ _ _ _ _ _ _ _
      | exact rotalaw22_awake.mono _
      | exact rotaref22_May.mono _ _ _ _ _ _ _ _ _
      | exact slice_Begin.mono _ _ _ _ _ _ _ _ _
      | exact LeO.none _
      | refine LeO.ite ?_ ?_
      | refine LeO.bind ?_ (fun _ => ?_)
    · intro y0 y1 y2 y3 y4 y5 y6 y7 y8 y9 y10 y11 y12 y13 y14
      unfold rotalaw22_SliceKeeps.j3
      repeat' first
      | (with_reducible exact ih0 _ _ _)
      | (with_reducible exact ih1 _ _)
      | (with_reducible exact ih2 _ _ _ _ _ _ _ _ _ _)
      | (with_reducible exact ih3 _ _ _ _ _ _ _ _ _ _)
      | (with_reducible exact ih4 _ _ _ _ _ _ _ _ _ _ _ _ _ _ _)
      | (with_reducible exact rotalaw22_awake.mono _)
      | (with_reducible exact rotaref22_May.mono _ _ _ _ _ _ _ _ _)
      | (with_reducible exact slice_Begin.mono _ _ _ _ _ _ _ _ _)
      | (with_reducible exact LeO.refl _)
      | (with_reducible exact LeO.none _)
      | (with_reducible refine LeO.ite ?_ ?_)
      | (with_reducible refine LeO.bind ?_ (fun _ => ?_))
      | exact ih0 _ _ _
      | exact ih1 _ _
      | exact ih2 _ _ _ _ _ _ _ _ _ _
      | exact ih3 _ _ _ _ _ _ _ _ _ _
      | exact ih4 _ _ _ _ _ _ _ _ _ _ _ _ _ _ _
      | exact rotalaw22_awake.mono _
      | exact rotaref22_May.mono _ _ _ _ _ _ _ _ _
      | exact slice_Begin.mono _ _ _ _ _ _ _ _ _
      | exact LeO.none _
      | refine LeO.ite ?_ ?_
      | refine LeO.bind ?_ (fun _ => ?_)
theorem rotalaw22_SliceKeeps.mono : ∀ a0 a1 k, LeO (rotalaw22_SliceKeeps.f k a0 a1) (rotalaw22_SliceKeeps.f (k + 1) a0 a1) := by
  intro a0 a1 k
  obtain ⟨ih0, ih1, ih2, ih3, ih4⟩ := rotalaw22_SliceKeeps.mono_l k
  unfold rotalaw22_SliceKeeps.f
  repeat' first
      | (with_reducible exact ih0 _ _ _)
      | (with_reducible exact ih1 _ _)
      | (with_reducible exact ih2 _ _ _ _ _ _ _ _ _ _)
      | (with_reducible exact ih3 _ _ _ _ _ _ _ _ _ _)
      | (with_reducible exact ih4 _ _ _ _ _ _ _ _ _ _ _ _ _ _ _)
      | (with_reducible exact rotalaw22_awake.mono _)
      | (with_reducible exact rotaref22_May.mono _ _ _ _ _ _ _ _ _)
      | (with_reducible exact slice_Begin.mono _ _ _ _ _ _ _ _ _)
      | (with_reducible exact LeO.refl _)
      | (with_reducible exact LeO.none _)
      | (with_reducible refine LeO.ite ?_ ?_)
      | (with_reducible refine LeO.bind ?_ (fun _ => ?_))
      | exact ih0 _ _ _
      | exact ih1 _ _
      | exact ih2 _ _ _ _ _ _ _ _ _ _
      | exact ih3 _ _ _ _ _ _ _ _ _ _
      | exact ih4 _ _ _ _ _ _ _ _ _ _ _ _ _ _ _
      | exact rotalaw22_awake.mono _
      | exact rotaref22_May.mono _ _ _ _ _ _ _ _ _
      | exact slice_Begin.mono _ _ _ _ _ _ _ _ _
      | exact LeO.none _
      | refine LeO.ite ?_ ?_
      | refine LeO.bind ?_ (fun _ => ?_)
set_option maxHeartbeats 8000000 in
set_option maxRecDepth 100000 in
theorem rotalaw22_SliceKeeps.calls (k : Nat) (a0 : Int) (A1 : Option Addr) (c1 : Nat) (l1 : List (S45)) (r : Bool) (w : World) (hr1 : Kd.C k45 w A1 l1.length l1) (hc1 : l1.length ≤ c1) (h : rotalaw22_SliceKeeps.f k a0 l1 = some r) (hr_ : Aside0 (r = true)) :
    Calls Try.prog 6 #[.int .u64 a0, .slice A1 l1.length c1] w fun e w' => e = .returned (.bool r) ∧ Below w.heap.size w w' := by
  have hu28 := Try.underlying28
  have hu45 := Try.underlying45
  have hu26 := Try.underlying26
  have HR1 := Aside0.mk hr1
  have HC1 := Aside0.mk hc1
  clear hr1 hc1
  have HB := Aside0.mk (Below.refl w.heap.size w)
  have H : (if a0 < 1 then (rotalaw22_SliceKeeps.j0 k a0 l1 true) else (rotalaw22_SliceKeeps.j0 k a0 l1 (decide (a0 > 65536)))) = some r := h
  clear h
  have HC3 := Aside0.mk H
  clear H
  go_enter Try.func6, Try.ntmps6
  go_upto_region 1 with (fail)
  go_cut [13] (fun v13 wc => ∃ (kq : Nat) (x13_2 : Bool), v13 = .bool x13_2 ∧ Aside0 (rotalaw22_SliceKeeps.j0 kq a0 l1 x13_2 = some r) ∧ Aside0 (kq ≤ k) ∧ Aside0 (Below w.heap.size w wc))
  case first =>
    have H := HC3.out
    clear HC3
    by_cases c4 : a0 < 1
    · rw [if_pos c4] at H
      have c4b0 : decide (a0 < 1) = true := decide_eq_true c4
      clear c4
      (first | rw [c4b0] | (simp only [i64_w, i32_w]; rw [c4b0]) | skip)
      have H' := Aside0.mk H
      clear H
      go_wp2
      go_meet
      case rel => exact ⟨_, (true), (by first | rfl | (simp; done) | (simp [*]; done)), H', ⟨by first | omega | exact Nat.le_refl _⟩, ⟨by repeat (first | (with_reducible first | exact HB.out | apply below_alloc | apply pw_below_drewN | apply below_drew1) | exact HB.out)⟩⟩
    · rw [if_neg c4] at H
      have c4b0 : decide (a0 < 1) = false := decide_eq_false c4
      clear c4
      (first | rw [c4b0] | (simp only [i64_w, i32_w]; rw [c4b0]) | skip)
      have H' := Aside0.mk H
      clear H
      go_wp2
      go_meet
      case rel => exact ⟨_, (decide (a0 > 65536)), (by first | rfl | (simp; done) | (simp [*]; done)), H', ⟨by first | omega | exact Nat.le_refl _⟩, ⟨by repeat (first | (with_reducible first | exact HB.out | apply below_alloc | apply pw_below_drewN | apply below_drew1) | exact HB.out)⟩⟩
  case rest =>
    clear HC3
    try clear c1
    try clear p2
    try clear c4
    try clear c4b0
    obtain ⟨kq, x13_2, rfl, HA, HJ2, HB⟩ := hcut
    cases kq with
    | zero => exact absurd HA.out (by simp [rotalaw22_SliceKeeps.j0])
    | succ kj2 =>
      have H := HA.out
      clear HA
      simp only [rotalaw22_SliceKeeps.j0] at H
      have HC5 := Aside0.mk H
      clear H
      go_upto_if 13 with (fail)
      go_cut [0] (fun v0 wc => ∃ (kq : Nat) (x0_4 : Int), v0 = .int .u64 x0_4 ∧ Aside0 (rotalaw22_SliceKeeps.j1 kq x0_4 l1 = some r) ∧ Aside0 (kq ≤ kj2) ∧ Aside0 (Below w.heap.size w wc))
      case first =>
        have H := HC5.out
        clear HC5
        by_cases c6 : x13_2 = true
        · subst c6
          have H1 : (rotalaw22_SliceKeeps.j1 kj2 7 l1) = some r := by rw [if_pos rfl] at H; exact H
          clear H
          have H := H1
          clear H1
          have H' := Aside0.mk H
          clear H
          go_wp2
          go_meet
          case rel => exact ⟨_, (7), (by first | rfl | (simp; done) | (simp [*]; done)), H', ⟨by have := HJ2.out; first | omega | exact Nat.le_refl _⟩, ⟨by repeat (first | (with_reducible first | exact HB.out | apply below_alloc | apply pw_below_drewN | apply below_drew1) | exact HB.out)⟩⟩
        · replace c6 := Bool.eq_false_iff.mpr c6
          subst c6
          have H1 : (rotalaw22_SliceKeeps.j1 kj2 a0 l1) = some r := by rw [if_neg (show ¬ (false = true) by decide)] at H; exact H
          clear H
          have H := H1
          clear H1
          have H' := Aside0.mk H
          clear H
          go_wp2
          go_meet
          case rel => exact ⟨_, (a0), (by first | rfl | (simp; done) | (simp [*]; done)), H', ⟨by have := HJ2.out; first | omega | exact Nat.le_refl _⟩, ⟨by repeat (first | (with_reducible first | exact HB.out | apply below_alloc | apply pw_below_drewN | apply below_drew1) | exact HB.out)⟩⟩
      case rest =>
        clear HC5
        try clear c1
        try clear p2
        try clear c4
        try clear c4b0
        try clear c6
        try clear p2
        obtain ⟨kq, x0_4, rfl, HA, HJ4, HB⟩ := hcut
        cases kq with
        | zero => exact absurd HA.out (by simp [rotalaw22_SliceKeeps.j1])
        | succ kj4 =>
          have H := HA.out
          clear HA
          simp only [rotalaw22_SliceKeeps.j1] at H
          have H' := Aside0.mk H
          clear H
          go_wp2_with (first | ((with_reducible refine gate_dst (N := 5) rfl ?_); refine box_event ?hg (N := 5) ?hd (cs := #[.bool false, .int .i64 0, .int .i64 0, .int .u64 0, .int .u64 0, .bool false, .int .u64 0]) (t := 28) ?hr ?_; (case hd => rfl); (case hg => rfl); (case hr => first | (go_simp; done) | (go_simp; rfl)); intro gb146 hg w7 hbox hb; have n0_ := Aside0.mk (below_step (by repeat (first | (with_reducible first | exact HB.out | apply below_alloc | apply pw_below_drewN | apply below_drew1) | exact HB.out)) hb); have n1_ := Aside0.mk (hbox); have n2_ := Aside0.mk ((by rw [hg]; exact (below_size (by repeat (first | (with_reducible first | exact HB.out | apply below_alloc | apply pw_below_drewN | apply below_drew1) | exact HB.out))) : w.heap.size ≤ gb146)); have n3_ := Aside0.mk ((by rw [hg]; exact (below_size (by repeat (first | (with_reducible first | exact HB.out | apply below_alloc | apply pw_below_drewN | apply below_drew1) | exact HB.out))) : w.heap.size ≤ gb146)); clear HB; have HB := n0_; have BK146 := n1_; have GW146 := n2_; have GE146 := n3_; clear n0_ n1_ n2_ n3_; clear hb hbox hg; have hcz8_0 : w7.cell? ⟨gb146, 0, none⟩ = some (.bool false) := (blk_cell BK146.out 0).trans rfl; have hcz8_1 : w7.cell? ⟨gb146, 1, none⟩ = some (.int .i64 0) := (blk_cell BK146.out 1).trans rfl; have hcz8_2 : w7.cell? ⟨gb146, 2, none⟩ = some (.int .i64 0) := (blk_cell BK146.out 2).trans rfl; have hcz8_3 : w7.cell? ⟨gb146, 3, none⟩ = some (.int .u64 0) := (blk_cell BK146.out 3).trans rfl; have hcz8_4 : w7.cell? ⟨gb146, 4, none⟩ = some (.int .u64 0) := (blk_cell BK146.out 4).trans rfl; have hcz8_5 : w7.cell? ⟨gb146, 5, none⟩ = some (.bool false) := (blk_cell BK146.out 5).trans rfl; have hcz8_6 : w7.cell? ⟨gb146, 6, none⟩ = some (.int .u64 0) := (blk_cell BK146.out 6).trans rfl; have hfz8_0 := blk_frozen BK146.out 0; have hfz8_1 := blk_frozen BK146.out 1; have hfz8_2 := blk_frozen BK146.out 2; have hfz8_3 := blk_frozen BK146.out 3; have hfz8_4 := blk_frozen BK146.out 4; have hfz8_5 := blk_frozen BK146.out 5; have hfz8_6 := blk_frozen BK146.out 6))
          go_loopg [6] kj4 (fun kq v6 w' => ∃ (x6_3 : Int) (x147000_3 : Bool) (x147001_3 : Int) (x147002_3 : Int) (x147003_3 : Int) (x147004_3 : Int) (x147005_3 : Bool) (x147006_3 : Int), v6 = .int .i64 x6_3 ∧ Aside0 (rotalaw22_SliceKeeps.l0 kq x0_4 l1 x6_3 x147000_3 x147001_3 x147002_3 x147003_3 x147004_3 x147005_3 x147006_3 = some r) ∧ Aside0 (kq ≤ kj4) ∧ Aside0 (w'.heap[gb146]? = some (.cells #[.bool x147000_3, .int .i64 x147001_3, .int .i64 x147002_3, .int .u64 x147003_3, .int .u64 x147004_3, .bool x147005_3, .int .u64 x147006_3] 28 (0, 0))) ∧ Aside0 (Below w.heap.size w w'))
          case atStart => exact ⟨(0), (false), (0), (0), (0), (0), (false), (0), (by first | rfl | (simp; done) | (simp [*]; done)), H', ⟨Nat.le_refl _⟩, ⟨by (with_reducible repeat (first | refine blk_drewN ?_ _ | refine blk_drew ?_ | refine blk_alloc ?_ _)); refine blk_put (cs := #[.bool false, .int .i64 0, .int .i64 0, .int .u64 0, .int .u64 0, .bool false, .int .u64 0]) ?_ 6 _ rfl; (with_reducible repeat (first | refine blk_drewN ?_ _ | refine blk_drew ?_ | refine blk_alloc ?_ _)); refine blk_put (cs := #[.bool false, .int .i64 0, .int .i64 0, .int .u64 0, .int .u64 0, .bool false, .int .u64 0]) ?_ 5 _ rfl; (with_reducible repeat (first | refine blk_drewN ?_ _ | refine blk_drew ?_ | refine blk_alloc ?_ _)); refine blk_put (cs := #[.bool false, .int .i64 0, .int .i64 0, .int .u64 0, .int .u64 0, .bool false, .int .u64 0]) ?_ 4 _ rfl; (with_reducible repeat (first | refine blk_drewN ?_ _ | refine blk_drew ?_ | refine blk_alloc ?_ _)); refine blk_put (cs := #[.bool false, .int .i64 0, .int .i64 0, .int .u64 0, .int .u64 0, .bool false, .int .u64 0]) ?_ 3 _ rfl; (with_reducible repeat (first | refine blk_drewN ?_ _ | refine blk_drew ?_ | refine blk_alloc ?_ _)); refine blk_put (cs := #[.bool false, .int .i64 0, .int .i64 0, .int .u64 0, .int .u64 0, .bool false, .int .u64 0]) ?_ 2 _ rfl; (with_reducible repeat (first | refine blk_drewN ?_ _ | refine blk_drew ?_ | refine blk_alloc ?_ _)); refine blk_put (cs := #[.bool false, .int .i64 0, .int .i64 0, .int .u64 0, .int .u64 0, .bool false, .int .u64 0]) ?_ 1 _ rfl; (with_reducible repeat (first | refine blk_drewN ?_ _ | refine blk_drew ?_ | refine blk_alloc ?_ _)); refine blk_put (cs := #[.bool false, .int .i64 0, .int .i64 0, .int .u64 0, .int .u64 0, .bool false, .int .u64 0]) ?_ 0 _ rfl; (with_reducible repeat (first | refine blk_drewN ?_ _ | refine blk_drew ?_ | refine blk_alloc ?_ _)); exact BK146.out⟩, ⟨by repeat (first | (with_reducible first | exact HB.out | apply below_alloc | apply pw_below_drewN | apply below_drew1 | refine below_set ?_ GE146.out) | exact HB.out)⟩⟩
          case round =>
            clear H'
            try clear c1
            try clear p2
            try clear c4
            try clear c4b0
            try clear c6
            try clear hcz8_0
            try clear hcz8_1
            try clear hcz8_2
            try clear hcz8_3
            try clear hcz8_4
            try clear hcz8_5
            try clear hcz8_6
            try clear hfz8_0
            try clear hfz8_1
            try clear hfz8_2
            try clear hfz8_3
            try clear hfz8_4
            try clear hfz8_5
            try clear hfz8_6
            try clear p2
            obtain ⟨x6_3, x147000_3, x147001_3, x147002_3, x147003_3, x147004_3, x147005_3, x147006_3, rfl, HA, HK3, BK146, HB⟩ := hrel
            cases gk with
            | zero => exact absurd HA.out (by simp [rotalaw22_SliceKeeps.l0])
            | succ k3 =>
              have H := HA.out
              clear HA
              simp only [rotalaw22_SliceKeeps.l0] at H
              by_cases c9 : x6_3 < (l1.length : Int)
              · rw [if_pos c9] at H
                have c9b0 : decide (x6_3 < (l1.length : Int)) = true := decide_eq_true c9
                clear c9
                by_cases c10 : 0 ≤ x6_3
                · rw [if_pos c10] at H
                  have c10b0 : decide (0 ≤ x6_3) = true := decide_eq_true c10
                  clear c10
                  have HC11 := Aside0.mk H
                  clear H
                  have p148 : 0 ≤ (x6_3 : Int) := of_decide_eq_true (by first | (with_reducible assumption) | assumption)
                  have q148 : x6_3 < (l1.length : Int) := of_decide_eq_true (by first | (with_reducible assumption) | assumption)
                  obtain ⟨ad148, e148, hx148_0, hx148_1, hx148_2⟩ := at_T45 HR1.out x6_3 p148 q148
                  cases e148
                  replace hx148_0 := (HB.out.cell (World.block_lt_of_cell? w _ hx148_0)).trans hx148_0
                  replace hx148_1 := (HB.out.cell (World.block_lt_of_cell? w _ hx148_1)).trans hx148_1
                  replace hx148_2 := (HB.out.cell (World.block_lt_of_cell? w _ hx148_2)).trans hx148_2
                  replace p148 := eq_true p148
                  replace q148 := eq_true q148
                  go_upto_block 2 with (first | ((with_reducible refine gate_dst (N := 7) rfl ?_); refine box_event ?hg (N := 7) ?hd (cs := #[.int .i64 0, .int .u64 0, .int .u64 0]) (t := 45) ?hr ?_; (case hd => rfl); (case hg => rfl); (case hr => first | (go_simp; done) | (go_simp; rfl)); intro gb149 hg w12 hbox hb; have n0_ := Aside0.mk (blk_below (g := gb146) (o := .cells #[.bool x147000_3, .int .i64 x147001_3, .int .i64 x147002_3, .int .u64 x147003_3, .int .u64 x147004_3, .bool x147005_3, .int .u64 x147006_3] 28 (0, 0)) (by (with_reducible repeat (first | refine blk_drewN ?_ _ | refine blk_drew ?_ | refine blk_alloc ?_ _)); exact BK146.out) hb); have n1_ := Aside0.mk (below_step (by repeat (first | (with_reducible first | exact HB.out | apply below_alloc | apply pw_below_drewN | apply below_drew1 | refine below_set ?_ GE146.out) | exact HB.out)) hb); have n2_ := Aside0.mk (hbox); have n3_ := Aside0.mk ((by rw [hg]; exact (below_size (by repeat (first | (with_reducible first | exact HB.out | apply below_alloc | apply pw_below_drewN | apply below_drew1 | refine below_set ?_ GE146.out) | exact HB.out))) : w.heap.size ≤ gb149)); have n4_ := Aside0.mk ((by rw [hg]; exact (below_size (by repeat (first | (with_reducible first | exact HB.out | apply below_alloc | apply pw_below_drewN | apply below_drew1 | refine below_set ?_ GE146.out) | exact HB.out))) : w.heap.size ≤ gb149)); have n5_ := Aside0.mk ((by rw [hg]; exact Nat.ne_of_lt (blk_lt (g := gb146) (o := .cells #[.bool x147000_3, .int .i64 x147001_3, .int .i64 x147002_3, .int .u64 x147003_3, .int .u64 x147004_3, .bool x147005_3, .int .u64 x147006_3] 28 (0, 0)) (by (with_reducible repeat (first | refine blk_drewN ?_ _ | refine blk_drew ?_ | refine blk_alloc ?_ _)); exact BK146.out)) : gb146 ≠ gb149)); have n6_ := Aside0.mk ((by rw [hg]; exact Nat.ne_of_gt (blk_lt (g := gb146) (o := .cells #[.bool x147000_3, .int .i64 x147001_3, .int .i64 x147002_3, .int .u64 x147003_3, .int .u64 x147004_3, .bool x147005_3, .int .u64 x147006_3] 28 (0, 0)) (by (with_reducible repeat (first | refine blk_drewN ?_ _ | refine blk_drew ?_ | refine blk_alloc ?_ _)); exact BK146.out)) : gb149 ≠ gb146)); clear BK146; clear HB; have BK146 := n0_; have HB := n1_; have BK149 := n2_; have GW149 := n3_; have GE149 := n4_; have NB146_149 := n5_; have NB149_146 := n6_; clear n0_ n1_ n2_ n3_ n4_ n5_ n6_; clear hb hbox hg; have hnb13 := NB149_146.out; have hnc13 := NB146_149.out; have hcz14_0 : w12.cell? ⟨gb149, 0, none⟩ = some (.int .i64 0) := (blk_cell BK149.out 0).trans rfl; have hcz14_1 : w12.cell? ⟨gb149, 1, none⟩ = some (.int .u64 0) := (blk_cell BK149.out 1).trans rfl; have hcz14_2 : w12.cell? ⟨gb149, 2, none⟩ = some (.int .u64 0) := (blk_cell BK149.out 2).trans rfl; have hfz14_0 := blk_frozen BK149.out 0; have hfz14_1 := blk_frozen BK149.out 1; have hfz14_2 := blk_frozen BK149.out 2))
                  (try simp only [Act.put, List.setIfInBounds_toArray, List.set_cons_zero, List.set_cons_succ])
                  go_cut [] (fun wc => ∃ (kq : Nat) (x147000_10 : Bool) (x147001_10 : Int) (x147002_10 : Int) (x147003_10 : Int) (x147004_10 : Int) (x147005_10 : Bool) (x147006_10 : Int), Aside0 (rotalaw22_SliceKeeps.j4 kq x0_4 l1 x6_3 x147000_10 x147001_10 x147002_10 x147003_10 x147004_10 x147005_10 x147006_10 = some r) ∧ Aside0 (kq ≤ k3) ∧ Aside0 (wc.heap[gb146]? = some (.cells #[.bool x147000_10, .int .i64 x147001_10, .int .i64 x147002_10, .int .u64 x147003_10, .int .u64 x147004_10, .bool x147005_10, .int .u64 x147006_10] 28 (0, 0))) ∧ Aside0 (wc.heap[gb149]? = some (.cells #[.int .i64 ((rd_T45 l1 x6_3).f0), .int .u64 ((rd_T45 l1 x6_3).f1), .int .u64 ((rd_T45 l1 x6_3).f2)] 45 (0, 0))) ∧ Aside0 (Below w.heap.size w wc))
                  case first =>
                    have H := HC11.out
                    clear HC11
                    have HC15 := Aside0.mk H
                    clear H
                    go_upto_if 27 with (fail)
                    go_cut [27] (fun v27 wc => ∃ (kq : Nat) (x27_14 : Bool), v27 = .bool x27_14 ∧ Aside0 (rotalaw22_SliceKeeps.j3 kq x0_4 l1 x6_3 ((rd_T45 l1 x6_3).f0) x27_14 x147000_3 x147001_3 x147002_3 x147003_3 x147004_3 x147005_3 x147006_3 ((rd_T45 l1 x6_3).f0) ((rd_T45 l1 x6_3).f1) ((rd_T45 l1 x6_3).f2) = some r) ∧ Aside0 (kq ≤ k3) ∧ Aside0 (wc.heap[gb146]? = some (.cells #[.bool x147000_3, .int .i64 x147001_3, .int .i64 x147002_3, .int .u64 x147003_3, .int .u64 x147004_3, .bool x147005_3, .int .u64 x147006_3] 28 (0, 0))) ∧ Aside0 (wc.heap[gb149]? = some (.cells #[.int .i64 ((rd_T45 l1 x6_3).f0), .int .u64 ((rd_T45 l1 x6_3).f1), .int .u64 ((rd_T45 l1 x6_3).f2)] 45 (0, 0))) ∧ Aside0 (Below w.heap.size w wc))
                    case first =>
                      have H := HC15.out
                      clear HC15
                      by_cases c16 : ((rd_T45 l1 x6_3).f0) = 0
                      · rw [if_pos c16] at H
                        have c16b0 : (((rd_T45 l1 x6_3).f0) == 0) = true := beq_iff_eq.mpr c16
                        have c16b1 : (((rd_T45 l1 x6_3).f0) != 0) = false := bne_eq_false_iff_eq.mpr c16
                        clear c16
                        (first | rw [c16b0] | (simp only [i64_w, i32_w]; rw [c16b0]) | skip)
                        have H' := Aside0.mk H
                        clear H
                        go_wp2
                        go_meet
                        case rel => exact ⟨_, ((((rd_T45 l1 x6_3).f0) == 0)), (by first | rfl | (simp; done) | (simp [*]; done)), H', ⟨by have := HJ2.out; have := HJ4.out; have := HK3.out; first | omega | exact Nat.le_refl _⟩, ⟨by (with_reducible repeat (first | refine blk_drewN ?_ _ | refine blk_drew ?_ | refine blk_alloc ?_ _)); refine blk_far ?_ NB146_149.out _; (with_reducible repeat (first | refine blk_drewN ?_ _ | refine blk_drew ?_ | refine blk_alloc ?_ _)); refine blk_far ?_ NB146_149.out _; (with_reducible repeat (first | refine blk_drewN ?_ _ | refine blk_drew ?_ | refine blk_alloc ?_ _)); refine blk_far ?_ NB146_149.out _; (with_reducible repeat (first | refine blk_drewN ?_ _ | refine blk_drew ?_ | refine blk_alloc ?_ _)); exact BK146.out⟩, ⟨by (with_reducible repeat (first | refine blk_drewN ?_ _ | refine blk_drew ?_ | refine blk_alloc ?_ _)); refine blk_put (cs := #[.int .i64 ((rd_T45 l1 x6_3).f0), .int .u64 ((rd_T45 l1 x6_3).f1), .int .u64 0]) ?_ 2 _ rfl; (with_reducible repeat (first | refine blk_drewN ?_ _ | refine blk_drew ?_ | refine blk_alloc ?_ _)); refine blk_put (cs := #[.int .i64 ((rd_T45 l1 x6_3).f0), .int .u64 0, .int .u64 0]) ?_ 1 _ rfl; (with_reducible repeat (first | refine blk_drewN ?_ _ | refine blk_drew ?_ | refine blk_alloc ?_ _)); refine blk_put (cs := #[.int .i64 0, .int .u64 0, .int .u64 0]) ?_ 0 _ rfl; (with_reducible repeat (first | refine blk_drewN ?_ _ | refine blk_drew ?_ | refine blk_alloc ?_ _)); exact BK149.out⟩, ⟨by repeat (first | (with_reducible first | exact HB.out | apply below_alloc | apply pw_below_drewN | apply below_drew1 | refine below_set ?_ GE146.out | refine below_set ?_ GE149.out) | exact HB.out)⟩⟩
                      · rw [if_neg c16] at H
                        have c16b0 : (((rd_T45 l1 x6_3).f0) == 0) = false := beq_eq_false_iff_ne.mpr c16
                        have c16b1 : (((rd_T45 l1 x6_3).f0) != 0) = true := bne_iff_ne.mpr c16
                        (first | rw [c16b0] | (simp only [i64_w, i32_w]; rw [c16b0]) | skip)
                        have H' := Aside0.mk H
                        clear H
                        go_wp2
                        go_meet
                        case rel => exact ⟨_, ((((rd_T45 l1 x6_3).f0) == 1)), (by first | rfl | (simp; done) | (simp [*]; done)), H', ⟨by have := HJ2.out; have := HJ4.out; have := HK3.out; first | omega | exact Nat.le_refl _⟩, ⟨by (with_reducible repeat (first | refine blk_drewN ?_ _ | refine blk_drew ?_ | refine blk_alloc ?_ _)); refine blk_far ?_ NB146_149.out _; (with_reducible repeat (first | refine blk_drewN ?_ _ | refine blk_drew ?_ | refine blk_alloc ?_ _)); refine blk_far ?_ NB146_149.out _; (with_reducible repeat (first | refine blk_drewN ?_ _ | refine blk_drew ?_ | refine blk_alloc ?_ _)); refine blk_far ?_ NB146_149.out _; (with_reducible repeat (first | refine blk_drewN ?_ _ | refine blk_drew ?_ | refine blk_alloc ?_ _)); exact BK146.out⟩, ⟨by (with_reducible repeat (first | refine blk_drewN ?_ _ | refine blk_drew ?_ | refine blk_alloc ?_ _)); refine blk_put (cs := #[.int .i64 ((rd_T45 l1 x6_3).f0), .int .u64 ((rd_T45 l1 x6_3).f1), .int .u64 0]) ?_ 2 _ rfl; (with_reducible repeat (first | refine blk_drewN ?_ _ | refine blk_drew ?_ | refine blk_alloc ?_ _)); refine blk_put (cs := #[.int .i64 ((rd_T45 l1 x6_3).f0), .int .u64 0, .int .u64 0]) ?_ 1 _ rfl; (with_reducible repeat (first | refine blk_drewN ?_ _ | refine blk_drew ?_ | refine blk_alloc ?_ _)); refine blk_put (cs := #[.int .i64 0, .int .u64 0, .int .u64 0]) ?_ 0 _ rfl; (with_reducible repeat (first | refine blk_drewN ?_ _ | refine blk_drew ?_ | refine blk_alloc ?_ _)); exact BK149.out⟩, ⟨by repeat (first | (with_reducible first | exact HB.out | apply below_alloc | apply pw_below_drewN | apply below_drew1 | refine below_set ?_ GE146.out | refine below_set ?_ GE149.out) | exact HB.out)⟩⟩
                    case rest =>
                      clear HC15
                      try clear c1
                      try clear p1
                      try clear q1
                      try clear hx1
                      try clear p2
                      try clear c4
                      try clear c4b0
                      try clear c6
                      try clear c9
                      try clear c9b0
                      try clear c10
                      try clear c10b0
                      try clear c13
                      try clear p14
                      try clear q14
                      try clear hx14
                      try clear c16
                      try clear c16b0
                      try clear c16b1
                      try clear hcz14_0
                      try clear hcz14_1
                      try clear hcz14_2
                      try clear hcz8_0
                      try clear hcz8_1
                      try clear hcz8_2
                      try clear hcz8_3
                      try clear hcz8_4
                      try clear hcz8_5
                      try clear hcz8_6
                      try clear hfz14_0
                      try clear hfz14_1
                      try clear hfz14_2
                      try clear hfz8_0
                      try clear hfz8_1
                      try clear hfz8_2
                      try clear hfz8_3
                      try clear hfz8_4
                      try clear hfz8_5
                      try clear hfz8_6
                      try clear hx148_0
                      try clear hx148_1
                      try clear hx148_2
                      try clear p148
                      try clear p2
                      try clear q148
                      obtain ⟨kq, x27_14, rfl, HA, HJ14, BK146, BK149, HB⟩ := hcut
                      cases kq with
                      | zero => exact absurd HA.out (by simp [rotalaw22_SliceKeeps.j3])
                      | succ kj14 =>
                        have H := HA.out
                        clear HA
                        simp only [rotalaw22_SliceKeeps.j3] at H
                        by_cases c17 : x27_14 = true
                        · subst c17
                          have H1 : ((slice_Dispatch.f x147000_3 x147001_3 x147002_3 x147003_3 x147004_3 x147005_3 x147006_3 0 0 ((rd_T45 l1 x6_3).f1) (((rd_T45 l1 x6_3).f0) == 1) x0_4).bind fun bt150 => (rotalaw22_SliceKeeps.j4 kj14 x0_4 l1 x6_3 bt150.1 bt150.2.1 bt150.2.2.1 bt150.2.2.2.1 bt150.2.2.2.2.1 bt150.2.2.2.2.2.1 bt150.2.2.2.2.2.2.1)) = some r := by rw [if_pos rfl] at H; exact H
                          clear H
                          have H := H1
                          clear H1
                          replace H := Option.bind_eq_some_iff.mp H
                          obtain ⟨⟨t150, t151, t152, t153, t154, t155, t156, t157⟩, A180, H⟩ := H
                          replace H : (rotalaw22_SliceKeeps.j4 kj14 x0_4 l1 x6_3 t150 t151 t152 t153 t154 t155 t156) = some r := H
                          have A18 := Aside0.mk A180
                          clear A180
                          have H' := Aside0.mk H
                          clear H
                          have hnb19 := NB146_149.out
                          have hnc19 := NB149_146.out
                          have hcz20_0 : wc.cell? ⟨gb146, 0, none⟩ = some (.bool x147000_3) := (blk_cell BK146.out 0).trans rfl
                          have hcz20_1 : wc.cell? ⟨gb146, 1, none⟩ = some (.int .i64 x147001_3) := (blk_cell BK146.out 1).trans rfl
                          have hcz20_2 : wc.cell? ⟨gb146, 2, none⟩ = some (.int .i64 x147002_3) := (blk_cell BK146.out 2).trans rfl
                          have hcz20_3 : wc.cell? ⟨gb146, 3, none⟩ = some (.int .u64 x147003_3) := (blk_cell BK146.out 3).trans rfl
                          have hcz20_4 : wc.cell? ⟨gb146, 4, none⟩ = some (.int .u64 x147004_3) := (blk_cell BK146.out 4).trans rfl
                          have hcz20_5 : wc.cell? ⟨gb146, 5, none⟩ = some (.bool x147005_3) := (blk_cell BK146.out 5).trans rfl
                          have hcz20_6 : wc.cell? ⟨gb146, 6, none⟩ = some (.int .u64 x147006_3) := (blk_cell BK146.out 6).trans rfl
                          have hfz20_0 := blk_frozen BK146.out 0
                          have hfz20_1 := blk_frozen BK146.out 1
                          have hfz20_2 := blk_frozen BK146.out 2
                          have hfz20_3 := blk_frozen BK146.out 3
                          have hfz20_4 := blk_frozen BK146.out 4
                          have hfz20_5 := blk_frozen BK146.out 5
                          have hfz20_6 := blk_frozen BK146.out 6
                          have hcz21_0 : wc.cell? ⟨gb149, 0, none⟩ = some (.int .i64 ((rd_T45 l1 x6_3).f0)) := (blk_cell BK149.out 0).trans rfl
                          have hcz21_1 : wc.cell? ⟨gb149, 1, none⟩ = some (.int .u64 ((rd_T45 l1 x6_3).f1)) := (blk_cell BK149.out 1).trans rfl
                          have hcz21_2 : wc.cell? ⟨gb149, 2, none⟩ = some (.int .u64 ((rd_T45 l1 x6_3).f2)) := (blk_cell BK149.out 2).trans rfl
                          have hfz21_0 := blk_frozen BK149.out 0
                          have hfz21_1 := blk_frozen BK149.out 1
                          have hfz21_2 := blk_frozen BK149.out 2
                          go_wp2_with (first | ((with_reducible refine gate_callee (f := 11) rfl ?_); refine goesL_ (some 39) rfl rfl Try.func11 (by kernel_rfl) rfl #[.agg #[.bool x147000_3, .int .i64 x147001_3, .int .i64 x147002_3, .int .u64 x147003_3, .int .u64 x147004_3, .bool x147005_3, .int .u64 x147006_3], .agg #[.int .i64 0, .int .i64 0, .int .u64 ((rd_T45 l1 x6_3).f1)], .bool (((rd_T45 l1 x6_3).f0) == 1), .int .u64 x0_4] rfl (by (try simp only [List.map_toArray, List.map_cons, List.map_nil]); first | done | rfl | (simp only [List.length_drop, List.length_take]; rfl)) ?_; (with_reducible refine (slice_Dispatch.calls x147000_3 x147001_3 x147002_3 x147003_3 x147004_3 x147005_3 x147006_3 0 0 ((rd_T45 l1 x6_3).f1) (((rd_T45 l1 x6_3).f0) == 1) x0_4 t150 t151 t152 t153 t154 t155 t156 t157 _ A18.out).mono ?_); rintro e w22 ⟨rfl, hb⟩; refine ⟨_, rfl, ?_⟩; have n0_ := Aside0.mk (blk_below (g := gb146) (o := .cells #[.bool x147000_3, .int .i64 x147001_3, .int .i64 x147002_3, .int .u64 x147003_3, .int .u64 x147004_3, .bool x147005_3, .int .u64 x147006_3] 28 (0, 0)) (by (with_reducible repeat (first | refine blk_drewN ?_ _ | refine blk_drew ?_ | refine blk_alloc ?_ _)); exact BK146.out) hb); have n1_ := Aside0.mk (blk_below (g := gb149) (o := .cells #[.int .i64 ((rd_T45 l1 x6_3).f0), .int .u64 ((rd_T45 l1 x6_3).f1), .int .u64 ((rd_T45 l1 x6_3).f2)] 45 (0, 0)) (by (with_reducible repeat (first | refine blk_drewN ?_ _ | refine blk_drew ?_ | refine blk_alloc ?_ _)); exact BK149.out) hb); have n2_ := Aside0.mk (below_step (by repeat (first | (with_reducible first | exact HB.out | apply below_alloc | apply pw_below_drewN | apply below_drew1 | refine below_set ?_ GE146.out | refine below_set ?_ GE149.out) | exact HB.out)) hb); clear BK146; clear BK149; clear HB; have BK146 := n0_; have BK149 := n1_; have HB := n2_; clear n0_ n1_ n2_; (try clear hb); (try clear hb2); (try clear hk); (try clear hi); have hcz23_0 : w22.cell? ⟨gb146, 0, none⟩ = some (.bool x147000_3) := (blk_cell BK146.out 0).trans rfl; have hcz23_1 : w22.cell? ⟨gb146, 1, none⟩ = some (.int .i64 x147001_3) := (blk_cell BK146.out 1).trans rfl; have hcz23_2 : w22.cell? ⟨gb146, 2, none⟩ = some (.int .i64 x147002_3) := (blk_cell BK146.out 2).trans rfl; have hcz23_3 : w22.cell? ⟨gb146, 3, none⟩ = some (.int .u64 x147003_3) := (blk_cell BK146.out 3).trans rfl; have hcz23_4 : w22.cell? ⟨gb146, 4, none⟩ = some (.int .u64 x147004_3) := (blk_cell BK146.out 4).trans rfl; have hcz23_5 : w22.cell? ⟨gb146, 5, none⟩ = some (.bool x147005_3) := (blk_cell BK146.out 5).trans rfl; have hcz23_6 : w22.cell? ⟨gb146, 6, none⟩ = some (.int .u64 x147006_3) := (blk_cell BK146.out 6).trans rfl; have hfz23_0 := blk_frozen BK146.out 0; have hfz23_1 := blk_frozen BK146.out 1; have hfz23_2 := blk_frozen BK146.out 2; have hfz23_3 := blk_frozen BK146.out 3; have hfz23_4 := blk_frozen BK146.out 4; have hfz23_5 := blk_frozen BK146.out 5; have hfz23_6 := blk_frozen BK146.out 6))
                          go_meet
                          case rel => exact ⟨_, (t150), (t151), (t152), (t153), (t154), (t155), (t156), H', ⟨by have := HJ2.out; have := HJ4.out; have := HK3.out; have := HJ14.out; first | omega | exact Nat.le_refl _⟩, ⟨by (with_reducible repeat (first | refine blk_drewN ?_ _ | refine blk_drew ?_ | refine blk_alloc ?_ _)); refine blk_put (cs := #[.bool t150, .int .i64 t151, .int .i64 t152, .int .u64 t153, .int .u64 t154, .bool t155, .int .u64 x147006_3]) ?_ 6 _ rfl; (with_reducible repeat (first | refine blk_drewN ?_ _ | refine blk_drew ?_ | refine blk_alloc ?_ _)); refine blk_put (cs := #[.bool t150, .int .i64 t151, .int .i64 t152, .int .u64 t153, .int .u64 t154, .bool x147005_3, .int .u64 x147006_3]) ?_ 5 _ rfl; (with_reducible repeat (first | refine blk_drewN ?_ _ | refine blk_drew ?_ | refine blk_alloc ?_ _)); refine blk_put (cs := #[.bool t150, .int .i64 t151, .int .i64 t152, .int .u64 t153, .int .u64 x147004_3, .bool x147005_3, .int .u64 x147006_3]) ?_ 4 _ rfl; (with_reducible repeat (first | refine blk_drewN ?_ _ | refine blk_drew ?_ | refine blk_alloc ?_ _)); refine blk_put (cs := #[.bool t150, .int .i64 t151, .int .i64 t152, .int .u64 x147003_3, .int .u64 x147004_3, .bool x147005_3, .int .u64 x147006_3]) ?_ 3 _ rfl; (with_reducible repeat (first | refine blk_drewN ?_ _ | refine blk_drew ?_ | refine blk_alloc ?_ _)); refine blk_put (cs := #[.bool t150, .int .i64 t151, .int .i64 x147002_3, .int .u64 x147003_3, .int .u64 x147004_3, .bool x147005_3, .int .u64 x147006_3]) ?_ 2 _ rfl; (with_reducible repeat (first | refine blk_drewN ?_ _ | refine blk_drew ?_ | refine blk_alloc ?_ _)); refine blk_put (cs := #[.bool t150, .int .i64 x147001_3, .int .i64 x147002_3, .int .u64 x147003_3, .int .u64 x147004_3, .bool x147005_3, .int .u64 x147006_3]) ?_ 1 _ rfl; (with_reducible repeat (first | refine blk_drewN ?_ _ | refine blk_drew ?_ | refine blk_alloc ?_ _)); refine blk_put (cs := #[.bool x147000_3, .int .i64 x147001_3, .int .i64 x147002_3, .int .u64 x147003_3, .int .u64 x147004_3, .bool x147005_3, .int .u64 x147006_3]) ?_ 0 _ rfl; (with_reducible repeat (first | refine blk_drewN ?_ _ | refine blk_drew ?_ | refine blk_alloc ?_ _)); exact BK146.out⟩, ⟨by (with_reducible repeat (first | refine blk_drewN ?_ _ | refine blk_drew ?_ | refine blk_alloc ?_ _)); refine blk_far ?_ NB149_146.out _; (with_reducible repeat (first | refine blk_drewN ?_ _ | refine blk_drew ?_ | refine blk_alloc ?_ _)); refine blk_far ?_ NB149_146.out _; (with_reducible repeat (first | refine blk_drewN ?_ _ | refine blk_drew ?_ | refine blk_alloc ?_ _)); refine blk_far ?_ NB149_146.out _; (with_reducible repeat (first | refine blk_drewN ?_ _ | refine blk_drew ?_ | refine blk_alloc ?_ _)); refine blk_far ?_ NB149_146.out _; (with_reducible repeat (first | refine blk_drewN ?_ _ | refine blk_drew ?_ | refine blk_alloc ?_ _)); refine blk_far ?_ NB149_146.out _; (with_reducible repeat (first | refine blk_drewN ?_ _ | refine blk_drew ?_ | refine blk_alloc ?_ _)); refine blk_far ?_ NB149_146.out _; (with_reducible repeat (first | refine blk_drewN ?_ _ | refine blk_drew ?_ | refine blk_alloc ?_ _)); refine blk_far ?_ NB149_146.out _; (with_reducible repeat (first | refine blk_drewN ?_ _ | refine blk_drew ?_ | refine blk_alloc ?_ _)); exact BK149.out⟩, ⟨by repeat (first | (with_reducible first | exact HB.out | apply below_alloc | apply pw_below_drewN | apply below_drew1 | refine below_set ?_ GE146.out | refine below_set ?_ GE149.out) | exact HB.out)⟩⟩
                        · replace c17 := Bool.eq_false_iff.mpr c17
                          subst c17
                          have H1 : (if ((rd_T45 l1 x6_3).f0) = 2 then ((slice_Begin.f kj14 x147000_3 x147001_3 x147002_3 x147003_3 x147004_3 x147005_3 x147006_3 ((rd_T45 l1 x6_3).f2)).bind fun bt158 => (rotalaw22_SliceKeeps.j4 kj14 x0_4 l1 x6_3 bt158.1 bt158.2.1 bt158.2.2.1 bt158.2.2.2.1 bt158.2.2.2.2.1 bt158.2.2.2.2.2.1 bt158.2.2.2.2.2.2.1)) else (if ((rd_T45 l1 x6_3).f0) = 3 then ((slice_Tick.f x147000_3 x147001_3 x147002_3 x147003_3 x147004_3 x147005_3 x147006_3).bind fun bt166 => (rotalaw22_SliceKeeps.j4 kj14 x0_4 l1 x6_3 bt166.1 bt166.2.1 bt166.2.2.1 bt166.2.2.2.1 bt166.2.2.2.2.1 bt166.2.2.2.2.2.1 bt166.2.2.2.2.2.2.1)) else (if ((rd_T45 l1 x6_3).f0) = 4 then ((slice_Leave.f x147000_3 x147001_3 x147002_3 x147003_3 x147004_3 x147005_3 x147006_3).bind fun bt175 => (rotalaw22_SliceKeeps.j4 kj14 x0_4 l1 x6_3 bt175.1 bt175.2.1 bt175.2.2.1 bt175.2.2.2.1 bt175.2.2.2.2.1 bt175.2.2.2.2.2.1 bt175.2.2.2.2.2.2.1)) else (if ((rd_T45 l1 x6_3).f0) = 5 then ((slice_Close.f x147000_3 x147001_3 x147002_3 x147003_3 x147004_3 x147005_3 x147006_3).bind fun bt187 => (rotalaw22_SliceKeeps.j4 kj14 x0_4 l1 x6_3 bt187.1 bt187.2.1 bt187.2.2.1 bt187.2.2.2.1 bt187.2.2.2.2.1 bt187.2.2.2.2.2.1 bt187.2.2.2.2.2.2.1)) else (rotalaw22_SliceKeeps.j4 kj14 x0_4 l1 x6_3 x147000_3 x147001_3 x147002_3 x147003_3 x147004_3 x147005_3 x147006_3))))) = some r := by rw [if_neg (show ¬ (false = true) by decide)] at H; exact H
                          clear H
                          have H := H1
                          clear H1
                          by_cases c24 : ((rd_T45 l1 x6_3).f0) = 2
                          · rw [if_pos c24] at H
                            have c24b0 : (((rd_T45 l1 x6_3).f0) == 2) = true := beq_iff_eq.mpr c24
                            have c24b1 : (((rd_T45 l1 x6_3).f0) != 2) = false := bne_eq_false_iff_eq.mpr c24
                            clear c24
                            replace H := Option.bind_eq_some_iff.mp H
                            obtain ⟨⟨t158, t159, t160, t161, t162, t163, t164, t165⟩, A250, H⟩ := H
                            replace H : (rotalaw22_SliceKeeps.j4 kj14 x0_4 l1 x6_3 t158 t159 t160 t161 t162 t163 t164) = some r := H
                            have A25 := Aside0.mk A250
                            clear A250
                            have H' := Aside0.mk H
                            clear H
                            have hnb26 := NB146_149.out
                            have hnc26 := NB149_146.out
                            have hcz27_0 : wc.cell? ⟨gb146, 0, none⟩ = some (.bool x147000_3) := (blk_cell BK146.out 0).trans rfl
                            have hcz27_1 : wc.cell? ⟨gb146, 1, none⟩ = some (.int .i64 x147001_3) := (blk_cell BK146.out 1).trans rfl
                            have hcz27_2 : wc.cell? ⟨gb146, 2, none⟩ = some (.int .i64 x147002_3) := (blk_cell BK146.out 2).trans rfl
                            have hcz27_3 : wc.cell? ⟨gb146, 3, none⟩ = some (.int .u64 x147003_3) := (blk_cell BK146.out 3).trans rfl
                            have hcz27_4 : wc.cell? ⟨gb146, 4, none⟩ = some (.int .u64 x147004_3) := (blk_cell BK146.out 4).trans rfl
                            have hcz27_5 : wc.cell? ⟨gb146, 5, none⟩ = some (.bool x147005_3) := (blk_cell BK146.out 5).trans rfl
                            have hcz27_6 : wc.cell? ⟨gb146, 6, none⟩ = some (.int .u64 x147006_3) := (blk_cell BK146.out 6).trans rfl
                            have hfz27_0 := blk_frozen BK146.out 0
                            have hfz27_1 := blk_frozen BK146.out 1
                            have hfz27_2 := blk_frozen BK146.out 2
                            have hfz27_3 := blk_frozen BK146.out 3
                            have hfz27_4 := blk_frozen BK146.out 4
                            have hfz27_5 := blk_frozen BK146.out 5
                            have hfz27_6 := blk_frozen BK146.out 6
                            have hcz28_0 : wc.cell? ⟨gb149, 0, none⟩ = some (.int .i64 ((rd_T45 l1 x6_3).f0)) := (blk_cell BK149.out 0).trans rfl
                            have hcz28_1 : wc.cell? ⟨gb149, 1, none⟩ = some (.int .u64 ((rd_T45 l1 x6_3).f1)) := (blk_cell BK149.out 1).trans rfl
                            have hcz28_2 : wc.cell? ⟨gb149, 2, none⟩ = some (.int .u64 ((rd_T45 l1 x6_3).f2)) := (blk_cell BK149.out 2).trans rfl
                            have hfz28_0 := blk_frozen BK149.out 0
                            have hfz28_1 := blk_frozen BK149.out 1
                            have hfz28_2 := blk_frozen BK149.out 2
                            go_wp2_with (first | ((with_reducible refine gate_callee (f := 16) rfl ?_); refine goesL_ (some 48) rfl rfl Try.func16 (by kernel_rfl) rfl #[.agg #[.bool x147000_3, .int .i64 x147001_3, .int .i64 x147002_3, .int .u64 x147003_3, .int .u64 x147004_3, .bool x147005_3, .int .u64 x147006_3], .int .u64 ((rd_T45 l1 x6_3).f2)] rfl (by (try simp only [List.map_toArray, List.map_cons, List.map_nil]); first | done | rfl | (simp only [List.length_drop, List.length_take]; rfl)) ?_; (with_reducible refine (slice_Begin.calls kj14 x147000_3 x147001_3 x147002_3 x147003_3 x147004_3 x147005_3 x147006_3 ((rd_T45 l1 x6_3).f2) t158 t159 t160 t161 t162 t163 t164 t165 _ A25.out).mono ?_); rintro e w29 ⟨rfl, hb⟩; refine ⟨_, rfl, ?_⟩; have n0_ := Aside0.mk (blk_below (g := gb146) (o := .cells #[.bool x147000_3, .int .i64 x147001_3, .int .i64 x147002_3, .int .u64 x147003_3, .int .u64 x147004_3, .bool x147005_3, .int .u64 x147006_3] 28 (0, 0)) (by (with_reducible repeat (first | refine blk_drewN ?_ _ | refine blk_drew ?_ | refine blk_alloc ?_ _)); exact BK146.out) hb); have n1_ := Aside0.mk (blk_below (g := gb149) (o := .cells #[.int .i64 ((rd_T45 l1 x6_3).f0), .int .u64 ((rd_T45 l1 x6_3).f1), .int .u64 ((rd_T45 l1 x6_3).f2)] 45 (0, 0)) (by (with_reducible repeat (first | refine blk_drewN ?_ _ | refine blk_drew ?_ | refine blk_alloc ?_ _)); exact BK149.out) hb); have n2_ := Aside0.mk (below_step (by repeat (first | (with_reducible first | exact HB.out | apply below_alloc | apply pw_below_drewN | apply below_drew1 | refine below_set ?_ GE146.out | refine below_set ?_ GE149.out) | exact HB.out)) hb); clear BK146; clear BK149; clear HB; have BK146 := n0_; have BK149 := n1_; have HB := n2_; clear n0_ n1_ n2_; (try clear hb); (try clear hb2); (try clear hk); (try clear hi); have hcz30_0 : w29.cell? ⟨gb146, 0, none⟩ = some (.bool x147000_3) := (blk_cell BK146.out 0).trans rfl; have hcz30_1 : w29.cell? ⟨gb146, 1, none⟩ = some (.int .i64 x147001_3) := (blk_cell BK146.out 1).trans rfl; have hcz30_2 : w29.cell? ⟨gb146, 2, none⟩ = some (.int .i64 x147002_3) := (blk_cell BK146.out 2).trans rfl; have hcz30_3 : w29.cell? ⟨gb146, 3, none⟩ = some (.int .u64 x147003_3) := (blk_cell BK146.out 3).trans rfl; have hcz30_4 : w29.cell? ⟨gb146, 4, none⟩ = some (.int .u64 x147004_3) := (blk_cell BK146.out 4).trans rfl; have hcz30_5 : w29.cell? ⟨gb146, 5, none⟩ = some (.bool x147005_3) := (blk_cell BK146.out 5).trans rfl; have hcz30_6 : w29.cell? ⟨gb146, 6, none⟩ = some (.int .u64 x147006_3) := (blk_cell BK146.out 6).trans rfl; have hfz30_0 := blk_frozen BK146.out 0; have hfz30_1 := blk_frozen BK146.out 1; have hfz30_2 := blk_frozen BK146.out 2; have hfz30_3 := blk_frozen BK146.out 3; have hfz30_4 := blk_frozen BK146.out 4; have hfz30_5 := blk_frozen BK146.out 5; have hfz30_6 := blk_frozen BK146.out 6))
                            go_meet
                            case rel => exact ⟨_, (t158), (t159), (t160), (t161), (t162), (t163), (t164), H', ⟨by have := HJ2.out; have := HJ4.out; have := HK3.out; have := HJ14.out; first | omega | exact Nat.le_refl _⟩, ⟨by (with_reducible repeat (first | refine blk_drewN ?_ _ | refine blk_drew ?_ | refine blk_alloc ?_ _)); refine blk_put (cs := #[.bool t158, .int .i64 t159, .int .i64 t160, .int .u64 t161, .int .u64 t162, .bool t163, .int .u64 x147006_3]) ?_ 6 _ rfl; (with_reducible repeat (first | refine blk_drewN ?_ _ | refine blk_drew ?_ | refine blk_alloc ?_ _)); refine blk_put (cs := #[.bool t158, .int .i64 t159, .int .i64 t160, .int .u64 t161, .int .u64 t162, .bool x147005_3, .int .u64 x147006_3]) ?_ 5 _ rfl; (with_reducible repeat (first | refine blk_drewN ?_ _ | refine blk_drew ?_ | refine blk_alloc ?_ _)); refine blk_put (cs := #[.bool t158, .int .i64 t159, .int .i64 t160, .int .u64 t161, .int .u64 x147004_3, .bool x147005_3, .int .u64 x147006_3]) ?_ 4 _ rfl; (with_reducible repeat (first | refine blk_drewN ?_ _ | refine blk_drew ?_ | refine blk_alloc ?_ _)); refine blk_put (cs := #[.bool t158, .int .i64 t159, .int .i64 t160, .int .u64 x147003_3, .int .u64 x147004_3, .bool x147005_3, .int .u64 x147006_3]) ?_ 3 _ rfl; (with_reducible repeat (first | refine blk_drewN ?_ _ | refine blk_drew ?_ | refine blk_alloc ?_ _)); refine blk_put (cs := #[.bool t158, .int .i64 t159, .int .i64 x147002_3, .int .u64 x147003_3, .int .u64 x147004_3, .bool x147005_3, .int .u64 x147006_3]) ?_ 2 _ rfl; (with_reducible repeat (first | refine blk_drewN ?_ _ | refine blk_drew ?_ | refine blk_alloc ?_ _)); refine blk_put (cs := #[.bool t158, .int .i64 x147001_3, .int .i64 x147002_3, .int .u64 x147003_3, .int .u64 x147004_3, .bool x147005_3, .int .u64 x147006_3]) ?_ 1 _ rfl; (with_reducible repeat (first | refine blk_drewN ?_ _ | refine blk_drew ?_ | refine blk_alloc ?_ _)); refine blk_put (cs := #[.bool x147000_3, .int .i64 x147001_3, .int .i64 x147002_3, .int .u64 x147003_3, .int .u64 x147004_3, .bool x147005_3, .int .u64 x147006_3]) ?_ 0 _ rfl; (with_reducible repeat (first | refine blk_drewN ?_ _ | refine blk_drew ?_ | refine blk_alloc ?_ _)); exact BK146.out⟩, ⟨by (with_reducible repeat (first | refine blk_drewN ?_ _ | refine blk_drew ?_ | refine blk_alloc ?_ _)); refine blk_far ?_ NB149_146.out _; (with_reducible repeat (first | refine blk_drewN ?_ _ | refine blk_drew ?_ | refine blk_alloc ?_ _)); refine blk_far ?_ NB149_146.out _; (with_reducible repeat (first | refine blk_drewN ?_ _ | refine blk_drew ?_ | refine blk_alloc ?_ _)); refine blk_far ?_ NB149_146.out _; (with_reducible repeat (first | refine blk_drewN ?_ _ | refine blk_drew ?_ | refine blk_alloc ?_ _)); refine blk_far ?_ NB149_146.out _; (with_reducible repeat (first | refine blk_drewN ?_ _ | refine blk_drew ?_ | refine blk_alloc ?_ _)); refine blk_far ?_ NB149_146.out _; (with_reducible repeat (first | refine blk_drewN ?_ _ | refine blk_drew ?_ | refine blk_alloc ?_ _)); refine blk_far ?_ NB149_146.out _; (with_reducible repeat (first | refine blk_drewN ?_ _ | refine blk_drew ?_ | refine blk_alloc ?_ _)); refine blk_far ?_ NB149_146.out _; (with_reducible repeat (first | refine blk_drewN ?_ _ | refine blk_drew ?_ | refine blk_alloc ?_ _)); exact BK149.out⟩, ⟨by repeat (first | (with_reducible first | exact HB.out | apply below_alloc | apply pw_below_drewN | apply below_drew1 | refine below_set ?_ GE146.out | refine below_set ?_ GE149.out) | exact HB.out)⟩⟩
                          · rw [if_neg c24] at H
                            have c24b0 : (((rd_T45 l1 x6_3).f0) == 2) = false := beq_eq_false_iff_ne.mpr c24
                            have c24b1 : (((rd_T45 l1 x6_3).f0) != 2) = true := bne_iff_ne.mpr c24
                            by_cases c31 : ((rd_T45 l1 x6_3).f0) = 3
                            · rw [if_pos c31] at H
                              have c31b0 : (((rd_T45 l1 x6_3).f0) == 3) = true := beq_iff_eq.mpr c31
                              have c31b1 : (((rd_T45 l1 x6_3).f0) != 3) = false := bne_eq_false_iff_eq.mpr c31
                              clear c31
                              replace H := Option.bind_eq_some_iff.mp H
                              obtain ⟨⟨t166, t167, t168, t169, t170, t171, t172, t173, t174⟩, A320, H⟩ := H
                              replace H : (rotalaw22_SliceKeeps.j4 kj14 x0_4 l1 x6_3 t166 t167 t168 t169 t170 t171 t172) = some r := H
                              have A32 := Aside0.mk A320
                              clear A320
                              have H' := Aside0.mk H
                              clear H
                              have hnb33 := NB146_149.out
                              have hnc33 := NB149_146.out
                              have hcz34_0 : wc.cell? ⟨gb146, 0, none⟩ = some (.bool x147000_3) := (blk_cell BK146.out 0).trans rfl
                              have hcz34_1 : wc.cell? ⟨gb146, 1, none⟩ = some (.int .i64 x147001_3) := (blk_cell BK146.out 1).trans rfl
                              have hcz34_2 : wc.cell? ⟨gb146, 2, none⟩ = some (.int .i64 x147002_3) := (blk_cell BK146.out 2).trans rfl
                              have hcz34_3 : wc.cell? ⟨gb146, 3, none⟩ = some (.int .u64 x147003_3) := (blk_cell BK146.out 3).trans rfl
                              have hcz34_4 : wc.cell? ⟨gb146, 4, none⟩ = some (.int .u64 x147004_3) := (blk_cell BK146.out 4).trans rfl
                              have hcz34_5 : wc.cell? ⟨gb146, 5, none⟩ = some (.bool x147005_3) := (blk_cell BK146.out 5).trans rfl
                              have hcz34_6 : wc.cell? ⟨gb146, 6, none⟩ = some (.int .u64 x147006_3) := (blk_cell BK146.out 6).trans rfl
                              have hfz34_0 := blk_frozen BK146.out 0
                              have hfz34_1 := blk_frozen BK146.out 1
                              have hfz34_2 := blk_frozen BK146.out 2
                              have hfz34_3 := blk_frozen BK146.out 3
                              have hfz34_4 := blk_frozen BK146.out 4
                              have hfz34_5 := blk_frozen BK146.out 5
                              have hfz34_6 := blk_frozen BK146.out 6
                              go_wp2_with (first | ((with_reducible refine gate_callee (f := 18) rfl ?_); refine goesL_ (some 55) rfl rfl Try.func18 (by kernel_rfl) rfl #[.agg #[.bool x147000_3, .int .i64 x147001_3, .int .i64 x147002_3, .int .u64 x147003_3, .int .u64 x147004_3, .bool x147005_3, .int .u64 x147006_3]] rfl (by (try simp only [List.map_toArray, List.map_cons, List.map_nil]); first | done | rfl | (simp only [List.length_drop, List.length_take]; rfl)) ?_; (with_reducible refine (slice_Tick.calls x147000_3 x147001_3 x147002_3 x147003_3 x147004_3 x147005_3 x147006_3 t166 t167 t168 t169 t170 t171 t172 t173 t174 _ A32.out).mono ?_); rintro e w35 ⟨rfl, hb⟩; refine ⟨_, rfl, ?_⟩; have n0_ := Aside0.mk (blk_below (g := gb146) (o := .cells #[.bool x147000_3, .int .i64 x147001_3, .int .i64 x147002_3, .int .u64 x147003_3, .int .u64 x147004_3, .bool x147005_3, .int .u64 x147006_3] 28 (0, 0)) (by (with_reducible repeat (first | refine blk_drewN ?_ _ | refine blk_drew ?_ | refine blk_alloc ?_ _)); exact BK146.out) hb); have n1_ := Aside0.mk (blk_below (g := gb149) (o := .cells #[.int .i64 ((rd_T45 l1 x6_3).f0), .int .u64 ((rd_T45 l1 x6_3).f1), .int .u64 ((rd_T45 l1 x6_3).f2)] 45 (0, 0)) (by (with_reducible repeat (first | refine blk_drewN ?_ _ | refine blk_drew ?_ | refine blk_alloc ?_ _)); exact BK149.out) hb); have n2_ := Aside0.mk (below_step (by repeat (first | (with_reducible first | exact HB.out | apply below_alloc | apply pw_below_drewN | apply below_drew1 | refine below_set ?_ GE146.out | refine below_set ?_ GE149.out) | exact HB.out)) hb); clear BK146; clear BK149; clear HB; have BK146 := n0_; have BK149 := n1_; have HB := n2_; clear n0_ n1_ n2_; (try clear hb); (try clear hb2); (try clear hk); (try clear hi); have hcz36_0 : w35.cell? ⟨gb146, 0, none⟩ = some (.bool x147000_3) := (blk_cell BK146.out 0).trans rfl; have hcz36_1 : w35.cell? ⟨gb146, 1, none⟩ = some (.int .i64 x147001_3) := (blk_cell BK146.out 1).trans rfl; have hcz36_2 : w35.cell? ⟨gb146, 2, none⟩ = some (.int .i64 x147002_3) := (blk_cell BK146.out 2).trans rfl; have hcz36_3 : w35.cell? ⟨gb146, 3, none⟩ = some (.int .u64 x147003_3) := (blk_cell BK146.out 3).trans rfl; have hcz36_4 : w35.cell? ⟨gb146, 4, none⟩ = some (.int .u64 x147004_3) := (blk_cell BK146.out 4).trans rfl; have hcz36_5 : w35.cell? ⟨gb146, 5, none⟩ = some (.bool x147005_3) := (blk_cell BK146.out 5).trans rfl; have hcz36_6 : w35.cell? ⟨gb146, 6, none⟩ = some (.int .u64 x147006_3) := (blk_cell BK146.out 6).trans rfl; have hfz36_0 := blk_frozen BK146.out 0; have hfz36_1 := blk_frozen BK146.out 1; have hfz36_2 := blk_frozen BK146.out 2; have hfz36_3 := blk_frozen BK146.out 3; have hfz36_4 := blk_frozen BK146.out 4; have hfz36_5 := blk_frozen BK146.out 5; have hfz36_6 := blk_frozen BK146.out 6))
                              go_meet
                              case rel => exact ⟨_, (t166), (t167), (t168), (t169), (t170), (t171), (t172), H', ⟨by have := HJ2.out; have := HJ4.out; have := HK3.out; have := HJ14.out; first | omega | exact Nat.le_refl _⟩, ⟨by (with_reducible repeat (first | refine blk_drewN ?_ _ | refine blk_drew ?_ | refine blk_alloc ?_ _)); refine blk_put (cs := #[.bool t166, .int .i64 t167, .int .i64 t168, .int .u64 t169, .int .u64 t170, .bool t171, .int .u64 x147006_3]) ?_ 6 _ rfl; (with_reducible repeat (first | refine blk_drewN ?_ _ | refine blk_drew ?_ | refine blk_alloc ?_ _)); refine blk_put (cs := #[.bool t166, .int .i64 t167, .int .i64 t168, .int .u64 t169, .int .u64 t170, .bool x147005_3, .int .u64 x147006_3]) ?_ 5 _ rfl; (with_reducible repeat (first | refine blk_drewN ?_ _ | refine blk_drew ?_ | refine blk_alloc ?_ _)); refine blk_put (cs := #[.bool t166, .int .i64 t167, .int .i64 t168, .int .u64 t169, .int .u64 x147004_3, .bool x147005_3, .int .u64 x147006_3]) ?_ 4 _ rfl; (with_reducible repeat (first | refine blk_drewN ?_ _ | refine blk_drew ?_ | refine blk_alloc ?_ _)); refine blk_put (cs := #[.bool t166, .int .i64 t167, .int .i64 t168, .int .u64 x147003_3, .int .u64 x147004_3, .bool x147005_3, .int .u64 x147006_3]) ?_ 3 _ rfl; (with_reducible repeat (first | refine blk_drewN ?_ _ | refine blk_drew ?_ | refine blk_alloc ?_ _)); refine blk_put (cs := #[.bool t166, .int .i64 t167, .int .i64 x147002_3, .int .u64 x147003_3, .int .u64 x147004_3, .bool x147005_3, .int .u64 x147006_3]) ?_ 2 _ rfl; (with_reducible repeat (first | refine blk_drewN ?_ _ | refine blk_drew ?_ | refine blk_alloc ?_ _)); refine blk_put (cs := #[.bool t166, .int .i64 x147001_3, .int .i64 x147002_3, .int .u64 x147003_3, .int .u64 x147004_3, .bool x147005_3, .int .u64 x147006_3]) ?_ 1 _ rfl; (with_reducible repeat (first | refine blk_drewN ?_ _ | refine blk_drew ?_ | refine blk_alloc ?_ _)); refine blk_put (cs := #[.bool x147000_3, .int .i64 x147001_3, .int .i64 x147002_3, .int .u64 x147003_3, .int .u64 x147004_3, .bool x147005_3, .int .u64 x147006_3]) ?_ 0 _ rfl; (with_reducible repeat (first | refine blk_drewN ?_ _ | refine blk_drew ?_ | refine blk_alloc ?_ _)); exact BK146.out⟩, ⟨by (with_reducible repeat (first | refine blk_drewN ?_ _ | refine blk_drew ?_ | refine blk_alloc ?_ _)); refine blk_far ?_ NB149_146.out _; (with_reducible repeat (first | refine blk_drewN ?_ _ | refine blk_drew ?_ | refine blk_alloc ?_ _)); refine blk_far ?_ NB149_146.out _; (with_reducible repeat (first | refine blk_drewN ?_ _ | refine blk_drew ?_ | refine blk_alloc ?_ _)); refine blk_far ?_ NB149_146.out _; (with_reducible repeat (first | refine blk_drewN ?_ _ | refine blk_drew ?_ | refine blk_alloc ?_ _)); refine blk_far ?_ NB149_146.out _; (with_reducible repeat (first | refine blk_drewN ?_ _ | refine blk_drew ?_ | refine blk_alloc ?_ _)); refine blk_far ?_ NB149_146.out _; (with_reducible repeat (first | refine blk_drewN ?_ _ | refine blk_drew ?_ | refine blk_alloc ?_ _)); refine blk_far ?_ NB149_146.out _; (with_reducible repeat (first | refine blk_drewN ?_ _ | refine blk_drew ?_ | refine blk_alloc ?_ _)); refine blk_far ?_ NB149_146.out _; (with_reducible repeat (first | refine blk_drewN ?_ _ | refine blk_drew ?_ | refine blk_alloc ?_ _)); exact BK149.out⟩, ⟨by repeat (first | (with_reducible first | exact HB.out | apply below_alloc | apply pw_below_drewN | apply below_drew1 | refine below_set ?_ GE146.out | refine below_set ?_ GE149.out) | exact HB.out)⟩⟩
                            · rw [if_neg c31] at H
                              have c31b0 : (((rd_T45 l1 x6_3).f0) == 3) = false := beq_eq_false_iff_ne.mpr c31
                              have c31b1 : (((rd_T45 l1 x6_3).f0) != 3) = true := bne_iff_ne.mpr c31
                              by_cases c37 : ((rd_T45 l1 x6_3).f0) = 4
                              · rw [if_pos c37] at H
                                have c37b0 : (((rd_T45 l1 x6_3).f0) == 4) = true := beq_iff_eq.mpr c37
                                have c37b1 : (((rd_T45 l1 x6_3).f0) != 4) = false := bne_eq_false_iff_eq.mpr c37
                                clear c37
                                replace H := Option.bind_eq_some_iff.mp H
                                obtain ⟨⟨t175, t176, t177, t178, t179, t180, t181, t182, t183, t184, t185, t186⟩, A380, H⟩ := H
                                replace H : (rotalaw22_SliceKeeps.j4 kj14 x0_4 l1 x6_3 t175 t176 t177 t178 t179 t180 t181) = some r := H
                                have A38 := Aside0.mk A380
                                clear A380
                                have H' := Aside0.mk H
                                clear H
                                have hnb39 := NB146_149.out
                                have hnc39 := NB149_146.out
                                have hcz40_0 : wc.cell? ⟨gb146, 0, none⟩ = some (.bool x147000_3) := (blk_cell BK146.out 0).trans rfl
                                have hcz40_1 : wc.cell? ⟨gb146, 1, none⟩ = some (.int .i64 x147001_3) := (blk_cell BK146.out 1).trans rfl
                                have hcz40_2 : wc.cell? ⟨gb146, 2, none⟩ = some (.int .i64 x147002_3) := (blk_cell BK146.out 2).trans rfl
                                have hcz40_3 : wc.cell? ⟨gb146, 3, none⟩ = some (.int .u64 x147003_3) := (blk_cell BK146.out 3).trans rfl
                                have hcz40_4 : wc.cell? ⟨gb146, 4, none⟩ = some (.int .u64 x147004_3) := (blk_cell BK146.out 4).trans rfl
                                have hcz40_5 : wc.cell? ⟨gb146, 5, none⟩ = some (.bool x147005_3) := (blk_cell BK146.out 5).trans rfl
                                have hcz40_6 : wc.cell? ⟨gb146, 6, none⟩ = some (.int .u64 x147006_3) := (blk_cell BK146.out 6).trans rfl
                                have hfz40_0 := blk_frozen BK146.out 0
                                have hfz40_1 := blk_frozen BK146.out 1
                                have hfz40_2 := blk_frozen BK146.out 2
                                have hfz40_3 := blk_frozen BK146.out 3
                                have hfz40_4 := blk_frozen BK146.out 4
                                have hfz40_5 := blk_frozen BK146.out 5
                                have hfz40_6 := blk_frozen BK146.out 6
                                go_wp2_with (first | ((with_reducible refine gate_callee (f := 20) rfl ?_); refine goesL_ (some 63) rfl rfl Try.func20 (by kernel_rfl) rfl #[.agg #[.bool x147000_3, .int .i64 x147001_3, .int .i64 x147002_3, .int .u64 x147003_3, .int .u64 x147004_3, .bool x147005_3, .int .u64 x147006_3]] rfl (by (try simp only [List.map_toArray, List.map_cons, List.map_nil]); first | done | rfl | (simp only [List.length_drop, List.length_take]; rfl)) ?_; (with_reducible refine (slice_Leave.calls x147000_3 x147001_3 x147002_3 x147003_3 x147004_3 x147005_3 x147006_3 t175 t176 t177 t178 t179 t180 t181 t182 t183 t184 t185 t186 _ A38.out).mono ?_); rintro e w41 ⟨rfl, hb⟩; refine ⟨_, rfl, ?_⟩; have n0_ := Aside0.mk (blk_below (g := gb146) (o := .cells #[.bool x147000_3, .int .i64 x147001_3, .int .i64 x147002_3, .int .u64 x147003_3, .int .u64 x147004_3, .bool x147005_3, .int .u64 x147006_3] 28 (0, 0)) (by (with_reducible repeat (first | refine blk_drewN ?_ _ | refine blk_drew ?_ | refine blk_alloc ?_ _)); exact BK146.out) hb); have n1_ := Aside0.mk (blk_below (g := gb149) (o := .cells #[.int .i64 ((rd_T45 l1 x6_3).f0), .int .u64 ((rd_T45 l1 x6_3).f1), .int .u64 ((rd_T45 l1 x6_3).f2)] 45 (0, 0)) (by (with_reducible repeat (first | refine blk_drewN ?_ _ | refine blk_drew ?_ | refine blk_alloc ?_ _)); exact BK149.out) hb); have n2_ := Aside0.mk (below_step (by repeat (first | (with_reducible first | exact HB.out | apply below_alloc | apply pw_below_drewN | apply below_drew1 | refine below_set ?_ GE146.out | refine below_set ?_ GE149.out) | exact HB.out)) hb); clear BK146; clear BK149; clear HB; have BK146 := n0_; have BK149 := n1_; have HB := n2_; clear n0_ n1_ n2_; (try clear hb); (try clear hb2); (try clear hk); (try clear hi); have hcz42_0 : w41.cell? ⟨gb146, 0, none⟩ = some (.bool x147000_3) := (blk_cell BK146.out 0).trans rfl; have hcz42_1 : w41.cell? ⟨gb146, 1, none⟩ = some (.int .i64 x147001_3) := (blk_cell BK146.out 1).trans rfl; have hcz42_2 : w41.cell? ⟨gb146, 2, none⟩ = some (.int .i64 x147002_3) := (blk_cell BK146.out 2).trans rfl; have hcz42_3 : w41.cell? ⟨gb146, 3, none⟩ = some (.int .u64 x147003_3) := (blk_cell BK146.out 3).trans rfl; have hcz42_4 : w41.cell? ⟨gb146, 4, none⟩ = some (.int .u64 x147004_3) := (blk_cell BK146.out 4).trans rfl; have hcz42_5 : w41.cell? ⟨gb146, 5, none⟩ = some (.bool x147005_3) := (blk_cell BK146.out 5).trans rfl; have hcz42_6 : w41.cell? ⟨gb146, 6, none⟩ = some (.int .u64 x147006_3) := (blk_cell BK146.out 6).trans rfl; have hfz42_0 := blk_frozen BK146.out 0; have hfz42_1 := blk_frozen BK146.out 1; have hfz42_2 := blk_frozen BK146.out 2; have hfz42_3 := blk_frozen BK146.out 3; have hfz42_4 := blk_frozen BK146.out 4; have hfz42_5 := blk_frozen BK146.out 5; have hfz42_6 := blk_frozen BK146.out 6))
                                go_meet
                                case rel => exact ⟨_, (t175), (t176), (t177), (t178), (t179), (t180), (t181), H', ⟨by have := HJ2.out; have := HJ4.out; have := HK3.out; have := HJ14.out; first | omega | exact Nat.le_refl _⟩, ⟨by (with_reducible repeat (first | refine blk_drewN ?_ _ | refine blk_drew ?_ | refine blk_alloc ?_ _)); refine blk_put (cs := #[.bool t175, .int .i64 t176, .int .i64 t177, .int .u64 t178, .int .u64 t179, .bool t180, .int .u64 x147006_3]) ?_ 6 _ rfl; (with_reducible repeat (first | refine blk_drewN ?_ _ | refine blk_drew ?_ | refine blk_alloc ?_ _)); refine blk_put (cs := #[.bool t175, .int .i64 t176, .int .i64 t177, .int .u64 t178, .int .u64 t179, .bool x147005_3, .int .u64 x147006_3]) ?_ 5 _ rfl; (with_reducible repeat (first | refine blk_drewN ?_ _ | refine blk_drew ?_ | refine blk_alloc ?_ _)); refine blk_put (cs := #[.bool t175, .int .i64 t176, .int .i64 t177, .int .u64 t178, .int .u64 x147004_3, .bool x147005_3, .int .u64 x147006_3]) ?_ 4 _ rfl; (with_reducible repeat (first | refine blk_drewN ?_ _ | refine blk_drew ?_ | refine blk_alloc ?_ _)); refine blk_put (cs := #[.bool t175, .int .i64 t176, .int .i64 t177, .int .u64 x147003_3, .int .u64 x147004_3, .bool x147005_3, .int .u64 x147006_3]) ?_ 3 _ rfl; (with_reducible repeat (first | refine blk_drewN ?_ _ | refine blk_drew ?_ | refine blk_alloc ?_ _)); refine blk_put (cs := #[.bool t175, .int .i64 t176, .int .i64 x147002_3, .int .u64 x147003_3, .int .u64 x147004_3, .bool x147005_3, .int .u64 x147006_3]) ?_ 2 _ rfl; (with_reducible repeat (first | refine blk_drewN ?_ _ | refine blk_drew ?_ | refine blk_alloc ?_ _)); refine blk_put (cs := #[.bool t175, .int .i64 x147001_3, .int .i64 x147002_3, .int .u64 x147003_3, .int .u64 x147004_3, .bool x147005_3, .int .u64 x147006_3]) ?_ 1 _ rfl; (with_reducible repeat (first | refine blk_drewN ?_ _ | refine blk_drew ?_ | refine blk_alloc ?_ _)); refine blk_put (cs := #[.bool x147000_3, .int .i64 x147001_3, .int .i64 x147002_3, .int .u64 x147003_3, .int .u64 x147004_3, .bool x147005_3, .int .u64 x147006_3]) ?_ 0 _ rfl; (with_reducible repeat (first | refine blk_drewN ?_ _ | refine blk_drew ?_ | refine blk_alloc ?_ _)); exact BK146.out⟩, ⟨by (with_reducible repeat (first | refine blk_drewN ?_ _ | refine blk_drew ?_ | refine blk_alloc ?_ _)); refine blk_far ?_ NB149_146.out _; (with_reducible repeat (first | refine blk_drewN ?_ _ | refine blk_drew ?_ | refine blk_alloc ?_ _)); refine blk_far ?_ NB149_146.out _; (with_reducible repeat (first | refine blk_drewN ?_ _ | refine blk_drew ?_ | refine blk_alloc ?_ _)); refine blk_far ?_ NB149_146.out _; (with_reducible repeat (first | refine blk_drewN ?_ _ | refine blk_drew ?_ | refine blk_alloc ?_ _)); refine blk_far ?_ NB149_146.out _; (with_reducible repeat (first | refine blk_drewN ?_ _ | refine blk_drew ?_ | refine blk_alloc ?_ _)); refine blk_far ?_ NB149_146.out _; (with_reducible repeat (first | refine blk_drewN ?_ _ | refine blk_drew ?_ | refine blk_alloc ?_ _)); refine blk_far ?_ NB149_146.out _; (with_reducible repeat (first | refine blk_drewN ?_ _ | refine blk_drew ?_ | refine blk_alloc ?_ _)); refine blk_far ?_ NB149_146.out _; (with_reducible repeat (first | refine blk_drewN ?_ _ | refine blk_drew ?_ | refine blk_alloc ?_ _)); exact BK149.out⟩, ⟨by repeat (first | (with_reducible first | exact HB.out | apply below_alloc | apply pw_below_drewN | apply below_drew1 | refine below_set ?_ GE146.out | refine below_set ?_ GE149.out) | exact HB.out)⟩⟩
                              · rw [if_neg c37] at H
                                have c37b0 : (((rd_T45 l1 x6_3).f0) == 4) = false := beq_eq_false_iff_ne.mpr c37
                                have c37b1 : (((rd_T45 l1 x6_3).f0) != 4) = true := bne_iff_ne.mpr c37
                                by_cases c43 : ((rd_T45 l1 x6_3).f0) = 5
                                · rw [if_pos c43] at H
                                  have c43b0 : (((rd_T45 l1 x6_3).f0) == 5) = true := beq_iff_eq.mpr c43
                                  have c43b1 : (((rd_T45 l1 x6_3).f0) != 5) = false := bne_eq_false_iff_eq.mpr c43
                                  clear c43
                                  replace H := Option.bind_eq_some_iff.mp H
                                  obtain ⟨⟨t187, t188, t189, t190, t191, t192, t193, t194⟩, A440, H⟩ := H
                                  replace H : (rotalaw22_SliceKeeps.j4 kj14 x0_4 l1 x6_3 t187 t188 t189 t190 t191 t192 t193) = some r := H
                                  have A44 := Aside0.mk A440
                                  clear A440
                                  have H' := Aside0.mk H
                                  clear H
                                  have hnb45 := NB146_149.out
                                  have hnc45 := NB149_146.out
                                  have hcz46_0 : wc.cell? ⟨gb146, 0, none⟩ = some (.bool x147000_3) := (blk_cell BK146.out 0).trans rfl
                                  have hcz46_1 : wc.cell? ⟨gb146, 1, none⟩ = some (.int .i64 x147001_3) := (blk_cell BK146.out 1).trans rfl
                                  have hcz46_2 : wc.cell? ⟨gb146, 2, none⟩ = some (.int .i64 x147002_3) := (blk_cell BK146.out 2).trans rfl
                                  have hcz46_3 : wc.cell? ⟨gb146, 3, none⟩ = some (.int .u64 x147003_3) := (blk_cell BK146.out 3).trans rfl
                                  have hcz46_4 : wc.cell? ⟨gb146, 4, none⟩ = some (.int .u64 x147004_3) := (blk_cell BK146.out 4).trans rfl
                                  have hcz46_5 : wc.cell? ⟨gb146, 5, none⟩ = some (.bool x147005_3) := (blk_cell BK146.out 5).trans rfl
                                  have hcz46_6 : wc.cell? ⟨gb146, 6, none⟩ = some (.int .u64 x147006_3) := (blk_cell BK146.out 6).trans rfl
                                  have hfz46_0 := blk_frozen BK146.out 0
                                  have hfz46_1 := blk_frozen BK146.out 1
                                  have hfz46_2 := blk_frozen BK146.out 2
                                  have hfz46_3 := blk_frozen BK146.out 3
                                  have hfz46_4 := blk_frozen BK146.out 4
                                  have hfz46_5 := blk_frozen BK146.out 5
                                  have hfz46_6 := blk_frozen BK146.out 6
                                  go_wp2_with (first | ((with_reducible refine gate_callee (f := 22) rfl ?_); refine goesL_ (some 72) rfl rfl Try.func22 (by kernel_rfl) rfl #[.agg #[.bool x147000_3, .int .i64 x147001_3, .int .i64 x147002_3, .int .u64 x147003_3, .int .u64 x147004_3, .bool x147005_3, .int .u64 x147006_3]] rfl (by (try simp only [List.map_toArray, List.map_cons, List.map_nil]); first | done | rfl | (simp only [List.length_drop, List.length_take]; rfl)) ?_; (with_reducible refine (slice_Close.calls x147000_3 x147001_3 x147002_3 x147003_3 x147004_3 x147005_3 x147006_3 t187 t188 t189 t190 t191 t192 t193 t194 _ A44.out).mono ?_); rintro e w47 ⟨rfl, hb⟩; refine ⟨_, rfl, ?_⟩; have n0_ := Aside0.mk (blk_below (g := gb146) (o := .cells #[.bool x147000_3, .int .i64 x147001_3, .int .i64 x147002_3, .int .u64 x147003_3, .int .u64 x147004_3, .bool x147005_3, .int .u64 x147006_3] 28 (0, 0)) (by (with_reducible repeat (first | refine blk_drewN ?_ _ | refine blk_drew ?_ | refine blk_alloc ?_ _)); exact BK146.out) hb); have n1_ := Aside0.mk (blk_below (g := gb149) (o := .cells #[.int .i64 ((rd_T45 l1 x6_3).f0), .int .u64 ((rd_T45 l1 x6_3).f1), .int .u64 ((rd_T45 l1 x6_3).f2)] 45 (0, 0)) (by (with_reducible repeat (first | refine blk_drewN ?_ _ | refine blk_drew ?_ | refine blk_alloc ?_ _)); exact BK149.out) hb); have n2_ := Aside0.mk (below_step (by repeat (first | (with_reducible first | exact HB.out | apply below_alloc | apply pw_below_drewN | apply below_drew1 | refine below_set ?_ GE146.out | refine below_set ?_ GE149.out) | exact HB.out)) hb); clear BK146; clear BK149; clear HB; have BK146 := n0_; have BK149 := n1_; have HB := n2_; clear n0_ n1_ n2_; (try clear hb); (try clear hb2); (try clear hk); (try clear hi); have hcz48_0 : w47.cell? ⟨gb146, 0, none⟩ = some (.bool x147000_3) := (blk_cell BK146.out 0).trans rfl; have hcz48_1 : w47.cell? ⟨gb146, 1, none⟩ = some (.int .i64 x147001_3) := (blk_cell BK146.out 1).trans rfl; have hcz48_2 : w47.cell? ⟨gb146, 2, none⟩ = some (.int .i64 x147002_3) := (blk_cell BK146.out 2).trans rfl; have hcz48_3 : w47.cell? ⟨gb146, 3, none⟩ = some (.int .u64 x147003_3) := (blk_cell BK146.out 3).trans rfl; have hcz48_4 : w47.cell? ⟨gb146, 4, none⟩ = some (.int .u64 x147004_3) := (blk_cell BK146.out 4).trans rfl; have hcz48_5 : w47.cell? ⟨gb146, 5, none⟩ = some (.bool x147005_3) := (blk_cell BK146.out 5).trans rfl; have hcz48_6 : w47.cell? ⟨gb146, 6, none⟩ = some (.int .u64 x147006_3) := (blk_cell BK146.out 6).trans rfl; have hfz48_0 := blk_frozen BK146.out 0; have hfz48_1 := blk_frozen BK146.out 1; have hfz48_2 := blk_frozen BK146.out 2; have hfz48_3 := blk_frozen BK146.out 3; have hfz48_4 := blk_frozen BK146.out 4; have hfz48_5 := blk_frozen BK146.out 5; have hfz48_6 := blk_frozen BK146.out 6))
                                  go_meet
                                  case rel => exact ⟨_, (t187), (t188), (t189), (t190), (t191), (t192), (t193), H', ⟨by have := HJ2.out; have := HJ4.out; have := HK3.out; have := HJ14.out; first | omega | exact Nat.le_refl _⟩, ⟨by (with_reducible repeat (first | refine blk_drewN ?_ _ | refine blk_drew ?_ | refine blk_alloc ?_ _)); refine blk_put (cs := #[.bool t187, .int .i64 t188, .int .i64 t189, .int .u64 t190, .int .u64 t191, .bool t192, .int .u64 x147006_3]) ?_ 6 _ rfl; (with_reducible repeat (first | refine blk_drewN ?_ _ | refine blk_drew ?_ | refine blk_alloc ?_ _)); refine blk_put (cs := #[.bool t187, .int .i64 t188, .int .i64 t189, .int .u64 t190, .int .u64 t191, .bool x147005_3, .int .u64 x147006_3]) ?_ 5 _ rfl; (with_reducible repeat (first | refine blk_drewN ?_ _ | refine blk_drew ?_ | refine blk_alloc ?_ _)); refine blk_put (cs := #[.bool t187, .int .i64 t188, .int .i64 t189, .int .u64 t190, .int .u64 x147004_3, .bool x147005_3, .int .u64 x147006_3]) ?_ 4 _ rfl; (with_reducible repeat (first | refine blk_drewN ?_ _ | refine blk_drew ?_ | refine blk_alloc ?_ _)); refine blk_put (cs := #[.bool t187, .int .i64 t188, .int .i64 t189, .int .u64 x147003_3, .int .u64 x147004_3, .bool x147005_3, .int .u64 x147006_3]) ?_ 3 _ rfl; (with_reducible repeat (first | refine blk_drewN ?_ _ | refine blk_drew ?_ | refine blk_alloc ?_ _)); refine blk_put (cs := #[.bool t187, .int .i64 t188, .int .i64 x147002_3, .int .u64 x147003_3, .int .u64 x147004_3, .bool x147005_3, .int .u64 x147006_3]) ?_ 2 _ rfl; (with_reducible repeat (first | refine blk_drewN ?_ _ | refine blk_drew ?_ | refine blk_alloc ?_ _)); refine blk_put (cs := #[.bool t187, .int .i64 x147001_3, .int .i64 x147002_3, .int .u64 x147003_3, .int .u64 x147004_3, .bool x147005_3, .int .u64 x147006_3]) ?_ 1 _ rfl; (with_reducible repeat (first | refine blk_drewN ?_ _ | refine blk_drew ?_ | refine blk_alloc ?_ _)); refine blk_put (cs := #[.bool x147000_3, .int .i64 x147001_3, .int .i64 x147002_3, .int .u64 x147003_3, .int .u64 x147004_3, .bool x147005_3, .int .u64 x147006_3]) ?_ 0 _ rfl; (with_reducible repeat (first | refine blk_drewN ?_ _ | refine blk_drew ?_ | refine blk_alloc ?_ _)); exact BK146.out⟩, ⟨by (with_reducible repeat (first | refine blk_drewN ?_ _ | refine blk_drew ?_ | refine blk_alloc ?_ _)); refine blk_far ?_ NB149_146.out _; (with_reducible repeat (first | refine blk_drewN ?_ _ | refine blk_drew ?_ | refine blk_alloc ?_ _)); refine blk_far ?_ NB149_146.out _; (with_reducible repeat (first | refine blk_drewN ?_ _ | refine blk_drew ?_ | refine blk_alloc ?_ _)); refine blk_far ?_ NB149_146.out _; (with_reducible repeat (first | refine blk_drewN ?_ _ | refine blk_drew ?_ | refine blk_alloc ?_ _)); refine blk_far ?_ NB149_146.out _; (with_reducible repeat (first | refine blk_drewN ?_ _ | refine blk_drew ?_ | refine blk_alloc ?_ _)); refine blk_far ?_ NB149_146.out _; (with_reducible repeat (first | refine blk_drewN ?_ _ | refine blk_drew ?_ | refine blk_alloc ?_ _)); refine blk_far ?_ NB149_146.out _; (with_reducible repeat (first | refine blk_drewN ?_ _ | refine blk_drew ?_ | refine blk_alloc ?_ _)); refine blk_far ?_ NB149_146.out _; (with_reducible repeat (first | refine blk_drewN ?_ _ | refine blk_drew ?_ | refine blk_alloc ?_ _)); exact BK149.out⟩, ⟨by repeat (first | (with_reducible first | exact HB.out | apply below_alloc | apply pw_below_drewN | apply below_drew1 | refine below_set ?_ GE146.out | refine below_set ?_ GE149.out) | exact HB.out)⟩⟩
                                · rw [if_neg c43] at H
                                  have c43b0 : (((rd_T45 l1 x6_3).f0) == 5) = false := beq_eq_false_iff_ne.mpr c43
                                  have c43b1 : (((rd_T45 l1 x6_3).f0) != 5) = true := bne_iff_ne.mpr c43
                                  have H' := Aside0.mk H
                                  clear H
                                  go_wp2
                                  go_meet
                                  case rel => exact ⟨_, (x147000_3), (x147001_3), (x147002_3), (x147003_3), (x147004_3), (x147005_3), (x147006_3), H', ⟨by have := HJ2.out; have := HJ4.out; have := HK3.out; have := HJ14.out; first | omega | exact Nat.le_refl _⟩, ⟨by (with_reducible repeat (first | refine blk_drewN ?_ _ | refine blk_drew ?_ | refine blk_alloc ?_ _)); exact BK146.out⟩, ⟨by (with_reducible repeat (first | refine blk_drewN ?_ _ | refine blk_drew ?_ | refine blk_alloc ?_ _)); exact BK149.out⟩, ⟨by repeat (first | (with_reducible first | exact HB.out | apply below_alloc | apply pw_below_drewN | apply below_drew1 | refine below_set ?_ GE146.out | refine below_set ?_ GE149.out) | exact HB.out)⟩⟩
                  case rest =>
                    clear HC11
                    try clear c1
                    try clear p1
                    try clear q1
                    try clear hx1
                    try clear c2
                    try clear p2
                    try clear c3
                    try clear c4
                    try clear c4b0
                    try clear c6
                    try clear c9
                    try clear c9b0
                    try clear c10
                    try clear c10b0
                    try clear c11
                    try clear c13
                    try clear p14
                    try clear q14
                    try clear hx14
                    try clear c16
                    try clear c16b0
                    try clear c16b1
                    try clear c17
                    try clear c18
                    try clear c19
                    try clear c20
                    try clear c22
                    try clear c24
                    try clear c24b0
                    try clear c24b1
                    try clear c26
                    try clear c31
                    try clear c31b0
                    try clear c31b1
                    try clear c33
                    try clear c37
                    try clear c37b0
                    try clear c37b1
                    try clear c39
                    try clear c43
                    try clear c43b0
                    try clear c43b1
                    try clear c45
                    try clear hcz14_0
                    try clear hcz14_1
                    try clear hcz14_2
                    try clear hcz20_0
                    try clear hcz20_1
                    try clear hcz20_2
                    try clear hcz20_3
                    try clear hcz20_4
                    try clear hcz20_5
                    try clear hcz20_6
                    try clear hcz21_0
                    try clear hcz21_1
                    try clear hcz21_2
                    try clear hcz23_0
                    try clear hcz23_1
                    try clear hcz23_2
                    try clear hcz23_3
                    try clear hcz23_4
                    try clear hcz23_5
                    try clear hcz23_6
                    try clear hcz27_0
                    try clear hcz27_1
                    try clear hcz27_2
                    try clear hcz27_3
                    try clear hcz27_4
                    try clear hcz27_5
                    try clear hcz27_6
                    try clear hcz28_0
                    try clear hcz28_1
                    try clear hcz28_2
                    try clear hcz30_0
                    try clear hcz30_1
                    try clear hcz30_2
                    try clear hcz30_3
                    try clear hcz30_4
                    try clear hcz30_5
                    try clear hcz30_6
                    try clear hcz34_0
                    try clear hcz34_1
                    try clear hcz34_2
                    try clear hcz34_3
                    try clear hcz34_4
                    try clear hcz34_5
                    try clear hcz34_6
                    try clear hcz36_0
                    try clear hcz36_1
                    try clear hcz36_2
                    try clear hcz36_3
                    try clear hcz36_4
                    try clear hcz36_5
                    try clear hcz36_6
                    try clear hcz40_0
                    try clear hcz40_1
                    try clear hcz40_2
                    try clear hcz40_3
                    try clear hcz40_4
                    try clear hcz40_5
                    try clear hcz40_6
                    try clear hcz42_0
                    try clear hcz42_1
                    try clear hcz42_2
                    try clear hcz42_3
                    try clear hcz42_4
                    try clear hcz42_5
                    try clear hcz42_6
                    try clear hcz46_0
                    try clear hcz46_1
                    try clear hcz46_2
                    try clear hcz46_3
                    try clear hcz46_4
                    try clear hcz46_5
                    try clear hcz46_6
                    try clear hcz48_0
                    try clear hcz48_1
                    try clear hcz48_2
                    try clear hcz48_3
                    try clear hcz48_4
                    try clear hcz48_5
                    try clear hcz48_6
                    try clear hcz8_0
                    try clear hcz8_1
                    try clear hcz8_2
                    try clear hcz8_3
                    try clear hcz8_4
                    try clear hcz8_5
                    try clear hcz8_6
                    try clear hfz14_0
                    try clear hfz14_1
                    try clear hfz14_2
                    try clear hfz20_0
                    try clear hfz20_1
                    try clear hfz20_2
                    try clear hfz20_3
                    try clear hfz20_4
                    try clear hfz20_5
                    try clear hfz20_6
                    try clear hfz21_0
                    try clear hfz21_1
                    try clear hfz21_2
                    try clear hfz23_0
                    try clear hfz23_1
                    try clear hfz23_2
                    try clear hfz23_3
                    try clear hfz23_4
                    try clear hfz23_5
                    try clear hfz23_6
                    try clear hfz27_0
                    try clear hfz27_1
                    try clear hfz27_2
                    try clear hfz27_3
                    try clear hfz27_4
                    try clear hfz27_5
                    try clear hfz27_6
                    try clear hfz28_0
                    try clear hfz28_1
                    try clear hfz28_2
                    try clear hfz30_0
                    try clear hfz30_1
                    try clear hfz30_2
                    try clear hfz30_3
                    try clear hfz30_4
                    try clear hfz30_5
                    try clear hfz30_6
                    try clear hfz34_0
                    try clear hfz34_1
                    try clear hfz34_2
                    try clear hfz34_3
                    try clear hfz34_4
                    try clear hfz34_5
                    try clear hfz34_6
                    try clear hfz36_0
                    try clear hfz36_1
                    try clear hfz36_2
                    try clear hfz36_3
                    try clear hfz36_4
                    try clear hfz36_5
                    try clear hfz36_6
                    try clear hfz40_0
                    try clear hfz40_1
                    try clear hfz40_2
                    try clear hfz40_3
                    try clear hfz40_4
                    try clear hfz40_5
                    try clear hfz40_6
                    try clear hfz42_0
                    try clear hfz42_1
                    try clear hfz42_2
                    try clear hfz42_3
                    try clear hfz42_4
                    try clear hfz42_5
                    try clear hfz42_6
                    try clear hfz46_0
                    try clear hfz46_1
                    try clear hfz46_2
                    try clear hfz46_3
                    try clear hfz46_4
                    try clear hfz46_5
                    try clear hfz46_6
                    try clear hfz48_0
                    try clear hfz48_1
                    try clear hfz48_2
                    try clear hfz48_3
                    try clear hfz48_4
                    try clear hfz48_5
                    try clear hfz48_6
                    try clear hfz8_0
                    try clear hfz8_1
                    try clear hfz8_2
                    try clear hfz8_3
                    try clear hfz8_4
                    try clear hfz8_5
                    try clear hfz8_6
                    try clear hx148_0
                    try clear hx148_1
                    try clear hx148_2
                    try clear p1
                    try clear p14
                    try clear p148
                    try clear p2
                    try clear q1
                    try clear q14
                    try clear q148
                    obtain ⟨kq, x147000_10, x147001_10, x147002_10, x147003_10, x147004_10, x147005_10, x147006_10, HA, HJ10, BK146, BK149, HB⟩ := hcut
                    cases kq with
                    | zero => exact absurd HA.out (by simp [rotalaw22_SliceKeeps.j4])
                    | succ kj10 =>
                      have H := HA.out
                      clear HA
                      simp only [rotalaw22_SliceKeeps.j4] at H
                      replace H := Option.bind_eq_some_iff.mp H
                      obtain ⟨t195, A490, H⟩ := H
                      replace H : (if t195 = true then ((rotaref22_May.f kj10 x147000_10 x147001_10 x147002_10 x147003_10 x147004_10 x147005_10 x147006_10 x0_4).bind fun t196 => (if t196 = true then (rotalaw22_SliceKeeps.l0 kj10 x0_4 l1 (wrap64 (x6_3 + 1)) x147000_10 x147001_10 x147002_10 x147003_10 x147004_10 x147005_10 x147006_10) else (some false))) else (some false)) = some r := H
                      have A49 := Aside0.mk A490
                      clear A490
                      by_cases c50 : t195 = true
                      · subst c50
                        have H1 : ((rotaref22_May.f kj10 x147000_10 x147001_10 x147002_10 x147003_10 x147004_10 x147005_10 x147006_10 x0_4).bind fun t196 => (if t196 = true then (rotalaw22_SliceKeeps.l0 kj10 x0_4 l1 (wrap64 (x6_3 + 1)) x147000_10 x147001_10 x147002_10 x147003_10 x147004_10 x147005_10 x147006_10) else (some false))) = some r := by rw [if_pos rfl] at H; exact H
                        clear H
                        have H := H1
                        clear H1
                        replace H := Option.bind_eq_some_iff.mp H
                        obtain ⟨t196, A510, H⟩ := H
                        replace H : (if t196 = true then (rotalaw22_SliceKeeps.l0 kj10 x0_4 l1 (wrap64 (x6_3 + 1)) x147000_10 x147001_10 x147002_10 x147003_10 x147004_10 x147005_10 x147006_10) else (some false)) = some r := H
                        have A51 := Aside0.mk A510
                        clear A510
                        by_cases c52 : t196 = true
                        · subst c52
                          have H1 : (rotalaw22_SliceKeeps.l0 kj10 x0_4 l1 (wrap64 (x6_3 + 1)) x147000_10 x147001_10 x147002_10 x147003_10 x147004_10 x147005_10 x147006_10) = some r := by rw [if_pos rfl] at H; exact H
                          clear H
                          have H := H1
                          clear H1
                          have H' := Aside0.mk H
                          clear H
                          have hnb53 := NB146_149.out
                          have hnc53 := NB149_146.out
                          have hcz54_0 : wc.cell? ⟨gb146, 0, none⟩ = some (.bool x147000_10) := (blk_cell BK146.out 0).trans rfl
                          have hcz54_1 : wc.cell? ⟨gb146, 1, none⟩ = some (.int .i64 x147001_10) := (blk_cell BK146.out 1).trans rfl
                          have hcz54_2 : wc.cell? ⟨gb146, 2, none⟩ = some (.int .i64 x147002_10) := (blk_cell BK146.out 2).trans rfl
                          have hcz54_3 : wc.cell? ⟨gb146, 3, none⟩ = some (.int .u64 x147003_10) := (blk_cell BK146.out 3).trans rfl
                          have hcz54_4 : wc.cell? ⟨gb146, 4, none⟩ = some (.int .u64 x147004_10) := (blk_cell BK146.out 4).trans rfl
                          have hcz54_5 : wc.cell? ⟨gb146, 5, none⟩ = some (.bool x147005_10) := (blk_cell BK146.out 5).trans rfl
                          have hcz54_6 : wc.cell? ⟨gb146, 6, none⟩ = some (.int .u64 x147006_10) := (blk_cell BK146.out 6).trans rfl
                          have hfz54_0 := blk_frozen BK146.out 0
                          have hfz54_1 := blk_frozen BK146.out 1
                          have hfz54_2 := blk_frozen BK146.out 2
                          have hfz54_3 := blk_frozen BK146.out 3
                          have hfz54_4 := blk_frozen BK146.out 4
                          have hfz54_5 := blk_frozen BK146.out 5
                          have hfz54_6 := blk_frozen BK146.out 6
                          go_wp2_with (first | ((with_reducible refine gate_callee (f := 13) rfl ?_); refine goesL_ (some 77) rfl rfl Try.func13 (by kernel_rfl) rfl #[.agg #[.bool x147000_10, .int .i64 x147001_10, .int .i64 x147002_10, .int .u64 x147003_10, .int .u64 x147004_10, .bool x147005_10, .int .u64 x147006_10], .int .u64 x0_4] rfl (by (try simp only [List.map_toArray, List.map_cons, List.map_nil]); first | done | rfl | (simp only [List.length_drop, List.length_take]; rfl)) ?_; (with_reducible refine (slice_May.calls x147000_10 x147001_10 x147002_10 x147003_10 x147004_10 x147005_10 x147006_10 x0_4 true _ A49.out).mono ?_); rintro e w55 ⟨rfl, hb⟩; refine ⟨_, rfl, ?_⟩; have n0_ := Aside0.mk (blk_below (g := gb146) (o := .cells #[.bool x147000_10, .int .i64 x147001_10, .int .i64 x147002_10, .int .u64 x147003_10, .int .u64 x147004_10, .bool x147005_10, .int .u64 x147006_10] 28 (0, 0)) (by (with_reducible repeat (first | refine blk_drewN ?_ _ | refine blk_drew ?_ | refine blk_alloc ?_ _)); exact BK146.out) hb); have n1_ := Aside0.mk (blk_below (g := gb149) (o := .cells #[.int .i64 ((rd_T45 l1 x6_3).f0), .int .u64 ((rd_T45 l1 x6_3).f1), .int .u64 ((rd_T45 l1 x6_3).f2)] 45 (0, 0)) (by (with_reducible repeat (first | refine blk_drewN ?_ _ | refine blk_drew ?_ | refine blk_alloc ?_ _)); exact BK149.out) hb); have n2_ := Aside0.mk (below_step (by repeat (first | (with_reducible first | exact HB.out | apply below_alloc | apply pw_below_drewN | apply below_drew1 | refine below_set ?_ GE146.out | refine below_set ?_ GE149.out) | exact HB.out)) hb); clear BK146; clear BK149; clear HB; have BK146 := n0_; have BK149 := n1_; have HB := n2_; clear n0_ n1_ n2_; (try clear hb); (try clear hb2); (try clear hk); (try clear hi); have hcz56_0 : w55.cell? ⟨gb146, 0, none⟩ = some (.bool x147000_10) := (blk_cell BK146.out 0).trans rfl; have hcz56_1 : w55.cell? ⟨gb146, 1, none⟩ = some (.int .i64 x147001_10) := (blk_cell BK146.out 1).trans rfl; have hcz56_2 : w55.cell? ⟨gb146, 2, none⟩ = some (.int .i64 x147002_10) := (blk_cell BK146.out 2).trans rfl; have hcz56_3 : w55.cell? ⟨gb146, 3, none⟩ = some (.int .u64 x147003_10) := (blk_cell BK146.out 3).trans rfl; have hcz56_4 : w55.cell? ⟨gb146, 4, none⟩ = some (.int .u64 x147004_10) := (blk_cell BK146.out 4).trans rfl; have hcz56_5 : w55.cell? ⟨gb146, 5, none⟩ = some (.bool x147005_10) := (blk_cell BK146.out 5).trans rfl; have hcz56_6 : w55.cell? ⟨gb146, 6, none⟩ = some (.int .u64 x147006_10) := (blk_cell BK146.out 6).trans rfl; have hfz56_0 := blk_frozen BK146.out 0; have hfz56_1 := blk_frozen BK146.out 1; have hfz56_2 := blk_frozen BK146.out 2; have hfz56_3 := blk_frozen BK146.out 3; have hfz56_4 := blk_frozen BK146.out 4; have hfz56_5 := blk_frozen BK146.out 5; have hfz56_6 := blk_frozen BK146.out 6) | (go_at_call 14; (with_reducible refine (rotaref22_May.calls kj10 x147000_10 x147001_10 x147002_10 x147003_10 x147004_10 x147005_10 x147006_10 x0_4 true _ A51.out).mono ?_); rintro e w57 ⟨rfl, hb⟩; have n0_ := Aside0.mk (blk_below (g := gb146) (o := .cells #[.bool x147000_10, .int .i64 x147001_10, .int .i64 x147002_10, .int .u64 x147003_10, .int .u64 x147004_10, .bool x147005_10, .int .u64 x147006_10] 28 (0, 0)) (by (with_reducible repeat (first | refine blk_drewN ?_ _ | refine blk_drew ?_ | refine blk_alloc ?_ _)); exact BK146.out) hb); have n1_ := Aside0.mk (blk_below (g := gb149) (o := .cells #[.int .i64 ((rd_T45 l1 x6_3).f0), .int .u64 ((rd_T45 l1 x6_3).f1), .int .u64 ((rd_T45 l1 x6_3).f2)] 45 (0, 0)) (by (with_reducible repeat (first | refine blk_drewN ?_ _ | refine blk_drew ?_ | refine blk_alloc ?_ _)); exact BK149.out) hb); have n2_ := Aside0.mk (below_step (by repeat (first | (with_reducible first | exact HB.out | apply below_alloc | apply pw_below_drewN | apply below_drew1 | refine below_set ?_ GE146.out | refine below_set ?_ GE149.out) | exact HB.out)) hb); clear BK146; clear BK149; clear HB; have BK146 := n0_; have BK149 := n1_; have HB := n2_; clear n0_ n1_ n2_; (try clear hb); (try clear hb2); (try clear hk); (try clear hi)))
                          go_roundg kj10
                          case measure => have := HJ2.out; have := HJ4.out; have := HK3.out; have := HJ10.out; omega
                          case rel => exact ⟨(wrap64 (x6_3 + 1)), (x147000_10), (x147001_10), (x147002_10), (x147003_10), (x147004_10), (x147005_10), (x147006_10), (by first | rfl | (simp; done) | (simp [*]; done)), H', ⟨by have := HJ2.out; have := HJ4.out; have := HK3.out; have := HJ10.out; omega⟩, ⟨by (with_reducible repeat (first | refine blk_drewN ?_ _ | refine blk_drew ?_ | refine blk_alloc ?_ _)); exact BK146.out⟩, ⟨by repeat (first | (with_reducible first | exact HB.out | apply below_alloc | apply pw_below_drewN | apply below_drew1 | refine below_set ?_ GE146.out | refine below_set ?_ GE149.out) | exact HB.out)⟩⟩
                        · replace c52 := Bool.eq_false_iff.mpr c52
                          subst c52
                          have H1 : (some false) = some r := by rw [if_neg (show ¬ (false = true) by decide)] at H; exact H
                          clear H
                          have H := H1
                          clear H1
                          exact absurd (hr_.out ▸ H) (by decide)
                      · replace c50 := Bool.eq_false_iff.mpr c50
                        subst c50
                        have H1 : (some false) = some r := by rw [if_neg (show ¬ (false = true) by decide)] at H; exact H
                        clear H
                        have H := H1
                        clear H1
                        exact absurd (hr_.out ▸ H) (by decide)
                · rw [if_neg c10] at H
                  exact absurd H (by simp)
              · rw [if_neg c9] at H
                have c9b0 : decide (x6_3 < (l1.length : Int)) = false := decide_eq_false c9
                clear c9
                replace H := Option.bind_eq_some_iff.mp H
                obtain ⟨t147, A580, H⟩ := H
                replace H : (some t147) = some r := H
                have A58 := Aside0.mk A580
                clear A580
                obtain rfl := Option.some.inj H
                go_wp2_with (first | ((with_reducible refine gate_callee (f := 15) rfl ?_); refine goesL_ (some 85) rfl rfl Try.func15 (by kernel_rfl) rfl #[] rfl (by (try simp only [List.map_toArray, List.map_cons, List.map_nil]); first | done | rfl | (simp only [List.length_drop, List.length_take]; rfl)) ?_; (with_reducible refine (rotalaw22_awake.calls k3  t147 _ A58.out).mono ?_); rintro e w59 ⟨rfl, hb⟩; refine ⟨_, rfl, ?_⟩; have n0_ := Aside0.mk (blk_below (g := gb146) (o := .cells #[.bool x147000_3, .int .i64 x147001_3, .int .i64 x147002_3, .int .u64 x147003_3, .int .u64 x147004_3, .bool x147005_3, .int .u64 x147006_3] 28 (0, 0)) (by (with_reducible repeat (first | refine blk_drewN ?_ _ | refine blk_drew ?_ | refine blk_alloc ?_ _)); exact BK146.out) hb); have n1_ := Aside0.mk (below_step (by repeat (first | (with_reducible first | exact HB.out | apply below_alloc | apply pw_below_drewN | apply below_drew1 | refine below_set ?_ GE146.out) | exact HB.out)) hb); clear BK146; clear HB; have BK146 := n0_; have HB := n1_; clear n0_ n1_; (try clear hb); (try clear hb2); (try clear hk); (try clear hi)))
                go_ret
                exact ⟨by first | rfl | (simp [errW_none, errW_some] <;> rfl) | (simp [*, errW_none, errW_some] <;> rfl), by repeat (first | (with_reducible first | exact HB.out | apply below_alloc | apply pw_below_drewN | apply below_drew1 | refine below_set ?_ GE146.out) | exact HB.out)⟩

end Go.Proofs.Ytdmfoeokfmgglaa.PSliceKeeps
