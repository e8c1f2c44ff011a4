/- The Go functions that the law reaches, as Lean functions, and that the code comes to their answers. Laid by this session's own program; no condition. -/
import Derived.Test.YtdmfoeokfmgglaaPSliceUsedx0
import Derived.Test.YtdmfoeokfmgglaaPSliceUsedx1
import Derived.Test.YtdmfoeokfmgglaaPSliceUsedx2
namespace Go.Proofs.Ytdmfoeokfmgglaa.PSliceUsed
open Go.RowKit Go.Proofs.YtdmfoeokfmgglaaW.PrintWords Go.Proofs.YtdmfoeokfmgglaaW.PrintLast Go.Proofs.YtdmfoeokfmgglaaW.PrintMore
attribute [local go_sem] max2_int min2_int max_two min_two max_three min_three max_four min_four   -- for this text's walks alone
set_option linter.unusedVariables false
set_option linter.unusedSimpArgs false

/-! ### rotalaw22_SliceUsed: function 10 -/
mutual
def rotalaw22_SliceUsed.j0 : Nat → Int → List Int → List Int → Bool → Option (Bool)
  | 0, _, _, _, _ => none
  | k + 1, x0, x1, x2, x22 => if x22 = true then (rotalaw22_SliceUsed.j1 k (IntKind.u64.wrap ((Int.tmod x0 200) + 1)) x1 x2) else (rotalaw22_SliceUsed.j1 k x0 x1 x2)
def rotalaw22_SliceUsed.j1 : Nat → Int → List Int → List Int → Option (Bool)
  | 0, _, _, _ => none
  | k + 1, x0, x1, x2 => (slice_Dispatch.f false 0 0 0 0 false 0 0 0 1 false x0).bind fun bt172 => (if bt172.2.2.2.2.2.2.2 = 0 then ((slice_Run.f k bt172.1 bt172.2.1 bt172.2.2.1 bt172.2.2.2.1 bt172.2.2.2.2.1 bt172.2.2.2.2.2.1 bt172.2.2.2.2.2.2.1 x1 18446744073709551615).bind fun bt181 => (if bt181.2.1 ≥ (IntKind.u64.wrap (x0 + 8)) then (rotalaw22_SliceUsed.j2 k x0 x2 bt181.2.1 true bt181.2.2.1 bt181.2.2.2.1 bt181.2.2.2.2.1 bt181.2.2.2.2.2.1 bt181.2.2.2.2.2.2.1 bt181.2.2.2.2.2.2.2.1 bt181.2.2.2.2.2.2.2.2) else (rotalaw22_SliceUsed.j2 k x0 x2 bt181.2.1 (decide (bt181.2.2.2.2.2.2.2.2 > 0)) bt181.2.2.1 bt181.2.2.2.1 bt181.2.2.2.2.1 bt181.2.2.2.2.2.1 bt181.2.2.2.2.2.2.1 bt181.2.2.2.2.2.2.2.1 bt181.2.2.2.2.2.2.2.2))) else (some false))
def rotalaw22_SliceUsed.j2 : Nat → Int → List Int → Int → Bool → Bool → Int → Int → Int → Int → Bool → Int → Option (Bool)
  | 0, _, _, _, _, _, _, _, _, _, _, _ => none
  | k + 1, x0, x2, x10, x50, x181000, x181001, x181002, x181003, x181004, x181005, x181006 => if x50 = true then (some false) else ((slice_Leave.f x181000 x181001 x181002 x181003 x181004 x181005 x181006).bind fun bt190 => (if bt190.2.2.2.2.2.2.2.2.2.2.2 = 0 then (rotalaw22_SliceUsed.j3 k x0 x2 x10 (bt190.2.2.2.2.2.2.2.2.2.2.1 != (decide (x10 > 0))) bt190.1 bt190.2.1 bt190.2.2.1 bt190.2.2.2.1 bt190.2.2.2.2.1 bt190.2.2.2.2.2.1 bt190.2.2.2.2.2.2.1) else (rotalaw22_SliceUsed.j3 k x0 x2 x10 true bt190.1 bt190.2.1 bt190.2.2.1 bt190.2.2.2.1 bt190.2.2.2.2.1 bt190.2.2.2.2.2.1 bt190.2.2.2.2.2.2.1)))
def rotalaw22_SliceUsed.j3 : Nat → Int → List Int → Int → Bool → Bool → Int → Int → Int → Int → Bool → Int → Option (Bool)
  | 0, _, _, _, _, _, _, _, _, _, _, _ => none
  | k + 1, x0, x2, x10, x65, x181000, x181001, x181002, x181003, x181004, x181005, x181006 => if x65 = true then (some false) else ((slice_Dispatch.f x181000 x181001 x181002 x181003 x181004 x181005 x181006 0 0 2 true x0).bind fun bt203 => ((slice_Run.f k bt203.1 bt203.2.1 bt203.2.2.1 bt203.2.2.2.1 bt203.2.2.2.2.1 bt203.2.2.2.2.2.1 bt203.2.2.2.2.2.2.1 x2 18446744073709551615).bind fun bt211 => (if bt203.2.2.2.2.2.2.2 = 0 then (if (IntKind.u64.wrap (x10 + bt211.2.1)) < (IntKind.u64.wrap (x0 + 8)) then (if (IntKind.u64.wrap (x10 + bt211.2.1)) < x0 then ((rotalaw22_awake.f k).bind fun t220 => (some t220)) else ((slice_Decide.f bt211.2.2.1 bt211.2.2.2.1 bt211.2.2.2.2.1 bt211.2.2.2.2.2.1 bt211.2.2.2.2.2.2.1 bt211.2.2.2.2.2.2.2.1 bt211.2.2.2.2.2.2.2.2 1 1).bind fun t221 => (if t221 = 3 then ((rotalaw22_awake.f k).bind fun t222 => (some t222)) else (some false)))) else (some false)) else (some false))))
end
def rotalaw22_SliceUsed.f (k : Nat) (a0 : Int) (l1 : List Int) (l2 : List Int) : Option (Bool) := if a0 < 1 then (rotalaw22_SliceUsed.j0 k a0 l1 l2 true) else (rotalaw22_SliceUsed.j0 k a0 l1 l2 (decide (a0 > 200)))
theorem rotalaw22_SliceUsed.mono_l : ∀ k, (∀ y0 y1 y2 y3, LeO (rotalaw22_SliceUsed.j0 k y0 y1 y2 y3) (rotalaw22_SliceUsed.j0 (k + 1) y0 y1 y2 y3)) ∧ (∀ y0 y1 y2, LeO (rotalaw22_SliceUsed.j1 k y0 y1 y2) (rotalaw22_SliceUsed.j1 (k + 1) y0 y1 y2)) ∧ (∀ y0 y1 y2 y3 y4 y5 y6 y7 y8 y9 y10, LeO (rotalaw22_SliceUsed.j2 k y0 y1 y2 y3 y4 y5 y6 y7 y8 y9 y10) (rotalaw22_SliceUsed.j2 (k + 1) y0 y1 y2 y3 y4 y5 y6 y7 y8 y9 y10)) ∧ (∀ y0 y1 y2 y3 y4 y5 y6 y7 y8 y9 y10, LeO (rotalaw22_SliceUsed.j3 k y0 y1 y2 y3 y4 y5 y6 y7 y8 y9 y10) (rotalaw22_SliceUsed.j3 (k + 1) y0 y1 y2 y3 y4 y5 y6 y7 y8 y9 y10))
  | 0 => ⟨fun _ _ _ _ r h => by simp [rotalaw22_SliceUsed.j0] at h, fun _ _ _ r h => by simp [rotalaw22_SliceUsed.j1] at h, fun _ _ _ _ _ _ _ _ _ _ _ r h => by simp [rotalaw22_SliceUsed.j2] at h, fun _ _ _ _ _ _ _ _ _ _ _ r h => by simp [rotalaw22_SliceUsed.j3] at h⟩
  | k + 1 => by
    obtain ⟨ih0, ih1, ih2, ih3⟩ := rotalaw22_SliceUsed.mono_l k
    refine ⟨?_, ?_, ?_, ?_⟩
    · intro y0 y1 y2 y3
      unfold rotalaw22_SliceUsed.j0
      repeat' first
      | (with_reducible exact ih0 _ _ _ _)
      | (with_reducible exact ih1 _ _ _)
      | (with_reducible exact ih2 _ _ _ _ _ _ _ _ _ _ _)
      | (with_reducible exact ih3 _ _ _ _ _ _ _ _ _ _ _)
      | (with_reducible exact rotalaw22_awake.mono _)
      | (with_reducible exact slice_Run.mono _ _ _ _ _ _ _ _ _ _)
      | (with_reducible exact LeO.refl _)
      | (with_reducible exact LeO.none _)
      | (with_reducible refine LeO.ite ?_ ?_)
      | (with_reducible refine LeO.bind ?_ (fun _ => ?_))
      | exact ih0 _ _ _ _
      | exact ih1 _ _ _
      | exact ih2 _ _ _ _ _ _ _ _ _ _ _
      | exact ih3 _ _ _ _ _ _ _ _ _ _ _
      | exact rotalaw22_awake.mono _
      | exact slice_Run.mono _ _ _ _ _ _ _ _ _ _
      | exact LeO.none _
      | refine LeO.ite ?_ ?_
      | refine LeO.bind ?_ (fun _ => ?_)
    · intro y0 y1 y2
      unfold rotalaw22_SliceUsed.j1
      repeat' first
      | (with_reducible exact ih0 _ _ _ _)
      | (with_reducible exact ih1 _ _ _)
      | (with_reducible exact ih2 _ _ _ _ _ _ _ _ _ _ _)
      | (with_reducible exact ih3 _ _ _ _ _ _ _ _ _ _ _)
      | (with_reducible exact rotalaw22_awake.mono _)
      | (with_reducible exact slice_Run.mono _ _ _ _ _ _ _ _ _ _)
      | (with_reducible exact LeO.refl _)
      | (with_reducible exact LeO.none _)
      | (with_reducible refine LeO.ite ?_ ?_)
      | (with_reducible refine LeO.bind ?_ (fun _ => ?_))
      | exact ih0 _ _ _ _
      | exact ih1 _ _ _
      | exact ih2 _ _ _ _ _ _ _ _ _ _ _
      | exact ih3 _ _ _ _ _ _ _ _ _ _ _
      | exact rotalaw22_awake.mono _
      | exact slice_Run.mono _ _ _ _ _ _ _ _ _ _
      | exact LeO.none _
      | refine LeO.ite ?_ ?_
      | refine LeO.bind ?_ (fun _ => ?_)
    · intro y0 y1 y2 y3 y4 y5 y6 y7 y8 y9 y10
      unfold rotalaw22_SliceUsed.j2
      repeat' first
      | (with_reducible exact ih0 _ _ _ _)
      | (with_reducible exact ih1 _ _ _)
      | (with_reducible exact ih2 _ _ _ _ _ _ _ _ _ _ _)
      | (with_reducible exact ih3 _ _ _ _ _ _ _ _ _ _ _)
      | (with_reducible exact rotalaw22_awake.mono _)
      | (with_reducible exact slice_Run.mono _ _ _ _ _ _ _ _ _ _)
      | (with_reducible exact LeO.refl _)
      | (with_reducible exact LeO.none _)
      | (with_reducible refine LeO.ite ?_ ?_)
      | (with_reducible refine LeO.bind ?_ (fun _ => ?_))
      | exact ih0 _ _ _ _
      | exact ih1 _ _ _
      | exact ih2 _ _ _ _ _ _ _ _ _ _ _
      | exact ih3 _ _ _ _ _ _ _ _ _ _ _
      | exact rotalaw22_awake.mono _
      | exact slice_Run.mono _ _ _ _ _ _ _ _ _ _
      | exact LeO.none _
      | refine LeO.ite ?_ ?_
      | refine LeO.bind ?_ (fun _ => ?_)
    · intro y0 y1 y2 y3 y4 y5 y6 y7 y8 y9 y10
      unfold rotalaw22_SliceUsed.j3
      repeat' first
      | (with_reducible exact ih0 _ _ _ _)
      | (with_reducible exact ih1 _ _ _)
      | (with_reducible exact ih2 _ _ _ _ _ _ _ _ _ _ _)
      | (with_reducible exact ih3 _ _ _ _ _ _ _ _ _ _ _)
      | (with_reducible exact rotalaw22_awake.mono _)
      | (with_reducible exact slice_Run.mono _ _ _ _ _ _ _ _ _ _)
      | (with_reducible exact LeO.refl _)
      | (with_reducible exact LeO.none _)
      | (with_reducible refine LeO.ite ?_ ?_)
      | (with_reducible refine LeO.bind ?_ (fun _ => ?_))
      | exact ih0 _ _ _ _
      | exact ih1 _ _ _
      | exact ih2 _ _ _ _ _ _ _ _ _ _ _
      | exact ih3 _ _ _ _ _ _ _ _ _ _ _
      | exact rotalaw22_awake.mono _
      | exact slice_Run.mono _ _ _ _ _ _ _ _ _ _
      | exact LeO.none _
      | refine LeO.ite ?_ ?_
      | refine LeO.bind ?_ (fun _ => ?_)
theorem rotalaw22_SliceUsed.mono : ∀ a0 a1 a2 k, LeO (rotalaw22_SliceUsed.f k a0 a1 a2) (rotalaw22_SliceUsed.f (k + 1) a0 a1 a2) := by
  intro a0 a1 a2 k
  obtain ⟨ih0, ih1, ih2, ih3⟩ := rotalaw22_SliceUsed.mono_l k
  unfold rotalaw22_SliceUsed.f
  repeat' first
      | (with_reducible exact ih0 _ _ _ _)
      | (with_reducible exact ih1 _ _ _)
      | (with_reducible exact ih2 _ _ _ _ _ _ _ _ _ _ _)
      | (with_reducible exact ih3 _ _ _ _ _ _ _ _ _ _ _)
      | (with_reducible exact rotalaw22_awake.mono _)
      | (with_reducible exact slice_Run.mono _ _ _ _ _ _ _ _ _ _)
      | (with_reducible exact LeO.refl _)
      | (with_reducible exact LeO.none _)
      | (with_reducible refine LeO.ite ?_ ?_)
      | (with_reducible refine LeO.bind ?_ (fun _ => ?_))
      | exact ih0 _ _ _ _
      | exact ih1 _ _ _
      | exact ih2 _ _ _ _ _ _ _ _ _ _ _
      | exact ih3 _ _ _ _ _ _ _ _ _ _ _
      | exact rotalaw22_awake.mono _
      | exact slice_Run.mono _ _ _ _ _ _ _ _ _ _
      | exact LeO.none _
      | refine LeO.ite ?_ ?_
      | refine LeO.bind ?_ (fun _ => ?_)
set_option maxHeartbeats 8000000 in
set_option maxRecDepth 100000 in
theorem rotalaw22_SliceUsed.calls (k : Nat) (a0 : Int) (A1 : Option Addr) (c1 : Nat) (l1 : List Int) (A2 : Option Addr) (c2 : Nat) (l2 : List Int) (r : Bool) (w : World) (hr1 : Kd.C (Kd.int .u64) w A1 l1.length l1) (hc1 : l1.length ≤ c1) (hr2 : Kd.C (Kd.int .u64) w A2 l2.length l2) (hc2 : l2.length ≤ c2) (h : rotalaw22_SliceUsed.f k a0 l1 l2 = some r) (hr_ : Aside0 (r = true)) :
    Calls Try.prog 10 #[.int .u64 a0, .slice A1 l1.length c1, .slice A2 l2.length c2] w fun e w' => e = .returned (.bool r) ∧ Below w.heap.size w w' := by
  have hu28 := Try.underlying28
  have hu26 := Try.underlying26
  have HR1 := Aside0.mk hr1
  have HC1 := Aside0.mk hc1
  clear hr1 hc1
  have HR2 := Aside0.mk hr2
  have HC2 := Aside0.mk hc2
  clear hr2 hc2
  have HB := Aside0.mk (Below.refl w.heap.size w)
  have H : (if a0 < 1 then (rotalaw22_SliceUsed.j0 k a0 l1 l2 true) else (rotalaw22_SliceUsed.j0 k a0 l1 l2 (decide (a0 > 200)))) = some r := h
  clear h
  have HC4 := Aside0.mk H
  clear H
  go_enter Try.func10, Try.ntmps10
  go_upto_region 1 with (fail)
  go_cut [22] (fun v22 wc => ∃ (kq : Nat) (x22_3 : Bool), v22 = .bool x22_3 ∧ Aside0 (rotalaw22_SliceUsed.j0 kq a0 l1 l2 x22_3 = some r) ∧ Aside0 (kq ≤ k) ∧ Aside0 (Below w.heap.size w wc))
  case first =>
    have H := HC4.out
    clear HC4
    by_cases c5 : a0 < 1
    · rw [if_pos c5] at H
      have c5b0 : decide (a0 < 1) = true := decide_eq_true c5
      clear c5
      (first | rw [c5b0] | (simp only [i64_w, i32_w]; rw [c5b0]) | skip)
      have H' := Aside0.mk H
      clear H
      go_wp2
      go_meet
      case rel => exact ⟨_, (true), (by first | rfl | (simp; done) | (simp [*]; done)), H', ⟨by first | omega | exact Nat.le_refl _⟩, ⟨by repeat (first | (with_reducible first | exact HB.out | apply below_alloc | apply pw_below_drewN | apply below_drew1) | exact HB.out)⟩⟩
    · rw [if_neg c5] at H
      have c5b0 : decide (a0 < 1) = false := decide_eq_false c5
      clear c5
      (first | rw [c5b0] | (simp only [i64_w, i32_w]; rw [c5b0]) | skip)
      have H' := Aside0.mk H
      clear H
      go_wp2
      go_meet
      case rel => exact ⟨_, (decide (a0 > 200)), (by first | rfl | (simp; done) | (simp [*]; done)), H', ⟨by first | omega | exact Nat.le_refl _⟩, ⟨by repeat (first | (with_reducible first | exact HB.out | apply below_alloc | apply pw_below_drewN | apply below_drew1) | exact HB.out)⟩⟩
  case rest =>
    clear HC4
    try clear c1
    try clear c2
    try clear p2
    try clear c5
    try clear c5b0
    obtain ⟨kq, x22_3, rfl, HA, HJ3, HB⟩ := hcut
    cases kq with
    | zero => exact absurd HA.out (by simp [rotalaw22_SliceUsed.j0])
    | succ kj3 =>
      have H := HA.out
      clear HA
      simp only [rotalaw22_SliceUsed.j0] at H
      have HC6 := Aside0.mk H
      clear H
      go_upto_if 22 with (fail)
      go_cut [0] (fun v0 wc => ∃ (kq : Nat) (x0_5 : Int), v0 = .int .u64 x0_5 ∧ Aside0 (rotalaw22_SliceUsed.j1 kq x0_5 l1 l2 = some r) ∧ Aside0 (kq ≤ kj3) ∧ Aside0 (Below w.heap.size w wc))
      case first =>
        have H := HC6.out
        clear HC6
        by_cases c7 : x22_3 = true
        · subst c7
          have H1 : (rotalaw22_SliceUsed.j1 kj3 (IntKind.u64.wrap ((Int.tmod a0 200) + 1)) l1 l2) = some r := by rw [if_pos rfl] at H; exact H
          clear H
          have H := H1
          clear H1
          have H' := Aside0.mk H
          clear H
          go_wp2
          go_meet
          case rel => exact ⟨_, (IntKind.u64.wrap ((Int.tmod a0 200) + 1)), (by first | rfl | (simp; done) | (simp [*]; done)), H', ⟨by have := HJ3.out; first | omega | exact Nat.le_refl _⟩, ⟨by repeat (first | (with_reducible first | exact HB.out | apply below_alloc | apply pw_below_drewN | apply below_drew1) | exact HB.out)⟩⟩
        · replace c7 := Bool.eq_false_iff.mpr c7
          subst c7
          have H1 : (rotalaw22_SliceUsed.j1 kj3 a0 l1 l2) = some r := by rw [if_neg (show ¬ (false = true) by decide)] at H; exact H
          clear H
          have H := H1
          clear H1
          have H' := Aside0.mk H
          clear H
          go_wp2
          go_meet
          case rel => exact ⟨_, (a0), (by first | rfl | (simp; done) | (simp [*]; done)), H', ⟨by have := HJ3.out; first | omega | exact Nat.le_refl _⟩, ⟨by repeat (first | (with_reducible first | exact HB.out | apply below_alloc | apply pw_below_drewN | apply below_drew1) | exact HB.out)⟩⟩
      case rest =>
        clear HC6
        try clear c1
        try clear c2
        try clear p2
        try clear c5
        try clear c5b0
        try clear c7
        try clear p2
        obtain ⟨kq, x0_5, rfl, HA, HJ5, HB⟩ := hcut
        cases kq with
        | zero => exact absurd HA.out (by simp [rotalaw22_SliceUsed.j1])
        | succ kj5 =>
          have H := HA.out
          clear HA
          simp only [rotalaw22_SliceUsed.j1] at H
          replace H := Option.bind_eq_some_iff.mp H
          obtain ⟨⟨t172, t173, t174, t175, t176, t177, t178, t179⟩, A80, H⟩ := H
          replace H : (if t179 = 0 then ((slice_Run.f kj5 t172 t173 t174 t175 t176 t177 t178 l1 18446744073709551615).bind fun bt181 => (if bt181.2.1 ≥ (IntKind.u64.wrap (x0_5 + 8)) then (rotalaw22_SliceUsed.j2 kj5 x0_5 l2 bt181.2.1 true bt181.2.2.1 bt181.2.2.2.1 bt181.2.2.2.2.1 bt181.2.2.2.2.2.1 bt181.2.2.2.2.2.2.1 bt181.2.2.2.2.2.2.2.1 bt181.2.2.2.2.2.2.2.2) else (rotalaw22_SliceUsed.j2 kj5 x0_5 l2 bt181.2.1 (decide (bt181.2.2.2.2.2.2.2.2 > 0)) bt181.2.2.1 bt181.2.2.2.1 bt181.2.2.2.2.1 bt181.2.2.2.2.2.1 bt181.2.2.2.2.2.2.1 bt181.2.2.2.2.2.2.2.1 bt181.2.2.2.2.2.2.2.2))) else (some false)) = some r := H
          have A8 := Aside0.mk A80
          clear A80
          by_cases c9 : t179 = 0
          · rw [if_pos c9] at H
            have c9b0 : (t179 == 0) = true := beq_iff_eq.mpr c9
            have c9b1 : (t179 != 0) = false := bne_eq_false_iff_eq.mpr c9
            clear c9
            replace H := Option.bind_eq_some_iff.mp H
            obtain ⟨⟨t181, t182, t183, t184, t185, t186, t187, t188, t189⟩, A100, H⟩ := H
            replace H : (if t182 ≥ (IntKind.u64.wrap (x0_5 + 8)) then (rotalaw22_SliceUsed.j2 kj5 x0_5 l2 t182 true t183 t184 t185 t186 t187 t188 t189) else (rotalaw22_SliceUsed.j2 kj5 x0_5 l2 t182 (decide (t189 > 0)) t183 t184 t185 t186 t187 t188 t189)) = some r := H
            have A10 := Aside0.mk A100
            clear A100
            have HC11 := Aside0.mk H
            clear H
            go_upto_region 7 with (first | ((with_reducible refine gate_callee (f := 11) rfl ?_); refine goesL_ (some 30) rfl rfl Try.func11 (by kernel_rfl) rfl #[.agg #[.bool false, .int .i64 0, .int .i64 0, .int .u64 0, .int .u64 0, .bool false, .int .u64 0], .agg #[.int .i64 0, .int .i64 0, .int .u64 1], .bool false, .int .u64 x0_5] rfl (by (try simp only [List.map_toArray, List.map_cons, List.map_nil]); first | done | rfl | (simp only [List.length_drop, List.length_take]; rfl)) ?_; (with_reducible refine (slice_Dispatch.calls false 0 0 0 0 false 0 0 0 1 false x0_5 t172 t173 t174 t175 t176 t177 t178 t179 _ A8.out).mono ?_); rintro e w12 ⟨rfl, hb⟩; refine ⟨_, rfl, ?_⟩; have n0_ := Aside0.mk (below_step (by repeat (first | (with_reducible first | exact HB.out | apply below_alloc | apply pw_below_drewN | apply below_drew1) | exact HB.out)) hb); clear HB; have HB := n0_; clear n0_; (try clear hb); (try clear hb2); (try clear hk); (try clear hi)) | ((with_reducible refine gate_dst (N := 7) rfl ?_); refine box_event ?hg (N := 7) ?hd (cs := #[.bool false, .int .i64 0, .int .i64 0, .int .u64 0, .int .u64 0, .bool false, .int .u64 0]) (t := 28) ?hr ?_; (case hd => rfl); (case hg => rfl); (case hr => first | (go_simp; done) | (go_simp; rfl)); intro gb180 hg w13 hbox hb; have n0_ := Aside0.mk (below_step (by repeat (first | (with_reducible first | exact HB.out | apply below_alloc | apply pw_below_drewN | apply below_drew1) | exact HB.out)) hb); have n1_ := Aside0.mk (hbox); have n2_ := Aside0.mk ((by rw [hg]; exact (below_size (by repeat (first | (with_reducible first | exact HB.out | apply below_alloc | apply pw_below_drewN | apply below_drew1) | exact HB.out))) : w.heap.size ≤ gb180)); have n3_ := Aside0.mk ((by rw [hg]; exact (below_size (by repeat (first | (with_reducible first | exact HB.out | apply below_alloc | apply pw_below_drewN | apply below_drew1) | exact HB.out))) : w.heap.size ≤ gb180)); clear HB; have HB := n0_; have BK180 := n1_; have GW180 := n2_; have GE180 := n3_; clear n0_ n1_ n2_ n3_; clear hb hbox hg; have hcz14_0 : w13.cell? ⟨gb180, 0, none⟩ = some (.bool false) := (blk_cell BK180.out 0).trans rfl; have hcz14_1 : w13.cell? ⟨gb180, 1, none⟩ = some (.int .i64 0) := (blk_cell BK180.out 1).trans rfl; have hcz14_2 : w13.cell? ⟨gb180, 2, none⟩ = some (.int .i64 0) := (blk_cell BK180.out 2).trans rfl; have hcz14_3 : w13.cell? ⟨gb180, 3, none⟩ = some (.int .u64 0) := (blk_cell BK180.out 3).trans rfl; have hcz14_4 : w13.cell? ⟨gb180, 4, none⟩ = some (.int .u64 0) := (blk_cell BK180.out 4).trans rfl; have hcz14_5 : w13.cell? ⟨gb180, 5, none⟩ = some (.bool false) := (blk_cell BK180.out 5).trans rfl; have hcz14_6 : w13.cell? ⟨gb180, 6, none⟩ = some (.int .u64 0) := (blk_cell BK180.out 6).trans rfl; have hfz14_0 := blk_frozen BK180.out 0; have hfz14_1 := blk_frozen BK180.out 1; have hfz14_2 := blk_frozen BK180.out 2; have hfz14_3 := blk_frozen BK180.out 3; have hfz14_4 := blk_frozen BK180.out 4; have hfz14_5 := blk_frozen BK180.out 5; have hfz14_6 := blk_frozen BK180.out 6) | ((with_reducible refine gate_callee (f := 27) rfl ?_); refine goesL_ (some 38) rfl rfl Try.func27 (by kernel_rfl) rfl #[.agg #[.bool t172, .int .i64 t173, .int .i64 t174, .int .u64 t175, .int .u64 t176, .bool t177, .int .u64 t178], .slice A1 l1.length c1, .int .u64 18446744073709551615] rfl (by (try simp only [List.map_toArray, List.map_cons, List.map_nil]); first | done | rfl | (simp only [List.length_drop, List.length_take]; rfl)) ?_; (with_reducible refine (slice_Run.calls kj5 t172 t173 t174 t175 t176 t177 t178 _ _ l1 18446744073709551615 t181 t182 t183 t184 t185 t186 t187 t188 t189 _ ?side1 ?side2 A10.out).mono ?_); (case side1 => exact Kd.C_below HR1.out (by repeat (first | (with_reducible first | exact HB.out | apply below_alloc | apply pw_below_drewN | apply below_drew1 | refine below_set ?_ GE180.out) | exact HB.out))); (case side2 => exact HC1.out); rintro e w15 ⟨rfl, hb⟩; refine ⟨_, rfl, ?_⟩; have n0_ := Aside0.mk (blk_below (g := gb180) (o := .cells #[.bool t172, .int .i64 t173, .int .i64 t174, .int .u64 t175, .int .u64 t176, .bool t177, .int .u64 t178] 28 (0, 0)) (by (with_reducible repeat (first | refine blk_drewN ?_ _ | refine blk_drew ?_ | refine blk_alloc ?_ _)); refine blk_put (cs := #[.bool t172, .int .i64 t173, .int .i64 t174, .int .u64 t175, .int .u64 t176, .bool t177, .int .u64 0]) ?_ 6 _ rfl; (with_reducible repeat (first | refine blk_drewN ?_ _ | refine blk_drew ?_ | refine blk_alloc ?_ _)); refine blk_put (cs := #[.bool t172, .int .i64 t173, .int .i64 t174, .int .u64 t175, .int .u64 t176, .bool false, .int .u64 0]) ?_ 5 _ rfl; (with_reducible repeat (first | refine blk_drewN ?_ _ | refine blk_drew ?_ | refine blk_alloc ?_ _)); refine blk_put (cs := #[.bool t172, .int .i64 t173, .int .i64 t174, .int .u64 t175, .int .u64 0, .bool false, .int .u64 0]) ?_ 4 _ rfl; (with_reducible repeat (first | refine blk_drewN ?_ _ | refine blk_drew ?_ | refine blk_alloc ?_ _)); refine blk_put (cs := #[.bool t172, .int .i64 t173, .int .i64 t174, .int .u64 0, .int .u64 0, .bool false, .int .u64 0]) ?_ 3 _ rfl; (with_reducible repeat (first | refine blk_drewN ?_ _ | refine blk_drew ?_ | refine blk_alloc ?_ _)); refine blk_put (cs := #[.bool t172, .int .i64 t173, .int .i64 0, .int .u64 0, .int .u64 0, .bool false, .int .u64 0]) ?_ 2 _ rfl; (with_reducible repeat (first | refine blk_drewN ?_ _ | refine blk_drew ?_ | refine blk_alloc ?_ _)); refine blk_put (cs := #[.bool t172, .int .i64 0, .int .i64 0, .int .u64 0, .int .u64 0, .bool false, .int .u64 0]) ?_ 1 _ rfl; (with_reducible repeat (first | refine blk_drewN ?_ _ | refine blk_drew ?_ | refine blk_alloc ?_ _)); refine blk_put (cs := #[.bool false, .int .i64 0, .int .i64 0, .int .u64 0, .int .u64 0, .bool false, .int .u64 0]) ?_ 0 _ rfl; (with_reducible repeat (first | refine blk_drewN ?_ _ | refine blk_drew ?_ | refine blk_alloc ?_ _)); exact BK180.out) hb); have n1_ := Aside0.mk (below_step (by repeat (first | (with_reducible first | exact HB.out | apply below_alloc | apply pw_below_drewN | apply below_drew1 | refine below_set ?_ GE180.out) | exact HB.out)) hb); clear BK180; clear HB; have BK180 := n0_; have HB := n1_; clear n0_ n1_; (try clear hb); (try clear hb2); (try clear hk); (try clear hi); have hcz16_0 : w15.cell? ⟨gb180, 0, none⟩ = some (.bool t172) := (blk_cell BK180.out 0).trans rfl; have hcz16_1 : w15.cell? ⟨gb180, 1, none⟩ = some (.int .i64 t173) := (blk_cell BK180.out 1).trans rfl; have hcz16_2 : w15.cell? ⟨gb180, 2, none⟩ = some (.int .i64 t174) := (blk_cell BK180.out 2).trans rfl; have hcz16_3 : w15.cell? ⟨gb180, 3, none⟩ = some (.int .u64 t175) := (blk_cell BK180.out 3).trans rfl; have hcz16_4 : w15.cell? ⟨gb180, 4, none⟩ = some (.int .u64 t176) := (blk_cell BK180.out 4).trans rfl; have hcz16_5 : w15.cell? ⟨gb180, 5, none⟩ = some (.bool t177) := (blk_cell BK180.out 5).trans rfl; have hcz16_6 : w15.cell? ⟨gb180, 6, none⟩ = some (.int .u64 t178) := (blk_cell BK180.out 6).trans rfl; have hfz16_0 := blk_frozen BK180.out 0; have hfz16_1 := blk_frozen BK180.out 1; have hfz16_2 := blk_frozen BK180.out 2; have hfz16_3 := blk_frozen BK180.out 3; have hfz16_4 := blk_frozen BK180.out 4; have hfz16_5 := blk_frozen BK180.out 5; have hfz16_6 := blk_frozen BK180.out 6))
            (try simp only [Act.put, List.setIfInBounds_toArray, List.set_cons_zero, List.set_cons_succ])
            go_cut [50] (fun v50 wc => ∃ (kq : Nat) (x50_10 : Bool), v50 = .bool x50_10 ∧ Aside0 (rotalaw22_SliceUsed.j2 kq x0_5 l2 t182 x50_10 t183 t184 t185 t186 t187 t188 t189 = some r) ∧ Aside0 (kq ≤ kj5) ∧ Aside0 (wc.heap[gb180]? = some (.cells #[.bool t183, .int .i64 t184, .int .i64 t185, .int .u64 t186, .int .u64 t187, .bool t188, .int .u64 t189] 28 (0, 0))) ∧ Aside0 (Below w.heap.size w wc))
            case first =>
              have H := HC11.out
              clear HC11
              by_cases c17 : t182 ≥ (IntKind.u64.wrap (x0_5 + 8))
              · rw [if_pos c17] at H
                have c17b0 : decide ((IntKind.u64.wrap (x0_5 + 8)) ≤ t182) = true := decide_eq_true c17
                clear c17
                (first | rw [c17b0] | (simp only [i64_w, i32_w]; rw [c17b0]) | skip)
                have H' := Aside0.mk H
                clear H
                go_wp2
                go_meet
                case rel => exact ⟨_, (true), (by first | rfl | (simp; done) | (simp [*]; done)), H', ⟨by have := HJ3.out; have := HJ5.out; first | omega | exact Nat.le_refl _⟩, ⟨by (with_reducible repeat (first | refine blk_drewN ?_ _ | refine blk_drew ?_ | refine blk_alloc ?_ _)); refine blk_put (cs := #[.bool t183, .int .i64 t184, .int .i64 t185, .int .u64 t186, .int .u64 t187, .bool t188, .int .u64 t178]) ?_ 6 _ rfl; (with_reducible repeat (first | refine blk_drewN ?_ _ | refine blk_drew ?_ | refine blk_alloc ?_ _)); refine blk_put (cs := #[.bool t183, .int .i64 t184, .int .i64 t185, .int .u64 t186, .int .u64 t187, .bool t177, .int .u64 t178]) ?_ 5 _ rfl; (with_reducible repeat (first | refine blk_drewN ?_ _ | refine blk_drew ?_ | refine blk_alloc ?_ _)); refine blk_put (cs := #[.bool t183, .int .i64 t184, .int .i64 t185, .int .u64 t186, .int .u64 t176, .bool t177, .int .u64 t178]) ?_ 4 _ rfl; (with_reducible repeat (first | refine blk_drewN ?_ _ | refine blk_drew ?_ | refine blk_alloc ?_ _)); refine blk_put (cs := #[.bool t183, .int .i64 t184, .int .i64 t185, .int .u64 t175, .int .u64 t176, .bool t177, .int .u64 t178]) ?_ 3 _ rfl; (with_reducible repeat (first | refine blk_drewN ?_ _ | refine blk_drew ?_ | refine blk_alloc ?_ _)); refine blk_put (cs := #[.bool t183, .int .i64 t184, .int .i64 t174, .int .u64 t175, .int .u64 t176, .bool t177, .int .u64 t178]) ?_ 2 _ rfl; (with_reducible repeat (first | refine blk_drewN ?_ _ | refine blk_drew ?_ | refine blk_alloc ?_ _)); refine blk_put (cs := #[.bool t183, .int .i64 t173, .int .i64 t174, .int .u64 t175, .int .u64 t176, .bool t177, .int .u64 t178]) ?_ 1 _ rfl; (with_reducible repeat (first | refine blk_drewN ?_ _ | refine blk_drew ?_ | refine blk_alloc ?_ _)); refine blk_put (cs := #[.bool t172, .int .i64 t173, .int .i64 t174, .int .u64 t175, .int .u64 t176, .bool t177, .int .u64 t178]) ?_ 0 _ rfl; (with_reducible repeat (first | refine blk_drewN ?_ _ | refine blk_drew ?_ | refine blk_alloc ?_ _)); exact BK180.out⟩, ⟨by repeat (first | (with_reducible first | exact HB.out | apply below_alloc | apply pw_below_drewN | apply below_drew1 | refine below_set ?_ GE180.out) | exact HB.out)⟩⟩
              · rw [if_neg c17] at H
                have c17b0 : decide ((IntKind.u64.wrap (x0_5 + 8)) ≤ t182) = false := decide_eq_false c17
                clear c17
                (first | rw [c17b0] | (simp only [i64_w, i32_w]; rw [c17b0]) | skip)
                have H' := Aside0.mk H
                clear H
                have hcz18_0 : w15.cell? ⟨gb180, 0, none⟩ = some (.bool t172) := (blk_cell BK180.out 0).trans rfl
                have hcz18_1 : w15.cell? ⟨gb180, 1, none⟩ = some (.int .i64 t173) := (blk_cell BK180.out 1).trans rfl
                have hcz18_2 : w15.cell? ⟨gb180, 2, none⟩ = some (.int .i64 t174) := (blk_cell BK180.out 2).trans rfl
                have hcz18_3 : w15.cell? ⟨gb180, 3, none⟩ = some (.int .u64 t175) := (blk_cell BK180.out 3).trans rfl
                have hcz18_4 : w15.cell? ⟨gb180, 4, none⟩ = some (.int .u64 t176) := (blk_cell BK180.out 4).trans rfl
                have hcz18_5 : w15.cell? ⟨gb180, 5, none⟩ = some (.bool t177) := (blk_cell BK180.out 5).trans rfl
                have hcz18_6 : w15.cell? ⟨gb180, 6, none⟩ = some (.int .u64 t178) := (blk_cell BK180.out 6).trans rfl
                have hfz18_0 := blk_frozen BK180.out 0
                have hfz18_1 := blk_frozen BK180.out 1
                have hfz18_2 := blk_frozen BK180.out 2
                have hfz18_3 := blk_frozen BK180.out 3
                have hfz18_4 := blk_frozen BK180.out 4
                have hfz18_5 := blk_frozen BK180.out 5
                have hfz18_6 := blk_frozen BK180.out 6
                go_wp2
                go_meet
                case rel => exact ⟨_, (decide (t189 > 0)), (by first | rfl | (simp; done) | (simp [*]; done)), H', ⟨by have := HJ3.out; have := HJ5.out; first | omega | exact Nat.le_refl _⟩, ⟨by (with_reducible repeat (first | refine blk_drewN ?_ _ | refine blk_drew ?_ | refine blk_alloc ?_ _)); refine blk_put (cs := #[.bool t183, .int .i64 t184, .int .i64 t185, .int .u64 t186, .int .u64 t187, .bool t188, .int .u64 t178]) ?_ 6 _ rfl; (with_reducible repeat (first | refine blk_drewN ?_ _ | refine blk_drew ?_ | refine blk_alloc ?_ _)); refine blk_put (cs := #[.bool t183, .int .i64 t184, .int .i64 t185, .int .u64 t186, .int .u64 t187, .bool t177, .int .u64 t178]) ?_ 5 _ rfl; (with_reducible repeat (first | refine blk_drewN ?_ _ | refine blk_drew ?_ | refine blk_alloc ?_ _)); refine blk_put (cs := #[.bool t183, .int .i64 t184, .int .i64 t185, .int .u64 t186, .int .u64 t176, .bool t177, .int .u64 t178]) ?_ 4 _ rfl; (with_reducible repeat (first | refine blk_drewN ?_ _ | refine blk_drew ?_ | refine blk_alloc ?_ _)); refine blk_put (cs := #[.bool t183, .int .i64 t184, .int .i64 t185, .int .u64 t175, .int .u64 t176, .bool t177, .int .u64 t178]) ?_ 3 _ rfl; (with_reducible repeat (first | refine blk_drewN ?_ _ | refine blk_drew ?_ | refine blk_alloc ?_ _)); refine blk_put (cs := #[.bool t183, .int .i64 t184, .int .i64 t174, .int .u64 t175, .int .u64 t176, .bool t177, .int .u64 t178]) ?_ 2 _ rfl; (with_reducible repeat (first | refine blk_drewN ?_ _ | refine blk_drew ?_ | refine blk_alloc ?_ _)); refine blk_put (cs := #[.bool t183, .int .i64 t173, .int .i64 t174, .int .u64 t175, .int .u64 t176, .bool t177, .int .u64 t178]) ?_ 1 _ rfl; (with_reducible repeat (first | refine blk_drewN ?_ _ | refine blk_drew ?_ | refine blk_alloc ?_ _)); refine blk_put (cs := #[.bool t172, .int .i64 t173, .int .i64 t174, .int .u64 t175, .int .u64 t176, .bool t177, .int .u64 t178]) ?_ 0 _ rfl; (with_reducible repeat (first | refine blk_drewN ?_ _ | refine blk_drew ?_ | refine blk_alloc ?_ _)); exact BK180.out⟩, ⟨by repeat (first | (with_reducible first | exact HB.out | apply below_alloc | apply pw_below_drewN | apply below_drew1 | refine below_set ?_ GE180.out) | exact HB.out)⟩⟩
            case rest =>
              clear HC11
              try clear c1
              try clear c2
              try clear p2
              try clear c5
              try clear c5b0
              try clear c7
              try clear c9
              try clear c9b0
              try clear c9b1
              try clear c10
              try clear c11
              try clear c17
              try clear c17b0
              try clear hcz14_0
              try clear hcz14_1
              try clear hcz14_2
              try clear hcz14_3
              try clear hcz14_4
              try clear hcz14_5
              try clear hcz14_6
              try clear hcz16_0
              try clear hcz16_1
              try clear hcz16_2
              try clear hcz16_3
              try clear hcz16_4
              try clear hcz16_5
              try clear hcz16_6
              try clear hcz18_0
              try clear hcz18_1
              try clear hcz18_2
              try clear hcz18_3
              try clear hcz18_4
              try clear hcz18_5
              try clear hcz18_6
              try clear hfz14_0
              try clear hfz14_1
              try clear hfz14_2
              try clear hfz14_3
              try clear hfz14_4
              try clear hfz14_5
              try clear hfz14_6
              try clear hfz16_0
              try clear hfz16_1
              try clear hfz16_2
              try clear hfz16_3
              try clear hfz16_4
              try clear hfz16_5
              try clear hfz16_6
              try clear hfz18_0
              try clear hfz18_1
              try clear hfz18_2
              try clear hfz18_3
              try clear hfz18_4
              try clear hfz18_5
              try clear hfz18_6
              try clear p2
              obtain ⟨kq, x50_10, rfl, HA, HJ10, BK180, HB⟩ := hcut
              cases kq with
              | zero => exact absurd HA.out (by simp [rotalaw22_SliceUsed.j2])
              | succ kj10 =>
                have H := HA.out
                clear HA
                simp only [rotalaw22_SliceUsed.j2] at H
                by_cases c19 : x50_10 = true
                · subst c19
                  have H1 : (some false) = some r := by rw [if_pos rfl] at H; exact H
                  clear H
                  have H := H1
                  clear H1
                  exact absurd (hr_.out ▸ H) (by decide)
                · replace c19 := Bool.eq_false_iff.mpr c19
                  subst c19
                  have H1 : ((slice_Leave.f t183 t184 t185 t186 t187 t188 t189).bind fun bt190 => (if bt190.2.2.2.2.2.2.2.2.2.2.2 = 0 then (rotalaw22_SliceUsed.j3 kj10 x0_5 l2 t182 (bt190.2.2.2.2.2.2.2.2.2.2.1 != (decide (t182 > 0))) bt190.1 bt190.2.1 bt190.2.2.1 bt190.2.2.2.1 bt190.2.2.2.2.1 bt190.2.2.2.2.2.1 bt190.2.2.2.2.2.2.1) else (rotalaw22_SliceUsed.j3 kj10 x0_5 l2 t182 true bt190.1 bt190.2.1 bt190.2.2.1 bt190.2.2.2.1 bt190.2.2.2.2.1 bt190.2.2.2.2.2.1 bt190.2.2.2.2.2.2.1))) = some r := by rw [if_neg (show ¬ (false = true) by decide)] at H; exact H
                  clear H
                  have H := H1
                  clear H1
                  replace H := Option.bind_eq_some_iff.mp H
                  obtain ⟨⟨t190, t191, t192, t193, t194, t195, t196, t197, t198, t199, t200, t201⟩, A200, H⟩ := H
                  replace H : (if t201 = 0 then (rotalaw22_SliceUsed.j3 kj10 x0_5 l2 t182 (t200 != (decide (t182 > 0))) t190 t191 t192 t193 t194 t195 t196) else (rotalaw22_SliceUsed.j3 kj10 x0_5 l2 t182 true t190 t191 t192 t193 t194 t195 t196)) = some r := H
                  have A20 := Aside0.mk A200
                  clear A200
                  have HC21 := Aside0.mk H
                  clear H
                  have hcz22_0 : wc.cell? ⟨gb180, 0, none⟩ = some (.bool t183) := (blk_cell BK180.out 0).trans rfl
                  have hcz22_1 : wc.cell? ⟨gb180, 1, none⟩ = some (.int .i64 t184) := (blk_cell BK180.out 1).trans rfl
                  have hcz22_2 : wc.cell? ⟨gb180, 2, none⟩ = some (.int .i64 t185) := (blk_cell BK180.out 2).trans rfl
                  have hcz22_3 : wc.cell? ⟨gb180, 3, none⟩ = some (.int .u64 t186) := (blk_cell BK180.out 3).trans rfl
                  have hcz22_4 : wc.cell? ⟨gb180, 4, none⟩ = some (.int .u64 t187) := (blk_cell BK180.out 4).trans rfl
                  have hcz22_5 : wc.cell? ⟨gb180, 5, none⟩ = some (.bool t188) := (blk_cell BK180.out 5).trans rfl
                  have hcz22_6 : wc.cell? ⟨gb180, 6, none⟩ = some (.int .u64 t189) := (blk_cell BK180.out 6).trans rfl
                  have hfz22_0 := blk_frozen BK180.out 0
                  have hfz22_1 := blk_frozen BK180.out 1
                  have hfz22_2 := blk_frozen BK180.out 2
                  have hfz22_3 := blk_frozen BK180.out 3
                  have hfz22_4 := blk_frozen BK180.out 4
                  have hfz22_5 := blk_frozen BK180.out 5
                  have hfz22_6 := blk_frozen BK180.out 6
                  go_upto_region 10 with (first | ((with_reducible refine gate_callee (f := 20) rfl ?_); refine goesL_ (some 53) rfl rfl Try.func20 (by kernel_rfl) rfl #[.agg #[.bool t183, .int .i64 t184, .int .i64 t185, .int .u64 t186, .int .u64 t187, .bool t188, .int .u64 t189]] rfl (by (try simp only [List.map_toArray, List.map_cons, List.map_nil]); first | done | rfl | (simp only [List.length_drop, List.length_take]; rfl)) ?_; (with_reducible refine (slice_Leave.calls t183 t184 t185 t186 t187 t188 t189 t190 t191 t192 t193 t194 t195 t196 t197 t198 t199 t200 t201 _ A20.out).mono ?_); rintro e w23 ⟨rfl, hb⟩; refine ⟨_, rfl, ?_⟩; have n0_ := Aside0.mk (blk_below (g := gb180) (o := .cells #[.bool t183, .int .i64 t184, .int .i64 t185, .int .u64 t186, .int .u64 t187, .bool t188, .int .u64 t189] 28 (0, 0)) (by (with_reducible repeat (first | refine blk_drewN ?_ _ | refine blk_drew ?_ | refine blk_alloc ?_ _)); exact BK180.out) hb); have n1_ := Aside0.mk (below_step (by repeat (first | (with_reducible first | exact HB.out | apply below_alloc | apply pw_below_drewN | apply below_drew1 | refine below_set ?_ GE180.out) | exact HB.out)) hb); clear BK180; clear HB; have BK180 := n0_; have HB := n1_; clear n0_ n1_; (try clear hb); (try clear hb2); (try clear hk); (try clear hi)) | ((with_reducible refine gate_dst (N := 11) rfl ?_); refine box_event ?hg (N := 11) ?hd (cs := #[.int .i64 0, .int .i64 0, .int .u64 0]) (t := 26) ?hr ?_; (case hd => rfl); (case hg => rfl); (case hr => first | (go_simp; done) | (go_simp; rfl)); intro gb202 hg w24 hbox hb; have n0_ := Aside0.mk (blk_below (g := gb180) (o := .cells #[.bool t183, .int .i64 t184, .int .i64 t185, .int .u64 t186, .int .u64 t187, .bool t188, .int .u64 t189] 28 (0, 0)) (by (with_reducible repeat (first | refine blk_drewN ?_ _ | refine blk_drew ?_ | refine blk_alloc ?_ _)); exact BK180.out) hb); have n1_ := Aside0.mk (below_step (by repeat (first | (with_reducible first | exact HB.out | apply below_alloc | apply pw_below_drewN | apply below_drew1 | refine below_set ?_ GE180.out) | exact HB.out)) hb); have n2_ := Aside0.mk (hbox); have n3_ := Aside0.mk ((by rw [hg]; exact (below_size (by repeat (first | (with_reducible first | exact HB.out | apply below_alloc | apply pw_below_drewN | apply below_drew1 | refine below_set ?_ GE180.out) | exact HB.out))) : w.heap.size ≤ gb202)); have n4_ := Aside0.mk ((by rw [hg]; exact (below_size (by repeat (first | (with_reducible first | exact HB.out | apply below_alloc | apply pw_below_drewN | apply below_drew1 | refine below_set ?_ GE180.out) | exact HB.out))) : w.heap.size ≤ gb202)); have n5_ := Aside0.mk ((by rw [hg]; exact Nat.ne_of_lt (blk_lt (g := gb180) (o := .cells #[.bool t183, .int .i64 t184, .int .i64 t185, .int .u64 t186, .int .u64 t187, .bool t188, .int .u64 t189] 28 (0, 0)) (by (with_reducible repeat (first | refine blk_drewN ?_ _ | refine blk_drew ?_ | refine blk_alloc ?_ _)); exact BK180.out)) : gb180 ≠ gb202)); have n6_ := Aside0.mk ((by rw [hg]; exact Nat.ne_of_gt (blk_lt (g := gb180) (o := .cells #[.bool t183, .int .i64 t184, .int .i64 t185, .int .u64 t186, .int .u64 t187, .bool t188, .int .u64 t189] 28 (0, 0)) (by (with_reducible repeat (first | refine blk_drewN ?_ _ | refine blk_drew ?_ | refine blk_alloc ?_ _)); exact BK180.out)) : gb202 ≠ gb180)); clear BK180; clear HB; have BK180 := n0_; have HB := n1_; have BK202 := n2_; have GW202 := n3_; have GE202 := n4_; have NB180_202 := n5_; have NB202_180 := n6_; clear n0_ n1_ n2_ n3_ n4_ n5_ n6_; clear hb hbox hg; have hnb25 := NB180_202.out; have hnc25 := NB202_180.out; have hcz26_0 : w24.cell? ⟨gb180, 0, none⟩ = some (.bool t183) := (blk_cell BK180.out 0).trans rfl; have hcz26_1 : w24.cell? ⟨gb180, 1, none⟩ = some (.int .i64 t184) := (blk_cell BK180.out 1).trans rfl; have hcz26_2 : w24.cell? ⟨gb180, 2, none⟩ = some (.int .i64 t185) := (blk_cell BK180.out 2).trans rfl; have hcz26_3 : w24.cell? ⟨gb180, 3, none⟩ = some (.int .u64 t186) := (blk_cell BK180.out 3).trans rfl; have hcz26_4 : w24.cell? ⟨gb180, 4, none⟩ = some (.int .u64 t187) := (blk_cell BK180.out 4).trans rfl; have hcz26_5 : w24.cell? ⟨gb180, 5, none⟩ = some (.bool t188) := (blk_cell BK180.out 5).trans rfl; have hcz26_6 : w24.cell? ⟨gb180, 6, none⟩ = some (.int .u64 t189) := (blk_cell BK180.out 6).trans rfl; have hfz26_0 := blk_frozen BK180.out 0; have hfz26_1 := blk_frozen BK180.out 1; have hfz26_2 := blk_frozen BK180.out 2; have hfz26_3 := blk_frozen BK180.out 3; have hfz26_4 := blk_frozen BK180.out 4; have hfz26_5 := blk_frozen BK180.out 5; have hfz26_6 := blk_frozen BK180.out 6; have hcz27_0 : w24.cell? ⟨gb202, 0, none⟩ = some (.int .i64 0) := (blk_cell BK202.out 0).trans rfl; have hcz27_1 : w24.cell? ⟨gb202, 1, none⟩ = some (.int .i64 0) := (blk_cell BK202.out 1).trans rfl; have hcz27_2 : w24.cell? ⟨gb202, 2, none⟩ = some (.int .u64 0) := (blk_cell BK202.out 2).trans rfl; have hfz27_0 := blk_frozen BK202.out 0; have hfz27_1 := blk_frozen BK202.out 1; have hfz27_2 := blk_frozen BK202.out 2))
                  (try simp only [Act.put, List.setIfInBounds_toArray, List.set_cons_zero, List.set_cons_succ])
                  go_cut [65] (fun v65 wc => ∃ (kq : Nat) (x65_20 : Bool), v65 = .bool x65_20 ∧ Aside0 (rotalaw22_SliceUsed.j3 kq x0_5 l2 t182 x65_20 t190 t191 t192 t193 t194 t195 t196 = some r) ∧ Aside0 (kq ≤ kj10) ∧ Aside0 (wc.heap[gb180]? = some (.cells #[.bool t190, .int .i64 t191, .int .i64 t192, .int .u64 t193, .int .u64 t194, .bool t195, .int .u64 t196] 28 (0, 0))) ∧ Aside0 (wc.heap[gb202]? = some (.cells #[.int .i64 t197, .int .i64 t198, .int .u64 t199] 26 (0, 0))) ∧ Aside0 (Below w.heap.size w wc))
                  case first =>
                    have H := HC21.out
                    clear HC21
                    by_cases c28 : t201 = 0
                    · rw [if_pos c28] at H
                      have c28b0 : (t201 == 0) = true := beq_iff_eq.mpr c28
                      have c28b1 : (t201 != 0) = false := bne_eq_false_iff_eq.mpr c28
                      clear c28
                      (first | rw [c28b0] | (simp only [i64_w, i32_w]; rw [c28b0]) | skip)
                      have H' := Aside0.mk H
                      clear H
                      go_wp2
                      go_meet
                      case rel => exact ⟨_, ((t200 != (decide (t182 > 0)))), (by first | rfl | (simp; done) | (simp [*]; done)), H', ⟨by have := HJ3.out; have := HJ5.out; have := HJ10.out; first | omega | exact Nat.le_refl _⟩, ⟨by (with_reducible repeat (first | refine blk_drewN ?_ _ | refine blk_drew ?_ | refine blk_alloc ?_ _)); refine blk_far ?_ NB180_202.out _; (with_reducible repeat (first | refine blk_drewN ?_ _ | refine blk_drew ?_ | refine blk_alloc ?_ _)); refine blk_far ?_ NB180_202.out _; (with_reducible repeat (first | refine blk_drewN ?_ _ | refine blk_drew ?_ | refine blk_alloc ?_ _)); refine blk_far ?_ NB180_202.out _; (with_reducible repeat (first | refine blk_drewN ?_ _ | refine blk_drew ?_ | refine blk_alloc ?_ _)); refine blk_put (cs := #[.bool t190, .int .i64 t191, .int .i64 t192, .int .u64 t193, .int .u64 t194, .bool t195, .int .u64 t189]) ?_ 6 _ rfl; (with_reducible repeat (first | refine blk_drewN ?_ _ | refine blk_drew ?_ | refine blk_alloc ?_ _)); refine blk_put (cs := #[.bool t190, .int .i64 t191, .int .i64 t192, .int .u64 t193, .int .u64 t194, .bool t188, .int .u64 t189]) ?_ 5 _ rfl; (with_reducible repeat (first | refine blk_drewN ?_ _ | refine blk_drew ?_ | refine blk_alloc ?_ _)); refine blk_put (cs := #[.bool t190, .int .i64 t191, .int .i64 t192, .int .u64 t193, .int .u64 t187, .bool t188, .int .u64 t189]) ?_ 4 _ rfl; (with_reducible repeat (first | refine blk_drewN ?_ _ | refine blk_drew ?_ | refine blk_alloc ?_ _)); refine blk_put (cs := #[.bool t190, .int .i64 t191, .int .i64 t192, .int .u64 t186, .int .u64 t187, .bool t188, .int .u64 t189]) ?_ 3 _ rfl; (with_reducible repeat (first | refine blk_drewN ?_ _ | refine blk_drew ?_ | refine blk_alloc ?_ _)); refine blk_put (cs := #[.bool t190, .int .i64 t191, .int .i64 t185, .int .u64 t186, .int .u64 t187, .bool t188, .int .u64 t189]) ?_ 2 _ rfl; (with_reducible repeat (first | refine blk_drewN ?_ _ | refine blk_drew ?_ | refine blk_alloc ?_ _)); refine blk_put (cs := #[.bool t190, .int .i64 t184, .int .i64 t185, .int .u64 t186, .int .u64 t187, .bool t188, .int .u64 t189]) ?_ 1 _ rfl; (with_reducible repeat (first | refine blk_drewN ?_ _ | refine blk_drew ?_ | refine blk_alloc ?_ _)); refine blk_put (cs := #[.bool t183, .int .i64 t184, .int .i64 t185, .int .u64 t186, .int .u64 t187, .bool t188, .int .u64 t189]) ?_ 0 _ rfl; (with_reducible repeat (first | refine blk_drewN ?_ _ | refine blk_drew ?_ | refine blk_alloc ?_ _)); exact BK180.out⟩, ⟨by (with_reducible repeat (first | refine blk_drewN ?_ _ | refine blk_drew ?_ | refine blk_alloc ?_ _)); refine blk_put (cs := #[.int .i64 t197, .int .i64 t198, .int .u64 0]) ?_ 2 _ rfl; (with_reducible repeat (first | refine blk_drewN ?_ _ | refine blk_drew ?_ | refine blk_alloc ?_ _)); refine blk_put (cs := #[.int .i64 t197, .int .i64 0, .int .u64 0]) ?_ 1 _ rfl; (with_reducible repeat (first | refine blk_drewN ?_ _ | refine blk_drew ?_ | refine blk_alloc ?_ _)); refine blk_put (cs := #[.int .i64 0, .int .i64 0, .int .u64 0]) ?_ 0 _ rfl; (with_reducible repeat (first | refine blk_drewN ?_ _ | refine blk_drew ?_ | refine blk_alloc ?_ _)); refine blk_far ?_ NB202_180.out _; (with_reducible repeat (first | refine blk_drewN ?_ _ | refine blk_drew ?_ | refine blk_alloc ?_ _)); refine blk_far ?_ NB202_180.out _; (with_reducible repeat (first | refine blk_drewN ?_ _ | refine blk_drew ?_ | refine blk_alloc ?_ _)); refine blk_far ?_ NB202_180.out _; (with_reducible repeat (first | refine blk_drewN ?_ _ | refine blk_drew ?_ | refine blk_alloc ?_ _)); refine blk_far ?_ NB202_180.out _; (with_reducible repeat (first | refine blk_drewN ?_ _ | refine blk_drew ?_ | refine blk_alloc ?_ _)); refine blk_far ?_ NB202_180.out _; (with_reducible repeat (first | refine blk_drewN ?_ _ | refine blk_drew ?_ | refine blk_alloc ?_ _)); refine blk_far ?_ NB202_180.out _; (with_reducible repeat (first | refine blk_drewN ?_ _ | refine blk_drew ?_ | refine blk_alloc ?_ _)); refine blk_far ?_ NB202_180.out _; (with_reducible repeat (first | refine blk_drewN ?_ _ | refine blk_drew ?_ | refine blk_alloc ?_ _)); exact BK202.out⟩, ⟨by repeat (first | (with_reducible first | exact HB.out | apply below_alloc | apply pw_below_drewN | apply below_drew1 | refine below_set ?_ GE180.out | refine below_set ?_ GE202.out) | exact HB.out)⟩⟩
                    · rw [if_neg c28] at H
                      have c28b0 : (t201 == 0) = false := beq_eq_false_iff_ne.mpr c28
                      have c28b1 : (t201 != 0) = true := bne_iff_ne.mpr c28
                      (first | rw [c28b0] | (simp only [i64_w, i32_w]; rw [c28b0]) | skip)
                      have H' := Aside0.mk H
                      clear H
                      go_wp2
                      go_meet
                      case rel => exact ⟨_, (true), (by first | rfl | (simp; done) | (simp [*]; done)), H', ⟨by have := HJ3.out; have := HJ5.out; have := HJ10.out; first | omega | exact Nat.le_refl _⟩, ⟨by (with_reducible repeat (first | refine blk_drewN ?_ _ | refine blk_drew ?_ | refine blk_alloc ?_ _)); refine blk_far ?_ NB180_202.out _; (with_reducible repeat (first | refine blk_drewN ?_ _ | refine blk_drew ?_ | refine blk_alloc ?_ _)); refine blk_far ?_ NB180_202.out _; (with_reducible repeat (first | refine blk_drewN ?_ _ | refine blk_drew ?_ | refine blk_alloc ?_ _)); refine blk_far ?_ NB180_202.out _; (with_reducible repeat (first | refine blk_drewN ?_ _ | refine blk_drew ?_ | refine blk_alloc ?_ _)); refine blk_put (cs := #[.bool t190, .int .i64 t191, .int .i64 t192, .int .u64 t193, .int .u64 t194, .bool t195, .int .u64 t189]) ?_ 6 _ rfl; (with_reducible repeat (first | refine blk_drewN ?_ _ | refine blk_drew ?_ | refine blk_alloc ?_ _)); refine blk_put (cs := #[.bool t190, .int .i64 t191, .int .i64 t192, .int .u64 t193, .int .u64 t194, .bool t188, .int .u64 t189]) ?_ 5 _ rfl; (with_reducible repeat (first | refine blk_drewN ?_ _ | refine blk_drew ?_ | refine blk_alloc ?_ _)); refine blk_put (cs := #[.bool t190, .int .i64 t191, .int .i64 t192, .int .u64 t193, .int .u64 t187, .bool t188, .int .u64 t189]) ?_ 4 _ rfl; (with_reducible repeat (first | refine blk_drewN ?_ _ | refine blk_drew ?_ | refine blk_alloc ?_ _)); refine blk_put (cs := #[.bool t190, .int .i64 t191, .int .i64 t192, .int .u64 t186, .int .u64 t187, .bool t188, .int .u64 t189]) ?_ 3 _ rfl; (with_reducible repeat (first | refine blk_drewN ?_ _ | refine blk_drew ?_ | refine blk_alloc ?_ _)); refine blk_put (cs := #[.bool t190, .int .i64 t191, .int .i64 t185, .int .u64 t186, .int .u64 t187, .bool t188, .int .u64 t189]) ?_ 2 _ rfl; (with_reducible repeat (first | refine blk_drewN ?_ _ | refine blk_drew ?_ | refine blk_alloc ?_ _)); refine blk_put (cs := #[.bool t190, .int .i64 t184, .int .i64 t185, .int .u64 t186, .int .u64 t187, .bool t188, .int .u64 t189]) ?_ 1 _ rfl; (with_reducible repeat (first | refine blk_drewN ?_ _ | refine blk_drew ?_ | refine blk_alloc ?_ _)); refine blk_put (cs := #[.bool t183, .int .i64 t184, .int .i64 t185, .int .u64 t186, .int .u64 t187, .bool t188, .int .u64 t189]) ?_ 0 _ rfl; (with_reducible repeat (first | refine blk_drewN ?_ _ | refine blk_drew ?_ | refine blk_alloc ?_ _)); exact BK180.out⟩, ⟨by (with_reducible repeat (first | refine blk_drewN ?_ _ | refine blk_drew ?_ | refine blk_alloc ?_ _)); refine blk_put (cs := #[.int .i64 t197, .int .i64 t198, .int .u64 0]) ?_ 2 _ rfl; (with_reducible repeat (first | refine blk_drewN ?_ _ | refine blk_drew ?_ | refine blk_alloc ?_ _)); refine blk_put (cs := #[.int .i64 t197, .int .i64 0, .int .u64 0]) ?_ 1 _ rfl; (with_reducible repeat (first | refine blk_drewN ?_ _ | refine blk_drew ?_ | refine blk_alloc ?_ _)); refine blk_put (cs := #[.int .i64 0, .int .i64 0, .int .u64 0]) ?_ 0 _ rfl; (with_reducible repeat (first | refine blk_drewN ?_ _ | refine blk_drew ?_ | refine blk_alloc ?_ _)); refine blk_far ?_ NB202_180.out _; (with_reducible repeat (first | refine blk_drewN ?_ _ | refine blk_drew ?_ | refine blk_alloc ?_ _)); refine blk_far ?_ NB202_180.out _; (with_reducible repeat (first | refine blk_drewN ?_ _ | refine blk_drew ?_ | refine blk_alloc ?_ _)); refine blk_far ?_ NB202_180.out _; (with_reducible repeat (first | refine blk_drewN ?_ _ | refine blk_drew ?_ | refine blk_alloc ?_ _)); refine blk_far ?_ NB202_180.out _; (with_reducible repeat (first | refine blk_drewN ?_ _ | refine blk_drew ?_ | refine blk_alloc ?_ _)); refine blk_far ?_ NB202_180.out _; (with_reducible repeat (first | refine blk_drewN ?_ _ | refine blk_drew ?_ | refine blk_alloc ?_ _)); refine blk_far ?_ NB202_180.out _; (with_reducible repeat (first | refine blk_drewN ?_ _ | refine blk_drew ?_ | refine blk_alloc ?_ _)); refine blk_far ?_ NB202_180.out _; (with_reducible repeat (first | refine blk_drewN ?_ _ | refine blk_drew ?_ | refine blk_alloc ?_ _)); exact BK202.out⟩, ⟨by repeat (first | (with_reducible first | exact HB.out | apply below_alloc | apply pw_below_drewN | apply below_drew1 | refine below_set ?_ GE180.out | refine below_set ?_ GE202.out) | exact HB.out)⟩⟩
                  case rest =>
                    clear HC21
                    try clear c1
                    try clear c2
                    try clear p2
                    try clear c5
                    try clear c5b0
                    try clear c7
                    try clear c9
                    try clear c9b0
                    try clear c9b1
                    try clear c10
                    try clear c11
                    try clear c17
                    try clear c17b0
                    try clear c19
                    try clear c20
                    try clear c25
                    try clear c27
                    try clear c28
                    try clear c28b0
                    try clear c28b1
                    try clear hcz14_0
                    try clear hcz14_1
                    try clear hcz14_2
                    try clear hcz14_3
                    try clear hcz14_4
                    try clear hcz14_5
                    try clear hcz14_6
                    try clear hcz16_0
                    try clear hcz16_1
                    try clear hcz16_2
                    try clear hcz16_3
                    try clear hcz16_4
                    try clear hcz16_5
                    try clear hcz16_6
                    try clear hcz18_0
                    try clear hcz18_1
                    try clear hcz18_2
                    try clear hcz18_3
                    try clear hcz18_4
                    try clear hcz18_5
                    try clear hcz18_6
                    try clear hcz22_0
                    try clear hcz22_1
                    try clear hcz22_2
                    try clear hcz22_3
                    try clear hcz22_4
                    try clear hcz22_5
                    try clear hcz22_6
                    try clear hcz26_0
                    try clear hcz26_1
                    try clear hcz26_2
                    try clear hcz26_3
                    try clear hcz26_4
                    try clear hcz26_5
                    try clear hcz26_6
                    try clear hcz27_0
                    try clear hcz27_1
                    try clear hcz27_2
                    try clear hfz14_0
                    try clear hfz14_1
                    try clear hfz14_2
                    try clear hfz14_3
                    try clear hfz14_4
                    try clear hfz14_5
                    try clear hfz14_6
                    try clear hfz16_0
                    try clear hfz16_1
                    try clear hfz16_2
                    try clear hfz16_3
                    try clear hfz16_4
                    try clear hfz16_5
                    try clear hfz16_6
                    try clear hfz18_0
                    try clear hfz18_1
                    try clear hfz18_2
                    try clear hfz18_3
                    try clear hfz18_4
                    try clear hfz18_5
                    try clear hfz18_6
                    try clear hfz22_0
                    try clear hfz22_1
                    try clear hfz22_2
                    try clear hfz22_3
                    try clear hfz22_4
                    try clear hfz22_5
                    try clear hfz22_6
                    try clear hfz26_0
                    try clear hfz26_1
                    try clear hfz26_2
                    try clear hfz26_3
                    try clear hfz26_4
                    try clear hfz26_5
                    try clear hfz26_6
                    try clear hfz27_0
                    try clear hfz27_1
                    try clear hfz27_2
                    try clear p2
                    obtain ⟨kq, x65_20, rfl, HA, HJ20, BK180, BK202, HB⟩ := hcut
                    cases kq with
                    | zero => exact absurd HA.out (by simp [rotalaw22_SliceUsed.j3])
                    | succ kj20 =>
                      have H := HA.out
                      clear HA
                      simp only [rotalaw22_SliceUsed.j3] at H
                      by_cases c29 : x65_20 = true
                      · subst c29
                        have H1 : (some false) = some r := by rw [if_pos rfl] at H; exact H
                        clear H
                        have H := H1
                        clear H1
                        exact absurd (hr_.out ▸ H) (by decide)
                      · replace c29 := Bool.eq_false_iff.mpr c29
                        subst c29
                        have H1 : ((slice_Dispatch.f t190 t191 t192 t193 t194 t195 t196 0 0 2 true x0_5).bind fun bt203 => ((slice_Run.f kj20 bt203.1 bt203.2.1 bt203.2.2.1 bt203.2.2.2.1 bt203.2.2.2.2.1 bt203.2.2.2.2.2.1 bt203.2.2.2.2.2.2.1 l2 18446744073709551615).bind fun bt211 => (if bt203.2.2.2.2.2.2.2 = 0 then (if (IntKind.u64.wrap (t182 + bt211.2.1)) < (IntKind.u64.wrap (x0_5 + 8)) then (if (IntKind.u64.wrap (t182 + bt211.2.1)) < x0_5 then ((rotalaw22_awake.f kj20).bind fun t220 => (some t220)) else ((slice_Decide.f bt211.2.2.1 bt211.2.2.2.1 bt211.2.2.2.2.1 bt211.2.2.2.2.2.1 bt211.2.2.2.2.2.2.1 bt211.2.2.2.2.2.2.2.1 bt211.2.2.2.2.2.2.2.2 1 1).bind fun t221 => (if t221 = 3 then ((rotalaw22_awake.f kj20).bind fun t222 => (some t222)) else (some false)))) else (some false)) else (some false)))) = some r := by rw [if_neg (show ¬ (false = true) by decide)] at H; exact H
                        clear H
                        have H := H1
                        clear H1
                        replace H := Option.bind_eq_some_iff.mp H
                        obtain ⟨⟨t203, t204, t205, t206, t207, t208, t209, t210⟩, A300, H⟩ := H
                        replace H : ((slice_Run.f kj20 t203 t204 t205 t206 t207 t208 t209 l2 18446744073709551615).bind fun bt211 => (if t210 = 0 then (if (IntKind.u64.wrap (t182 + bt211.2.1)) < (IntKind.u64.wrap (x0_5 + 8)) then (if (IntKind.u64.wrap (t182 + bt211.2.1)) < x0_5 then ((rotalaw22_awake.f kj20).bind fun t220 => (some t220)) else ((slice_Decide.f bt211.2.2.1 bt211.2.2.2.1 bt211.2.2.2.2.1 bt211.2.2.2.2.2.1 bt211.2.2.2.2.2.2.1 bt211.2.2.2.2.2.2.2.1 bt211.2.2.2.2.2.2.2.2 1 1).bind fun t221 => (if t221 = 3 then ((rotalaw22_awake.f kj20).bind fun t222 => (some t222)) else (some false)))) else (some false)) else (some false))) = some r := H
                        have A30 := Aside0.mk A300
                        clear A300
                        replace H := Option.bind_eq_some_iff.mp H
                        obtain ⟨⟨t211, t212, t213, t214, t215, t216, t217, t218, t219⟩, A310, H⟩ := H
                        replace H : (if t210 = 0 then (if (IntKind.u64.wrap (t182 + t212)) < (IntKind.u64.wrap (x0_5 + 8)) then (if (IntKind.u64.wrap (t182 + t212)) < x0_5 then ((rotalaw22_awake.f kj20).bind fun t220 => (some t220)) else ((slice_Decide.f t213 t214 t215 t216 t217 t218 t219 1 1).bind fun t221 => (if t221 = 3 then ((rotalaw22_awake.f kj20).bind fun t222 => (some t222)) else (some false)))) else (some false)) else (some false)) = some r := H
                        have A31 := Aside0.mk A310
                        clear A310
                        by_cases c32 : t210 = 0
                        · rw [if_pos c32] at H
                          have c32b0 : (t210 == 0) = true := beq_iff_eq.mpr c32
                          have c32b1 : (t210 != 0) = false := bne_eq_false_iff_eq.mpr c32
                          clear c32
                          by_cases c33 : (IntKind.u64.wrap (t182 + t212)) < (IntKind.u64.wrap (x0_5 + 8))
                          · rw [if_pos c33] at H
                            have c33b0 : decide ((IntKind.u64.wrap (t182 + t212)) < (IntKind.u64.wrap (x0_5 + 8))) = true := decide_eq_true c33
                            clear c33
                            by_cases c34 : (IntKind.u64.wrap (t182 + t212)) < x0_5
                            · rw [if_pos c34] at H
                              have c34b0 : decide ((IntKind.u64.wrap (t182 + t212)) < x0_5) = true := decide_eq_true c34
                              clear c34
                              replace H := Option.bind_eq_some_iff.mp H
                              obtain ⟨t220, A350, H⟩ := H
                              replace H : (some t220) = some r := H
                              have A35 := Aside0.mk A350
                              clear A350
                              obtain rfl := Option.some.inj H
                              have hnb36 := NB180_202.out
                              have hnc36 := NB202_180.out
                              have hcz37_0 : wc.cell? ⟨gb180, 0, none⟩ = some (.bool t190) := (blk_cell BK180.out 0).trans rfl
                              have hcz37_1 : wc.cell? ⟨gb180, 1, none⟩ = some (.int .i64 t191) := (blk_cell BK180.out 1).trans rfl
                              have hcz37_2 : wc.cell? ⟨gb180, 2, none⟩ = some (.int .i64 t192) := (blk_cell BK180.out 2).trans rfl
                              have hcz37_3 : wc.cell? ⟨gb180, 3, none⟩ = some (.int .u64 t193) := (blk_cell BK180.out 3).trans rfl
                              have hcz37_4 : wc.cell? ⟨gb180, 4, none⟩ = some (.int .u64 t194) := (blk_cell BK180.out 4).trans rfl
                              have hcz37_5 : wc.cell? ⟨gb180, 5, none⟩ = some (.bool t195) := (blk_cell BK180.out 5).trans rfl
                              have hcz37_6 : wc.cell? ⟨gb180, 6, none⟩ = some (.int .u64 t196) := (blk_cell BK180.out 6).trans rfl
                              have hfz37_0 := blk_frozen BK180.out 0
                              have hfz37_1 := blk_frozen BK180.out 1
                              have hfz37_2 := blk_frozen BK180.out 2
                              have hfz37_3 := blk_frozen BK180.out 3
                              have hfz37_4 := blk_frozen BK180.out 4
                              have hfz37_5 := blk_frozen BK180.out 5
                              have hfz37_6 := blk_frozen BK180.out 6
                              go_wp2_with (first | ((with_reducible refine gate_callee (f := 11) rfl ?_); refine goesL_ (some 70) rfl rfl Try.func11 (by kernel_rfl) rfl #[.agg #[.bool t190, .int .i64 t191, .int .i64 t192, .int .u64 t193, .int .u64 t194, .bool t195, .int .u64 t196], .agg #[.int .i64 0, .int .i64 0, .int .u64 2], .bool true, .int .u64 x0_5] rfl (by (try simp only [List.map_toArray, List.map_cons, List.map_nil]); first | done | rfl | (simp only [List.length_drop, List.length_take]; rfl)) ?_; (with_reducible refine (slice_Dispatch.calls t190 t191 t192 t193 t194 t195 t196 0 0 2 true x0_5 t203 t204 t205 t206 t207 t208 t209 t210 _ A30.out).mono ?_); rintro e w38 ⟨rfl, hb⟩; refine ⟨_, rfl, ?_⟩; have n0_ := Aside0.mk (blk_below (g := gb180) (o := .cells #[.bool t190, .int .i64 t191, .int .i64 t192, .int .u64 t193, .int .u64 t194, .bool t195, .int .u64 t196] 28 (0, 0)) (by (with_reducible repeat (first | refine blk_drewN ?_ _ | refine blk_drew ?_ | refine blk_alloc ?_ _)); exact BK180.out) hb); have n1_ := Aside0.mk (blk_below (g := gb202) (o := .cells #[.int .i64 t197, .int .i64 t198, .int .u64 t199] 26 (0, 0)) (by (with_reducible repeat (first | refine blk_drewN ?_ _ | refine blk_drew ?_ | refine blk_alloc ?_ _)); exact BK202.out) hb); have n2_ := Aside0.mk (below_step (by repeat (first | (with_reducible first | exact HB.out | apply below_alloc | apply pw_below_drewN | apply below_drew1 | refine below_set ?_ GE180.out | refine below_set ?_ GE202.out) | exact HB.out)) hb); clear BK180; clear BK202; clear HB; have BK180 := n0_; have BK202 := n1_; have HB := n2_; clear n0_ n1_ n2_; (try clear hb); (try clear hb2); (try clear hk); (try clear hi); have hcz39_0 : w38.cell? ⟨gb180, 0, none⟩ = some (.bool t190) := (blk_cell BK180.out 0).trans rfl; have hcz39_1 : w38.cell? ⟨gb180, 1, none⟩ = some (.int .i64 t191) := (blk_cell BK180.out 1).trans rfl; have hcz39_2 : w38.cell? ⟨gb180, 2, none⟩ = some (.int .i64 t192) := (blk_cell BK180.out 2).trans rfl; have hcz39_3 : w38.cell? ⟨gb180, 3, none⟩ = some (.int .u64 t193) := (blk_cell BK180.out 3).trans rfl; have hcz39_4 : w38.cell? ⟨gb180, 4, none⟩ = some (.int .u64 t194) := (blk_cell BK180.out 4).trans rfl; have hcz39_5 : w38.cell? ⟨gb180, 5, none⟩ = some (.bool t195) := (blk_cell BK180.out 5).trans rfl; have hcz39_6 : w38.cell? ⟨gb180, 6, none⟩ = some (.int .u64 t196) := (blk_cell BK180.out 6).trans rfl; have hfz39_0 := blk_frozen BK180.out 0; have hfz39_1 := blk_frozen BK180.out 1; have hfz39_2 := blk_frozen BK180.out 2; have hfz39_3 := blk_frozen BK180.out 3; have hfz39_4 := blk_frozen BK180.out 4; have hfz39_5 := blk_frozen BK180.out 5; have hfz39_6 := blk_frozen BK180.out 6) | ((with_reducible refine gate_callee (f := 27) rfl ?_); refine goesL_ (some 76) rfl rfl Try.func27 (by kernel_rfl) rfl #[.agg #[.bool t203, .int .i64 t204, .int .i64 t205, .int .u64 t206, .int .u64 t207, .bool t208, .int .u64 t209], .slice A2 l2.length c2, .int .u64 18446744073709551615] rfl (by (try simp only [List.map_toArray, List.map_cons, List.map_nil]); first | done | rfl | (simp only [List.length_drop, List.length_take]; rfl)) ?_; (with_reducible refine (slice_Run.calls kj20 t203 t204 t205 t206 t207 t208 t209 _ _ l2 18446744073709551615 t211 t212 t213 t214 t215 t216 t217 t218 t219 _ ?side1 ?side2 A31.out).mono ?_); (case side1 => exact Kd.C_below HR2.out (by repeat (first | (with_reducible first | exact HB.out | apply below_alloc | apply pw_below_drewN | apply below_drew1 | refine below_set ?_ GE180.out | refine below_set ?_ GE202.out) | exact HB.out))); (case side2 => exact HC2.out); rintro e w40 ⟨rfl, hb⟩; refine ⟨_, rfl, ?_⟩; have n0_ := Aside0.mk (blk_below (g := gb180) (o := .cells #[.bool t203, .int .i64 t204, .int .i64 t205, .int .u64 t206, .int .u64 t207, .bool t208, .int .u64 t209] 28 (0, 0)) (by (with_reducible repeat (first | refine blk_drewN ?_ _ | refine blk_drew ?_ | refine blk_alloc ?_ _)); refine blk_put (cs := #[.bool t203, .int .i64 t204, .int .i64 t205, .int .u64 t206, .int .u64 t207, .bool t208, .int .u64 t196]) ?_ 6 _ rfl; (with_reducible repeat (first | refine blk_drewN ?_ _ | refine blk_drew ?_ | refine blk_alloc ?_ _)); refine blk_put (cs := #[.bool t203, .int .i64 t204, .int .i64 t205, .int .u64 t206, .int .u64 t207, .bool t195, .int .u64 t196]) ?_ 5 _ rfl; (with_reducible repeat (first | refine blk_drewN ?_ _ | refine blk_drew ?_ | refine blk_alloc ?_ _)); refine blk_put (cs := #[.bool t203, .int .i64 t204, .int .i64 t205, .int .u64 t206, .int .u64 t194, .bool t195, .int .u64 t196]) ?_ 4 _ rfl; (with_reducible repeat (first | refine blk_drewN ?_ _ | refine blk_drew ?_ | refine blk_alloc ?_ _)); refine blk_put (cs := #[.bool t203, .int .i64 t204, .int .i64 t205, .int .u64 t193, .int .u64 t194, .bool t195, .int .u64 t196]) ?_ 3 _ rfl; (with_reducible repeat (first | refine blk_drewN ?_ _ | refine blk_drew ?_ | refine blk_alloc ?_ _)); refine blk_put (cs := #[.bool t203, .int .i64 t204, .int .i64 t192, .int .u64 t193, .int .u64 t194, .bool t195, .int .u64 t196]) ?_ 2 _ rfl; (with_reducible repeat (first | refine blk_drewN ?_ _ | refine blk_drew ?_ | refine blk_alloc ?_ _)); refine blk_put (cs := #[.bool t203, .int .i64 t191, .int .i64 t192, .int .u64 t193, .int .u64 t194, .bool t195, .int .u64 t196]) ?_ 1 _ rfl; (with_reducible repeat (first | refine blk_drewN ?_ _ | refine blk_drew ?_ | refine blk_alloc ?_ _)); refine blk_put (cs := #[.bool t190, .int .i64 t191, .int .i64 t192, .int .u64 t193, .int .u64 t194, .bool t195, .int .u64 t196]) ?_ 0 _ rfl; (with_reducible repeat (first | refine blk_drewN ?_ _ | refine blk_drew ?_ | refine blk_alloc ?_ _)); exact BK180.out) hb); have n1_ := Aside0.mk (blk_below (g := gb202) (o := .cells #[.int .i64 t197, .int .i64 t198, .int .u64 t199] 26 (0, 0)) (by (with_reducible repeat (first | refine blk_drewN ?_ _ | refine blk_drew ?_ | refine blk_alloc ?_ _)); refine blk_far ?_ NB202_180.out _; (with_reducible repeat (first | refine blk_drewN ?_ _ | refine blk_drew ?_ | refine blk_alloc ?_ _)); refine blk_far ?_ NB202_180.out _; (with_reducible repeat (first | refine blk_drewN ?_ _ | refine blk_drew ?_ | refine blk_alloc ?_ _)); refine blk_far ?_ NB202_180.out _; (with_reducible repeat (first | refine blk_drewN ?_ _ | refine blk_drew ?_ | refine blk_alloc ?_ _)); refine blk_far ?_ NB202_180.out _; (with_reducible repeat (first | refine blk_drewN ?_ _ | refine blk_drew ?_ | refine blk_alloc ?_ _)); refine blk_far ?_ NB202_180.out _; (with_reducible repeat (first | refine blk_drewN ?_ _ | refine blk_drew ?_ | refine blk_alloc ?_ _)); refine blk_far ?_ NB202_180.out _; (with_reducible repeat (first | refine blk_drewN ?_ _ | refine blk_drew ?_ | refine blk_alloc ?_ _)); refine blk_far ?_ NB202_180.out _; (with_reducible repeat (first | refine blk_drewN ?_ _ | refine blk_drew ?_ | refine blk_alloc ?_ _)); exact BK202.out) hb); have n2_ := Aside0.mk (below_step (by repeat (first | (with_reducible first | exact HB.out | apply below_alloc | apply pw_below_drewN | apply below_drew1 | refine below_set ?_ GE180.out | refine below_set ?_ GE202.out) | exact HB.out)) hb); clear BK180; clear BK202; clear HB; have BK180 := n0_; have BK202 := n1_; have HB := n2_; clear n0_ n1_ n2_; (try clear hb); (try clear hb2); (try clear hk); (try clear hi); have hcz41_0 : w40.cell? ⟨gb180, 0, none⟩ = some (.bool t203) := (blk_cell BK180.out 0).trans rfl; have hcz41_1 : w40.cell? ⟨gb180, 1, none⟩ = some (.int .i64 t204) := (blk_cell BK180.out 1).trans rfl; have hcz41_2 : w40.cell? ⟨gb180, 2, none⟩ = some (.int .i64 t205) := (blk_cell BK180.out 2).trans rfl; have hcz41_3 : w40.cell? ⟨gb180, 3, none⟩ = some (.int .u64 t206) := (blk_cell BK180.out 3).trans rfl; have hcz41_4 : w40.cell? ⟨gb180, 4, none⟩ = some (.int .u64 t207) := (blk_cell BK180.out 4).trans rfl; have hcz41_5 : w40.cell? ⟨gb180, 5, none⟩ = some (.bool t208) := (blk_cell BK180.out 5).trans rfl; have hcz41_6 : w40.cell? ⟨gb180, 6, none⟩ = some (.int .u64 t209) := (blk_cell BK180.out 6).trans rfl; have hfz41_0 := blk_frozen BK180.out 0; have hfz41_1 := blk_frozen BK180.out 1; have hfz41_2 := blk_frozen BK180.out 2; have hfz41_3 := blk_frozen BK180.out 3; have hfz41_4 := blk_frozen BK180.out 4; have hfz41_5 := blk_frozen BK180.out 5; have hfz41_6 := blk_frozen BK180.out 6) | (go_at_call 15; (with_reducible refine (rotalaw22_awake.calls kj20  t220 _ A35.out).mono ?_); rintro e w42 ⟨rfl, hb⟩; have n0_ := Aside0.mk (blk_below (g := gb180) (o := .cells #[.bool t213, .int .i64 t214, .int .i64 t215, .int .u64 t216, .int .u64 t217, .bool t218, .int .u64 t219] 28 (0, 0)) (by (with_reducible repeat (first | refine blk_drewN ?_ _ | refine blk_drew ?_ | refine blk_alloc ?_ _)); refine blk_put (cs := #[.bool t213, .int .i64 t214, .int .i64 t215, .int .u64 t216, .int .u64 t217, .bool t218, .int .u64 t209]) ?_ 6 _ rfl; (with_reducible repeat (first | refine blk_drewN ?_ _ | refine blk_drew ?_ | refine blk_alloc ?_ _)); refine blk_put (cs := #[.bool t213, .int .i64 t214, .int .i64 t215, .int .u64 t216, .int .u64 t217, .bool t208, .int .u64 t209]) ?_ 5 _ rfl; (with_reducible repeat (first | refine blk_drewN ?_ _ | refine blk_drew ?_ | refine blk_alloc ?_ _)); refine blk_put (cs := #[.bool t213, .int .i64 t214, .int .i64 t215, .int .u64 t216, .int .u64 t207, .bool t208, .int .u64 t209]) ?_ 4 _ rfl; (with_reducible repeat (first | refine blk_drewN ?_ _ | refine blk_drew ?_ | refine blk_alloc ?_ _)); refine blk_put (cs := #[.bool t213, .int .i64 t214, .int .i64 t215, .int .u64 t206, .int .u64 t207, .bool t208, .int .u64 t209]) ?_ 3 _ rfl; (with_reducible repeat (first | refine blk_drewN ?_ _ | refine blk_drew ?_ | refine blk_alloc ?_ _)); refine blk_put (cs := #[.bool t213, .int .i64 t214, .int .i64 t205, .int .u64 t206, .int .u64 t207, .bool t208, .int .u64 t209]) ?_ 2 _ rfl; (with_reducible repeat (first | refine blk_drewN ?_ _ | refine blk_drew ?_ | refine blk_alloc ?_ _)); refine blk_put (cs := #[.bool t213, .int .i64 t204, .int .i64 t205, .int .u64 t206, .int .u64 t207, .bool t208, .int .u64 t209]) ?_ 1 _ rfl; (with_reducible repeat (first | refine blk_drewN ?_ _ | refine blk_drew ?_ | refine blk_alloc ?_ _)); refine blk_put (cs := #[.bool t203, .int .i64 t204, .int .i64 t205, .int .u64 t206, .int .u64 t207, .bool t208, .int .u64 t209]) ?_ 0 _ rfl; (with_reducible repeat (first | refine blk_drewN ?_ _ | refine blk_drew ?_ | refine blk_alloc ?_ _)); exact BK180.out) hb); have n1_ := Aside0.mk (blk_below (g := gb202) (o := .cells #[.int .i64 t197, .int .i64 t198, .int .u64 t199] 26 (0, 0)) (by (with_reducible repeat (first | refine blk_drewN ?_ _ | refine blk_drew ?_ | refine blk_alloc ?_ _)); refine blk_far ?_ NB202_180.out _; (with_reducible repeat (first | refine blk_drewN ?_ _ | refine blk_drew ?_ | refine blk_alloc ?_ _)); refine blk_far ?_ NB202_180.out _; (with_reducible repeat (first | refine blk_drewN ?_ _ | refine blk_drew ?_ | refine blk_alloc ?_ _)); refine blk_far ?_ NB202_180.out _; (with_reducible repeat (first | refine blk_drewN ?_ _ | refine blk_drew ?_ | refine blk_alloc ?_ _)); refine blk_far ?_ NB202_180.out _; (with_reducible repeat (first | refine blk_drewN ?_ _ | refine blk_drew ?_ | refine blk_alloc ?_ _)); refine blk_far ?_ NB202_180.out _; (with_reducible repeat (first | refine blk_drewN ?_ _ | refine blk_drew ?_ | refine blk_alloc ?_ _)); refine blk_far ?_ NB202_180.out _; (with_reducible repeat (first | refine blk_drewN ?_ _ | refine blk_drew ?_ | refine blk_alloc ?_ _)); refine blk_far ?_ NB202_180.out _; (with_reducible repeat (first | refine blk_drewN ?_ _ | refine blk_drew ?_ | refine blk_alloc ?_ _)); exact BK202.out) hb); have n2_ := Aside0.mk (below_step (by repeat (first | (with_reducible first | exact HB.out | apply below_alloc | apply pw_below_drewN | apply below_drew1 | refine below_set ?_ GE180.out | refine below_set ?_ GE202.out) | exact HB.out)) hb); clear BK180; clear BK202; clear HB; have BK180 := n0_; have BK202 := n1_; have HB := n2_; clear n0_ n1_ n2_; (try clear hb); (try clear hb2); (try clear hk); (try clear hi)))
                              go_ret
                              exact ⟨by first | rfl | (simp [errW_none, errW_some] <;> rfl) | (simp [*, errW_none, errW_some] <;> rfl), by repeat (first | (with_reducible first | exact HB.out | apply below_alloc | apply pw_below_drewN | apply below_drew1 | refine below_set ?_ GE180.out | refine below_set ?_ GE202.out) | exact HB.out)⟩
                            · rw [if_neg c34] at H
                              have c34b0 : decide ((IntKind.u64.wrap (t182 + t212)) < x0_5) = false := decide_eq_false c34
                              clear c34
                              replace H := Option.bind_eq_some_iff.mp H
                              obtain ⟨t221, A430, H⟩ := H
                              replace H : (if t221 = 3 then ((rotalaw22_awake.f kj20).bind fun t222 => (some t222)) else (some false)) = some r := H
                              have A43 := Aside0.mk A430
                              clear A430
                              by_cases c44 : t221 = 3
                              · rw [if_pos c44] at H
                                have c44b0 : (t221 == 3) = true := beq_iff_eq.mpr c44
                                have c44b1 : (t221 != 3) = false := bne_eq_false_iff_eq.mpr c44
                                clear c44
                                replace H := Option.bind_eq_some_iff.mp H
                                obtain ⟨t222, A450, H⟩ := H
                                replace H : (some t222) = some r := H
                                have A45 := Aside0.mk A450
                                clear A450
                                obtain rfl := Option.some.inj H
                                have hnb46 := NB180_202.out
                                have hnc46 := NB202_180.out
                                have hcz47_0 : wc.cell? ⟨gb180, 0, none⟩ = some (.bool t190) := (blk_cell BK180.out 0).trans rfl
                                have hcz47_1 : wc.cell? ⟨gb180, 1, none⟩ = some (.int .i64 t191) := (blk_cell BK180.out 1).trans rfl
                                have hcz47_2 : wc.cell? ⟨gb180, 2, none⟩ = some (.int .i64 t192) := (blk_cell BK180.out 2).trans rfl
                                have hcz47_3 : wc.cell? ⟨gb180, 3, none⟩ = some (.int .u64 t193) := (blk_cell BK180.out 3).trans rfl
                                have hcz47_4 : wc.cell? ⟨gb180, 4, none⟩ = some (.int .u64 t194) := (blk_cell BK180.out 4).trans rfl
                                have hcz47_5 : wc.cell? ⟨gb180, 5, none⟩ = some (.bool t195) := (blk_cell BK180.out 5).trans rfl
                                have hcz47_6 : wc.cell? ⟨gb180, 6, none⟩ = some (.int .u64 t196) := (blk_cell BK180.out 6).trans rfl
                                have hfz47_0 := blk_frozen BK180.out 0
                                have hfz47_1 := blk_frozen BK180.out 1
                                have hfz47_2 := blk_frozen BK180.out 2
                                have hfz47_3 := blk_frozen BK180.out 3
                                have hfz47_4 := blk_frozen BK180.out 4
                                have hfz47_5 := blk_frozen BK180.out 5
                                have hfz47_6 := blk_frozen BK180.out 6
                                go_wp2_with (first | ((with_reducible refine gate_callee (f := 11) rfl ?_); refine goesL_ (some 70) rfl rfl Try.func11 (by kernel_rfl) rfl #[.agg #[.bool t190, .int .i64 t191, .int .i64 t192, .int .u64 t193, .int .u64 t194, .bool t195, .int .u64 t196], .agg #[.int .i64 0, .int .i64 0, .int .u64 2], .bool true, .int .u64 x0_5] rfl (by (try simp only [List.map_toArray, List.map_cons, List.map_nil]); first | done | rfl | (simp only [List.length_drop, List.length_take]; rfl)) ?_; (with_reducible refine (slice_Dispatch.calls t190 t191 t192 t193 t194 t195 t196 0 0 2 true x0_5 t203 t204 t205 t206 t207 t208 t209 t210 _ A30.out).mono ?_); rintro e w48 ⟨rfl, hb⟩; refine ⟨_, rfl, ?_⟩; have n0_ := Aside0.mk (blk_below (g := gb180) (o := .cells #[.bool t190, .int .i64 t191, .int .i64 t192, .int .u64 t193, .int .u64 t194, .bool t195, .int .u64 t196] 28 (0, 0)) (by (with_reducible repeat (first | refine blk_drewN ?_ _ | refine blk_drew ?_ | refine blk_alloc ?_ _)); exact BK180.out) hb); have n1_ := Aside0.mk (blk_below (g := gb202) (o := .cells #[.int .i64 t197, .int .i64 t198, .int .u64 t199] 26 (0, 0)) (by (with_reducible repeat (first | refine blk_drewN ?_ _ | refine blk_drew ?_ | refine blk_alloc ?_ _)); exact BK202.out) hb); have n2_ := Aside0.mk (below_step (by repeat (first | (with_reducible first | exact HB.out | apply below_alloc | apply pw_below_drewN | apply below_drew1 | refine below_set ?_ GE180.out | refine below_set ?_ GE202.out) | exact HB.out)) hb); clear BK180; clear BK202; clear HB; have BK180 := n0_; have BK202 := n1_; have HB := n2_; clear n0_ n1_ n2_; (try clear hb); (try clear hb2); (try clear hk); (try clear hi); have hcz49_0 : w48.cell? ⟨gb180, 0, none⟩ = some (.bool t190) := (blk_cell BK180.out 0).trans rfl; have hcz49_1 : w48.cell? ⟨gb180, 1, none⟩ = some (.int .i64 t191) := (blk_cell BK180.out 1).trans rfl; have hcz49_2 : w48.cell? ⟨gb180, 2, none⟩ = some (.int .i64 t192) := (blk_cell BK180.out 2).trans rfl; have hcz49_3 : w48.cell? ⟨gb180, 3, none⟩ = some (.int .u64 t193) := (blk_cell BK180.out 3).trans rfl; have hcz49_4 : w48.cell? ⟨gb180, 4, none⟩ = some (.int .u64 t194) := (blk_cell BK180.out 4).trans rfl; have hcz49_5 : w48.cell? ⟨gb180, 5, none⟩ = some (.bool t195) := (blk_cell BK180.out 5).trans rfl; have hcz49_6 : w48.cell? ⟨gb180, 6, none⟩ = some (.int .u64 t196) := (blk_cell BK180.out 6).trans rfl; have hfz49_0 := blk_frozen BK180.out 0; have hfz49_1 := blk_frozen BK180.out 1; have hfz49_2 := blk_frozen BK180.out 2; have hfz49_3 := blk_frozen BK180.out 3; have hfz49_4 := blk_frozen BK180.out 4; have hfz49_5 := blk_frozen BK180.out 5; have hfz49_6 := blk_frozen BK180.out 6) | ((with_reducible refine gate_callee (f := 27) rfl ?_); refine goesL_ (some 76) rfl rfl Try.func27 (by kernel_rfl) rfl #[.agg #[.bool t203, .int .i64 t204, .int .i64 t205, .int .u64 t206, .int .u64 t207, .bool t208, .int .u64 t209], .slice A2 l2.length c2, .int .u64 18446744073709551615] rfl (by (try simp only [List.map_toArray, List.map_cons, List.map_nil]); first | done | rfl | (simp only [List.length_drop, List.length_take]; rfl)) ?_; (with_reducible refine (slice_Run.calls kj20 t203 t204 t205 t206 t207 t208 t209 _ _ l2 18446744073709551615 t211 t212 t213 t214 t215 t216 t217 t218 t219 _ ?side1 ?side2 A31.out).mono ?_); (case side1 => exact Kd.C_below HR2.out (by repeat (first | (with_reducible first | exact HB.out | apply below_alloc | apply pw_below_drewN | apply below_drew1 | refine below_set ?_ GE180.out | refine below_set ?_ GE202.out) | exact HB.out))); (case side2 => exact HC2.out); rintro e w50 ⟨rfl, hb⟩; refine ⟨_, rfl, ?_⟩; have n0_ := Aside0.mk (blk_below (g := gb180) (o := .cells #[.bool t203, .int .i64 t204, .int .i64 t205, .int .u64 t206, .int .u64 t207, .bool t208, .int .u64 t209] 28 (0, 0)) (by (with_reducible repeat (first | refine blk_drewN ?_ _ | refine blk_drew ?_ | refine blk_alloc ?_ _)); refine blk_put (cs := #[.bool t203, .int .i64 t204, .int .i64 t205, .int .u64 t206, .int .u64 t207, .bool t208, .int .u64 t196]) ?_ 6 _ rfl; (with_reducible repeat (first | refine blk_drewN ?_ _ | refine blk_drew ?_ | refine blk_alloc ?_ _)); refine blk_put (cs := #[.bool t203, .int .i64 t204, .int .i64 t205, .int .u64 t206, .int .u64 t207, .bool t195, .int .u64 t196]) ?_ 5 _ rfl; (with_reducible repeat (first | refine blk_drewN ?_ _ | refine blk_drew ?_ | refine blk_alloc ?_ _)); refine blk_put (cs := #[.bool t203, .int .i64 t204, .int .i64 t205, .int .u64 t206, .int .u64 t194, .bool t195, .int .u64 t196]) ?_ 4 _ rfl; (with_reducible repeat (first | refine blk_drewN ?_ _ | refine blk_drew ?_ | refine blk_alloc ?_ _)); refine blk_put (cs := #[.bool t203, .int .i64 t204, .int .i64 t205, .int .u64 t193, .int .u64 t194, .bool t195, .int .u64 t196]) ?_ 3 _ rfl; (with_reducible repeat (first | refine blk_drewN ?_ _ | refine blk_drew ?_ | refine blk_alloc ?_ _)); refine blk_put (cs := #[.bool t203, .int .i64 t204, .int .i64 t192, .int .u64 t193, .int .u64 t194, .bool t195, .int .u64 t196]) ?_ 2 _ rfl; (with_reducible repeat (first | refine blk_drewN ?_ _ | refine blk_drew ?_ | refine blk_alloc ?_ _)); refine blk_put (cs := #[.bool t203, .int .i64 t191, .int .i64 t192, .int .u64 t193, .int .u64 t194, .bool t195, .int .u64 t196]) ?_ 1 _ rfl; (with_reducible repeat (first | refine blk_drewN ?_ _ | refine blk_drew ?_ | refine blk_alloc ?_ _)); refine blk_put (cs := #[.bool t190, .int .i64 t191, .int .i64 t192, .int .u64 t193, .int .u64 t194, .bool t195, .int .u64 t196]) ?_ 0 _ rfl; (with_reducible repeat (first | refine blk_drewN ?_ _ | refine blk_drew ?_ | refine blk_alloc ?_ _)); exact BK180.out) hb); have n1_ := Aside0.mk (blk_below (g := gb202) (o := .cells #[.int .i64 t197, .int .i64 t198, .int .u64 t199] 26 (0, 0)) (by (with_reducible repeat (first | refine blk_drewN ?_ _ | refine blk_drew ?_ | refine blk_alloc ?_ _)); refine blk_far ?_ NB202_180.out _; (with_reducible repeat (first | refine blk_drewN ?_ _ | refine blk_drew ?_ | refine blk_alloc ?_ _)); refine blk_far ?_ NB202_180.out _; (with_reducible repeat (first | refine blk_drewN ?_ _ | refine blk_drew ?_ | refine blk_alloc ?_ _)); refine blk_far ?_ NB202_180.out _; (with_reducible repeat (first | refine blk_drewN ?_ _ | refine blk_drew ?_ | refine blk_alloc ?_ _)); refine blk_far ?_ NB202_180.out _; (with_reducible repeat (first | refine blk_drewN ?_ _ | refine blk_drew ?_ | refine blk_alloc ?_ _)); refine blk_far ?_ NB202_180.out _; (with_reducible repeat (first | refine blk_drewN ?_ _ | refine blk_drew ?_ | refine blk_alloc ?_ _)); refine blk_far ?_ NB202_180.out _; (with_reducible repeat (first | refine blk_drewN ?_ _ | refine blk_drew ?_ | refine blk_alloc ?_ _)); refine blk_far ?_ NB202_180.out _; (with_reducible repeat (first | refine blk_drewN ?_ _ | refine blk_drew ?_ | refine blk_alloc ?_ _)); exact BK202.out) hb); have n2_ := Aside0.mk (below_step (by repeat (first | (with_reducible first | exact HB.out | apply below_alloc | apply pw_below_drewN | apply below_drew1 | refine below_set ?_ GE180.out | refine below_set ?_ GE202.out) | exact HB.out)) hb); clear BK180; clear BK202; clear HB; have BK180 := n0_; have BK202 := n1_; have HB := n2_; clear n0_ n1_ n2_; (try clear hb); (try clear hb2); (try clear hk); (try clear hi); have hcz51_0 : w50.cell? ⟨gb180, 0, none⟩ = some (.bool t203) := (blk_cell BK180.out 0).trans rfl; have hcz51_1 : w50.cell? ⟨gb180, 1, none⟩ = some (.int .i64 t204) := (blk_cell BK180.out 1).trans rfl; have hcz51_2 : w50.cell? ⟨gb180, 2, none⟩ = some (.int .i64 t205) := (blk_cell BK180.out 2).trans rfl; have hcz51_3 : w50.cell? ⟨gb180, 3, none⟩ = some (.int .u64 t206) := (blk_cell BK180.out 3).trans rfl; have hcz51_4 : w50.cell? ⟨gb180, 4, none⟩ = some (.int .u64 t207) := (blk_cell BK180.out 4).trans rfl; have hcz51_5 : w50.cell? ⟨gb180, 5, none⟩ = some (.bool t208) := (blk_cell BK180.out 5).trans rfl; have hcz51_6 : w50.cell? ⟨gb180, 6, none⟩ = some (.int .u64 t209) := (blk_cell BK180.out 6).trans rfl; have hfz51_0 := blk_frozen BK180.out 0; have hfz51_1 := blk_frozen BK180.out 1; have hfz51_2 := blk_frozen BK180.out 2; have hfz51_3 := blk_frozen BK180.out 3; have hfz51_4 := blk_frozen BK180.out 4; have hfz51_5 := blk_frozen BK180.out 5; have hfz51_6 := blk_frozen BK180.out 6) | (go_at_call 24; (with_reducible refine (slice_Decide.calls t213 t214 t215 t216 t217 t218 t219 1 1 t221 _ A43.out).mono ?_); rintro e w52 ⟨rfl, hb⟩; have n0_ := Aside0.mk (blk_below (g := gb180) (o := .cells #[.bool t213, .int .i64 t214, .int .i64 t215, .int .u64 t216, .int .u64 t217, .bool t218, .int .u64 t219] 28 (0, 0)) (by (with_reducible repeat (first | refine blk_drewN ?_ _ | refine blk_drew ?_ | refine blk_alloc ?_ _)); refine blk_put (cs := #[.bool t213, .int .i64 t214, .int .i64 t215, .int .u64 t216, .int .u64 t217, .bool t218, .int .u64 t209]) ?_ 6 _ rfl; (with_reducible repeat (first | refine blk_drewN ?_ _ | refine blk_drew ?_ | refine blk_alloc ?_ _)); refine blk_put (cs := #[.bool t213, .int .i64 t214, .int .i64 t215, .int .u64 t216, .int .u64 t217, .bool t208, .int .u64 t209]) ?_ 5 _ rfl; (with_reducible repeat (first | refine blk_drewN ?_ _ | refine blk_drew ?_ | refine blk_alloc ?_ _)); refine blk_put (cs := #[.bool t213, .int .i64 t214, .int .i64 t215, .int .u64 t216, .int .u64 t207, .bool t208, .int .u64 t209]) ?_ 4 _ rfl; (with_reducible repeat (first | refine blk_drewN ?_ _ | refine blk_drew ?_ | refine blk_alloc ?_ _)); refine blk_put (cs := #[.bool t213, .int .i64 t214, .int .i64 t215, .int .u64 t206, .int .u64 t207, .bool t208, .int .u64 t209]) ?_ 3 _ rfl; (with_reducible repeat (first | refine blk_drewN ?_ _ | refine blk_drew ?_ | refine blk_alloc ?_ _)); refine blk_put (cs := #[.bool t213, .int .i64 t214, .int .i64 t205, .int .u64 t206, .int .u64 t207, .bool t208, .int .u64 t209]) ?_ 2 _ rfl; (with_reducible repeat (first | refine blk_drewN ?_ _ | refine blk_drew ?_ | refine blk_alloc ?_ _)); refine blk_put (cs := #[.bool t213, .int .i64 t204, .int .i64 t205, .int .u64 t206, .int .u64 t207, .bool t208, .int .u64 t209]) ?_ 1 _ rfl; (with_reducible repeat (first | refine blk_drewN ?_ _ | refine blk_drew ?_ | refine blk_alloc ?_ _)); refine blk_put (cs := #[.bool t203, .int .i64 t204, .int .i64 t205, .int .u64 t206, .int .u64 t207, .bool t208, .int .u64 t209]) ?_ 0 _ rfl; (with_reducible repeat (first | refine blk_drewN ?_ _ | refine blk_drew ?_ | refine blk_alloc ?_ _)); exact BK180.out) hb); have n1_ := Aside0.mk (blk_below (g := gb202) (o := .cells #[.int .i64 t197, .int .i64 t198, .int .u64 t199] 26 (0, 0)) (by (with_reducible repeat (first | refine blk_drewN ?_ _ | refine blk_drew ?_ | refine blk_alloc ?_ _)); refine blk_far ?_ NB202_180.out _; (with_reducible repeat (first | refine blk_drewN ?_ _ | refine blk_drew ?_ | refine blk_alloc ?_ _)); refine blk_far ?_ NB202_180.out _; (with_reducible repeat (first | refine blk_drewN ?_ _ | refine blk_drew ?_ | refine blk_alloc ?_ _)); refine blk_far ?_ NB202_180.out _; (with_reducible repeat (first | refine blk_drewN ?_ _ | refine blk_drew ?_ | refine blk_alloc ?_ _)); refine blk_far ?_ NB202_180.out _; (with_reducible repeat (first | refine blk_drewN ?_ _ | refine blk_drew ?_ | refine blk_alloc ?_ _)); refine blk_far ?_ NB202_180.out _; (with_reducible repeat (first | refine blk_drewN ?_ _ | refine blk_drew ?_ | refine blk_alloc ?_ _)); refine blk_far ?_ NB202_180.out _; (with_reducible repeat (first | refine blk_drewN ?_ _ | refine blk_drew ?_ | refine blk_alloc ?_ _)); refine blk_far ?_ NB202_180.out _; (with_reducible repeat (first | refine blk_drewN ?_ _ | refine blk_drew ?_ | refine blk_alloc ?_ _)); exact BK202.out) hb); have n2_ := Aside0.mk (below_step (by repeat (first | (with_reducible first | exact HB.out | apply below_alloc | apply pw_below_drewN | apply below_drew1 | refine below_set ?_ GE180.out | refine below_set ?_ GE202.out) | exact HB.out)) hb); clear BK180; clear BK202; clear HB; have BK180 := n0_; have BK202 := n1_; have HB := n2_; clear n0_ n1_ n2_; (try clear hb); (try clear hb2); (try clear hk); (try clear hi)) | (go_at_call 15; (with_reducible refine (rotalaw22_awake.calls kj20  t222 _ A45.out).mono ?_); rintro e w53 ⟨rfl, hb⟩; have n0_ := Aside0.mk (blk_below (g := gb180) (o := .cells #[.bool t213, .int .i64 t214, .int .i64 t215, .int .u64 t216, .int .u64 t217, .bool t218, .int .u64 t219] 28 (0, 0)) (by (with_reducible repeat (first | refine blk_drewN ?_ _ | refine blk_drew ?_ | refine blk_alloc ?_ _)); exact BK180.out) hb); have n1_ := Aside0.mk (blk_below (g := gb202) (o := .cells #[.int .i64 t197, .int .i64 t198, .int .u64 t199] 26 (0, 0)) (by (with_reducible repeat (first | refine blk_drewN ?_ _ | refine blk_drew ?_ | refine blk_alloc ?_ _)); exact BK202.out) hb); have n2_ := Aside0.mk (below_step (by repeat (first | (with_reducible first | exact HB.out | apply below_alloc | apply pw_below_drewN | apply below_drew1 | refine below_set ?_ GE180.out | refine below_set ?_ GE202.out) | exact HB.out)) hb); clear BK180; clear BK202; clear HB; have BK180 := n0_; have BK202 := n1_; have HB := n2_; clear n0_ n1_ n2_; (try clear hb); (try clear hb2); (try clear hk); (try clear hi)))
                                go_ret
                                exact ⟨by first | rfl | (simp [errW_none, errW_some] <;> rfl) | (simp [*, errW_none, errW_some] <;> rfl), by repeat (first | (with_reducible first | exact HB.out | apply below_alloc | apply pw_below_drewN | apply below_drew1 | refine below_set ?_ GE180.out | refine below_set ?_ GE202.out) | exact HB.out)⟩
                              · rw [if_neg c44] at H
                                have c44b0 : (t221 == 3) = false := beq_eq_false_iff_ne.mpr c44
                                have c44b1 : (t221 != 3) = true := bne_iff_ne.mpr c44
                                exact absurd (hr_.out ▸ H) (by decide)
                          · rw [if_neg c33] at H
                            have c33b0 : decide ((IntKind.u64.wrap (t182 + t212)) < (IntKind.u64.wrap (x0_5 + 8))) = false := decide_eq_false c33
                            clear c33
                            exact absurd (hr_.out ▸ H) (by decide)
                        · rw [if_neg c32] at H
                          have c32b0 : (t210 == 0) = false := beq_eq_false_iff_ne.mpr c32
                          have c32b1 : (t210 != 0) = true := bne_iff_ne.mpr c32
                          exact absurd (hr_.out ▸ H) (by decide)
          · rw [if_neg c9] at H
            have c9b0 : (t179 == 0) = false := beq_eq_false_iff_ne.mpr c9
            have c9b1 : (t179 != 0) = true := bne_iff_ne.mpr c9
            exact absurd (hr_.out ▸ H) (by decide)

/-- THE ONE PURE STATEMENT of rotalaw22_SliceUsed: yours. -/
def rotalaw22_SliceUsed.Pure : Prop := ∀ (a0 : Int) (l1 : List Int) (l2 : List Int), (Lit.int .u64 a0).wf = true → l1.length ≤ maxLen → l1.length * 8 ≤ 140737488351232 → (∀ x ∈ l1, (Lit.int .u64 x).wf = true) → l2.length ≤ maxLen → l2.length * 8 ≤ 140737488351232 → (∀ x ∈ l2, (Lit.int .u64 x).wf = true) → ∃ k, rotalaw22_SliceUsed.f k a0 l1 l2 = some true
theorem rotalaw22_SliceUsed.walk (P : rotalaw22_SliceUsed.Pure) (a0 : Int) (a1 : Option Addr) (len1 cap1 : Nat) (z1 : List Int) (a2 : Option Addr) (len2 cap2 : Nat) (z2 : List Int) (w : World) (w0 : (Lit.int .u64 a0).wf = true) (w1 : (a1 = none ∧ len1 = 0 ∧ cap1 = 0 ∧ z1 = []) ∨ ∃ x, a1 = some x ∧ len1 ≤ cap1 ∧ cap1 ≤ maxLen ∧ z1.length = cap1 ∧ (∀ i, i < z1.length → w.cell? (x.add i) = some (.int .u64 (z1.getD i 0))) ∧ ∀ n ∈ z1, (Lit.int .u64 n).wf = true) (y1 : len1 * 8 ≤ 140737488351232) (w2 : (a2 = none ∧ len2 = 0 ∧ cap2 = 0 ∧ z2 = []) ∨ ∃ x, a2 = some x ∧ len2 ≤ cap2 ∧ cap2 ≤ maxLen ∧ z2.length = cap2 ∧ (∀ i, i < z2.length → w.cell? (x.add i) = some (.int .u64 (z2.getD i 0))) ∧ ∀ n ∈ z2, (Lit.int .u64 n).wf = true) (y2 : len2 * 8 ≤ 140737488351232) :
    Calls Try.prog 10 #[.int .u64 a0, .slice a1 len1 cap1, .slice a2 len2 cap2] w fun e w' => e = .returned (.bool true) ∧ Below w.heap.size w w' := by
  obtain ⟨l1, rfl, hr1, hm1, hw1, hc1⟩ := ReadsInt.ofRowC w1
  obtain ⟨l2, rfl, hr2, hm2, hw2, hc2⟩ := ReadsInt.ofRowC w2
  obtain ⟨k, h⟩ := P a0 l1 l2 w0 hm1 y1 hw1 hm2 y2 hw2
  refine (rotalaw22_SliceUsed.calls k a0 _ _ l1 _ _ l2 true w (Kd.C_of_reads (d := (0 : Int)) (h1 := fun _ => rfl) hr1) hc1 (Kd.C_of_reads (d := (0 : Int)) (h1 := fun _ => rfl) hr2) hc2 h ⟨rfl⟩).mono ?_
  rintro e w' ⟨rfl, hd⟩
  exact ⟨rfl, hd⟩

end Go.Proofs.Ytdmfoeokfmgglaa.PSliceUsed
