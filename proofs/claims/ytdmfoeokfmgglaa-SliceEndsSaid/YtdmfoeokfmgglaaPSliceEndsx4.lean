/- The Go functions that the law reaches, as Lean functions, and that the code comes to their answers. Laid by this session's own program; no condition. -/
import Derived.Test.YtdmfoeokfmgglaaPSliceEndsx0
import Derived.Test.YtdmfoeokfmgglaaPSliceEndsx2
import Derived.Test.YtdmfoeokfmgglaaPSliceEndsx3
namespace Go.Proofs.Ytdmfoeokfmgglaa.PSliceEnds
open Go.RowKit Go.Proofs.YtdmfoeokfmgglaaW.PrintWords Go.Proofs.YtdmfoeokfmgglaaW.PrintLast Go.Proofs.YtdmfoeokfmgglaaW.PrintMore
attribute [local go_sem] max2_int min2_int max_two min_two max_three min_three max_four min_four   -- for this text's walks alone
set_option linter.unusedVariables false
set_option linter.unusedSimpArgs false

/-! ### slice_Run: function 27 -/
mutual
def slice_Run.l0 : Nat → List Int → Int → Int → Int → Bool → Int → Int → Int → Int → Bool → Int → Option (Int × Int × Bool × Int × Int × Int × Int × Bool × Int)
  | 0, _, _, _, _, _, _, _, _, _, _, _ => none
  | k + 1, x1, x2, x9, x10, x144000, x144001, x144002, x144003, x144004, x144005, x144006 => if x2 > 0 then (if x9 < (x1.length : Int) then (if 0 ≤ x9 then (slice_Run.j1 k x1 x2 x9 x10 (rd x1 x9) x144000 x144001 x144002 x144003 x144004 x144005 x144006) else (none)) else (slice_Run.j1 k x1 x2 x9 x10 0 x144000 x144001 x144002 x144003 x144004 x144005 x144006)) else (some (x9, x10, x144000, x144001, x144002, x144003, x144004, x144005, x144006))
def slice_Run.j1 : Nat → List Int → Int → Int → Int → Int → Bool → Int → Int → Int → Int → Bool → Int → Option (Int × Int × Bool × Int × Int × Int × Int × Bool × Int)
  | 0, _, _, _, _, _, _, _, _, _, _, _, _ => none
  | k + 1, x1, x2, x9, x10, x11, x144000, x144001, x144002, x144003, x144004, x144005, x144006 => (slice_Decide.f x144000 x144001 x144002 x144003 x144004 x144005 x144006 x11 x2).bind fun t146 => (if t146 = 5 then ((slice_Begin.f k x144000 x144001 x144002 x144003 x144004 x144005 x144006 x11).bind fun bt147 => (if x9 ≥ (x1.length : Int) then (slice_Run.j2 k x1 x2 x9 x10 true x144000 x144001 x144002 x144003 x144004 x144005 x144006 bt147.1 bt147.2.1 bt147.2.2.1 bt147.2.2.2.1 bt147.2.2.2.2.1 bt147.2.2.2.2.2.1 bt147.2.2.2.2.2.2.1) else (slice_Run.j2 k x1 x2 x9 x10 (bt147.2.2.2.2.2.2.2 != 0) x144000 x144001 x144002 x144003 x144004 x144005 x144006 bt147.1 bt147.2.1 bt147.2.2.1 bt147.2.2.2.1 bt147.2.2.2.2.1 bt147.2.2.2.2.2.1 bt147.2.2.2.2.2.2.1))) else (if t146 = 2 then ((slice_Tick.f x144000 x144001 x144002 x144003 x144004 x144005 x144006).bind fun bt165 => (if bt165.2.2.2.2.2.2.2.1 = true then (slice_Run.l0 k x1 (IntKind.u64.wrap (x2 - 1)) (wrap64 (x9 + 1)) (IntKind.u64.wrap (x10 + 1)) bt165.1 bt165.2.1 bt165.2.2.1 bt165.2.2.2.1 bt165.2.2.2.2.1 bt165.2.2.2.2.2.1 bt165.2.2.2.2.2.2.1) else (slice_Run.l0 k x1 (IntKind.u64.wrap (x2 - 1)) x9 (IntKind.u64.wrap (x10 + 1)) bt165.1 bt165.2.1 bt165.2.2.1 bt165.2.2.2.1 bt165.2.2.2.2.1 bt165.2.2.2.2.2.1 bt165.2.2.2.2.2.2.1))) else (some (x9, x10, x144000, x144001, x144002, x144003, x144004, x144005, x144006))))
def slice_Run.j2 : Nat → List Int → Int → Int → Int → Bool → Bool → Int → Int → Int → Int → Bool → Int → Bool → Int → Int → Int → Int → Bool → Int → Option (Int × Int × Bool × Int × Int × Int × Int × Bool × Int)
  | 0, _, _, _, _, _, _, _, _, _, _, _, _, _, _, _, _, _, _, _ => none
  | k + 1, x1, x2, x9, x10, x45, x144000, x144001, x144002, x144003, x144004, x144005, x144006, x156000, x156001, x156002, x156003, x156004, x156005, x156006 => if x45 = true then (some (x9, x10, x144000, x144001, x144002, x144003, x144004, x144005, x144006)) else ((slice_Tick.f x156000 x156001 x156002 x156003 x156004 x156005 x156006).bind fun bt156 => (if bt156.2.2.2.2.2.2.2.1 = true then (slice_Run.l0 k x1 (IntKind.u64.wrap (x2 - 1)) (wrap64 (x9 + 1)) (IntKind.u64.wrap (x10 + 1)) bt156.1 bt156.2.1 bt156.2.2.1 bt156.2.2.2.1 bt156.2.2.2.2.1 bt156.2.2.2.2.2.1 bt156.2.2.2.2.2.2.1) else (slice_Run.l0 k x1 (IntKind.u64.wrap (x2 - 1)) x9 (IntKind.u64.wrap (x10 + 1)) bt156.1 bt156.2.1 bt156.2.2.1 bt156.2.2.2.1 bt156.2.2.2.2.1 bt156.2.2.2.2.2.1 bt156.2.2.2.2.2.2.1)))
end
def slice_Run.f (k : Nat) (a0_0 : Bool) (a0_1 : Int) (a0_2 : Int) (a0_3 : Int) (a0_4 : Int) (a0_5 : Bool) (a0_6 : Int) (l1 : List Int) (a2 : Int) : Option (Int × Int × Bool × Int × Int × Int × Int × Bool × Int) := slice_Run.l0 k l1 a2 0 0 a0_0 a0_1 a0_2 a0_3 a0_4 a0_5 a0_6
theorem slice_Run.mono_l : ∀ k, (∀ y0 y1 y2 y3 y4 y5 y6 y7 y8 y9 y10, LeO (slice_Run.l0 k y0 y1 y2 y3 y4 y5 y6 y7 y8 y9 y10) (slice_Run.l0 (k + 1) y0 y1 y2 y3 y4 y5 y6 y7 y8 y9 y10)) ∧ (∀ y0 y1 y2 y3 y4 y5 y6 y7 y8 y9 y10 y11, LeO (slice_Run.j1 k y0 y1 y2 y3 y4 y5 y6 y7 y8 y9 y10 y11) (slice_Run.j1 (k + 1) y0 y1 y2 y3 y4 y5 y6 y7 y8 y9 y10 y11)) ∧ (∀ y0 y1 y2 y3 y4 y5 y6 y7 y8 y9 y10 y11 y12 y13 y14 y15 y16 y17 y18, LeO (slice_Run.j2 k y0 y1 y2 y3 y4 y5 y6 y7 y8 y9 y10 y11 y12 y13 y14 y15 y16 y17 y18) (slice_Run.j2 (k + 1) y0 y1 y2 y3 y4 y5 y6 y7 y8 y9 y10 y11 y12 y13 y14 y15 y16 y17 y18))
  | 0 => ⟨fun _ _ _ _ _ _ _ _ _ _ _ r h => by simp [slice_Run.l0] at h, fun _ _ _ _ _ _ _ _ _ _ _ _ r h => by simp [slice_Run.j1] at h, fun _ _ _ _ _ _ _ _ _ _ _ _ _ _ _ _ _ _ _ r h => by simp [slice_Run.j2] at h⟩
  | k + 1 => by
    obtain ⟨ih0, ih1, ih2⟩ := slice_Run.mono_l k
    refine ⟨?_, ?_, ?_⟩
    · intro y0 y1 y2 y3 y4 y5 y6 y7 y8 y9 y10
      unfold slice_Run.l0
      repeat' first
      | (with_reducible exact ih0 _ _ _ _ _ _ _ _ _ _ _)
      | (with_reducible exact ih1 _ _ _ _ _ _ _ _ _ _ _ _)
      | (with_reducible exact ih2 _ _ _ _ _ _ _ _ _ _ _ _ _ _ _ _ _ _ _)
      | (with_reducible exact slice_Begin.mono _ _ _ _ _ _ _ _ _)
      | (with_reducible exact LeO.refl _)
      | (with_reducible exact LeO.none _)
      | (with_reducible refine LeO.ite ?_ ?_)
      | (with_reducible refine LeO.bind ?_ (fun _ => ?_))
      | exact ih0 _ _ _ _ _ _ _ _ _ _ _
      | exact ih1 _ _ _ _ _ _ _ _ _ _ _ _
      | exact ih2 _ _ _ _ _ _ _ _ _ _ _ _ _ _ _ _ _ _ _
      | exact slice_Begin.mono _ _ _ _ _ _ _ _ _
      | exact LeO.none _
      | refine LeO.ite ?_ ?_
      | refine LeO.bind ?_ (fun _ => ?_)
    · intro y0 y1 y2 y3 y4 y5 y6 y7 y8 y9 y10 y11
      unfold slice_Run.j1
      repeat' first
      | (with_reducible exact ih0 _ _ _ _ _ _ _ _ _ _ _)
      | (with_reducible exact ih1 _ _ _ _ _ _ _ _ _ _ _ _)
      | (with_reducible exact ih2 _ _ _ _ _ _ _ _ _ _ _ _ _ _ _ _ _ _ _)
      | (with_reducible exact slice_Begin.mono _ _ _ _ _ _ _ _ _)
      | (with_reducible exact LeO.refl _)
      | (with_reducible exact LeO.none _)
      | (with_reducible refine LeO.ite ?_ ?_)
      | (with_reducible refine LeO.bind ?_ (fun _ => ?_))
      | exact ih0 _ _ _ _ _ _ _ _ _ _ _
      | exact ih1 _ _ _ _ _ _ _ _ _ _ _ _
      | exact ih2 _ _ _ _ _ _ _ _ _ _ _ _ _ _ _ _ _ _ _
      | exact slice_Begin.mono _ _ _ _ _ _ _ _ _
      | exact LeO.none _
      | refine LeO.ite ?_ ?_
      | refine LeO.bind ?_ (fun _ => ?_)
    · intro y0 y1 y2 y3 y4 y5 y6 y7 y8 y9 y10 y11 y12 y13 y14 y15 y16 y17 y18
      unfold slice_Run.j2
      repeat' first
      | (with_reducible exact ih0 _ _ _ _ _ _ _ _ _ _ _)
      | (with_reducible exact ih1 _ _ _ _ _ _ _ _ _ _ _ _)
      | (with_reducible exact ih2 _ _ _ _ _ _ _ _ _ _ _ _ _ _ _ _ _ _ _)
      | (with_reducible exact slice_Begin.mono _ _ _ _ _ _ _ _ _)
      | (with_reducible exact LeO.refl _)
      | (with_reducible exact LeO.none _)
      | (with_reducible refine LeO.ite ?_ ?_)
      | (with_reducible refine LeO.bind ?_ (fun _ => ?_))
      | exact ih0 _ _ _ _ _ _ _ _ _ _ _
      | exact ih1 _ _ _ _ _ _ _ _ _ _ _ _
      | exact ih2 _ _ _ _ _ _ _ _ _ _ _ _ _ _ _ _ _ _ _
      | exact slice_Begin.mono _ _ _ _ _ _ _ _ _
      | exact LeO.none _
      | refine LeO.ite ?_ ?_
      | refine LeO.bind ?_ (fun _ => ?_)
theorem slice_Run.mono : ∀ a0 a1 a2 a3 a4 a5 a6 a7 a8 k, LeO (slice_Run.f k a0 a1 a2 a3 a4 a5 a6 a7 a8) (slice_Run.f (k + 1) a0 a1 a2 a3 a4 a5 a6 a7 a8) := by
  intro a0 a1 a2 a3 a4 a5 a6 a7 a8 k
  obtain ⟨ih0, ih1, ih2⟩ := slice_Run.mono_l k
  unfold slice_Run.f
  repeat' first
      | (with_reducible exact ih0 _ _ _ _ _ _ _ _ _ _ _)
      | (with_reducible exact ih1 _ _ _ _ _ _ _ _ _ _ _ _)
      | (with_reducible exact ih2 _ _ _ _ _ _ _ _ _ _ _ _ _ _ _ _ _ _ _)
      | (with_reducible exact slice_Begin.mono _ _ _ _ _ _ _ _ _)
      | (with_reducible exact LeO.refl _)
      | (with_reducible exact LeO.none _)
      | (with_reducible refine LeO.ite ?_ ?_)
      | (with_reducible refine LeO.bind ?_ (fun _ => ?_))
      | exact ih0 _ _ _ _ _ _ _ _ _ _ _
      | exact ih1 _ _ _ _ _ _ _ _ _ _ _ _
      | exact ih2 _ _ _ _ _ _ _ _ _ _ _ _ _ _ _ _ _ _ _
      | exact slice_Begin.mono _ _ _ _ _ _ _ _ _
      | exact LeO.none _
      | refine LeO.ite ?_ ?_
      | refine LeO.bind ?_ (fun _ => ?_)
set_option maxHeartbeats 8000000 in
set_option maxRecDepth 100000 in
theorem slice_Run.calls (k : Nat) (a0_0 : Bool) (a0_1 : Int) (a0_2 : Int) (a0_3 : Int) (a0_4 : Int) (a0_5 : Bool) (a0_6 : Int) (A1 : Option Addr) (c1 : Nat) (l1 : List Int) (a2 : Int) (r1 : Int) (r2 : Int) (r3 : Bool) (r4 : Int) (r5 : Int) (r6 : Int) (r7 : Int) (r8 : Bool) (r9 : Int) (w : World) (hr1 : Kd.C (Kd.int .u64) w A1 l1.length l1) (hc1 : l1.length ≤ c1) (h : slice_Run.f k a0_0 a0_1 a0_2 a0_3 a0_4 a0_5 a0_6 l1 a2 = some (r1, r2, r3, r4, r5, r6, r7, r8, r9)) :
    Calls Try.prog 27 #[.agg #[.bool a0_0, .int .i64 a0_1, .int .i64 a0_2, .int .u64 a0_3, .int .u64 a0_4, .bool a0_5, .int .u64 a0_6], .slice A1 l1.length c1, .int .u64 a2] w fun e w' => e = .returned (.tuple #[.int .i64 r1, .int .u64 r2, .agg #[.bool r3, .int .i64 r4, .int .i64 r5, .int .u64 r6, .int .u64 r7, .bool r8, .int .u64 r9]]) ∧ Below w.heap.size w w' := by
  have hu28 := Try.underlying28
  have HR1 := Aside0.mk hr1
  have HC1 := Aside0.mk hc1
  clear hr1 hc1
  have HB := Aside0.mk (Below.refl w.heap.size w)
  have H : (slice_Run.l0 k l1 a2 0 0 a0_0 a0_1 a0_2 a0_3 a0_4 a0_5 a0_6) = some (r1, r2, r3, r4, r5, r6, r7, r8, r9) := h
  clear h
  have H' := Aside0.mk H
  clear H
  go_enter Try.func27, Try.ntmps27
  go_wp2_with (first | ((with_reducible refine gate_dst (N := 3) rfl ?_); refine box_event ?hg (N := 3) ?hd (cs := #[.bool a0_0, .int .i64 a0_1, .int .i64 a0_2, .int .u64 a0_3, .int .u64 a0_4, .bool a0_5, .int .u64 a0_6]) (t := 28) ?hr ?_; (case hd => rfl); (case hg => rfl); (case hr => first | (go_simp; done) | (go_simp; rfl)); intro gb143 hg w4 hbox hb; have n0_ := Aside0.mk (below_step (by repeat (first | (with_reducible first | exact HB.out | apply below_alloc | apply pw_below_drewN | apply below_drew1) | exact HB.out)) hb); have n1_ := Aside0.mk (hbox); have n2_ := Aside0.mk ((by rw [hg]; exact (below_size (by repeat (first | (with_reducible first | exact HB.out | apply below_alloc | apply pw_below_drewN | apply below_drew1) | exact HB.out))) : w.heap.size ≤ gb143)); have n3_ := Aside0.mk ((by rw [hg]; exact (below_size (by repeat (first | (with_reducible first | exact HB.out | apply below_alloc | apply pw_below_drewN | apply below_drew1) | exact HB.out))) : w.heap.size ≤ gb143)); clear HB; have HB := n0_; have BK143 := n1_; have GW143 := n2_; have GE143 := n3_; clear n0_ n1_ n2_ n3_; clear hb hbox hg) | ((with_reducible refine gate_dst (N := 8) rfl ?_); refine box_event ?hg (N := 8) ?hd (cs := #[.bool false, .int .i64 0, .int .i64 0, .int .u64 0, .int .u64 0, .bool false, .int .u64 0]) (t := 28) ?hr ?_; (case hd => rfl); (case hg => rfl); (case hr => first | (go_simp; done) | (go_simp; rfl)); intro gb144 hg w5 hbox hb; have n0_ := Aside0.mk (blk_below (g := gb143) (o := .cells #[.bool a0_0, .int .i64 a0_1, .int .i64 a0_2, .int .u64 a0_3, .int .u64 a0_4, .bool a0_5, .int .u64 a0_6] 28 (0, 0)) (by (with_reducible repeat (first | refine blk_drewN ?_ _ | refine blk_drew ?_ | refine blk_alloc ?_ _)); exact BK143.out) hb); have n1_ := Aside0.mk (below_step (by repeat (first | (with_reducible first | exact HB.out | apply below_alloc | apply pw_below_drewN | apply below_drew1 | refine below_set ?_ GE143.out) | exact HB.out)) hb); have n2_ := Aside0.mk (hbox); have n3_ := Aside0.mk ((by rw [hg]; exact (below_size (by repeat (first | (with_reducible first | exact HB.out | apply below_alloc | apply pw_below_drewN | apply below_drew1 | refine below_set ?_ GE143.out) | exact HB.out))) : w.heap.size ≤ gb144)); have n4_ := Aside0.mk ((by rw [hg]; exact (below_size (by repeat (first | (with_reducible first | exact HB.out | apply below_alloc | apply pw_below_drewN | apply below_drew1 | refine below_set ?_ GE143.out) | exact HB.out))) : w.heap.size ≤ gb144)); have n5_ := Aside0.mk ((by rw [hg]; exact Nat.ne_of_lt (blk_lt (g := gb143) (o := .cells #[.bool a0_0, .int .i64 a0_1, .int .i64 a0_2, .int .u64 a0_3, .int .u64 a0_4, .bool a0_5, .int .u64 a0_6] 28 (0, 0)) (by (with_reducible repeat (first | refine blk_drewN ?_ _ | refine blk_drew ?_ | refine blk_alloc ?_ _)); exact BK143.out)) : gb143 ≠ gb144)); have n6_ := Aside0.mk ((by rw [hg]; exact Nat.ne_of_gt (blk_lt (g := gb143) (o := .cells #[.bool a0_0, .int .i64 a0_1, .int .i64 a0_2, .int .u64 a0_3, .int .u64 a0_4, .bool a0_5, .int .u64 a0_6] 28 (0, 0)) (by (with_reducible repeat (first | refine blk_drewN ?_ _ | refine blk_drew ?_ | refine blk_alloc ?_ _)); exact BK143.out)) : gb144 ≠ gb143)); clear BK143; clear HB; have BK143 := n0_; have HB := n1_; have BK144 := n2_; have GW144 := n3_; have GE144 := n4_; have NB143_144 := n5_; have NB144_143 := n6_; clear n0_ n1_ n2_ n3_ n4_ n5_ n6_; clear hb hbox hg))
  go_loopg [2, 9, 10] k (fun kq v2 v9 v10 w' => ∃ (x2_1 : Int) (x9_1 : Int) (x10_1 : Int) (x144000_1 : Bool) (x144001_1 : Int) (x144002_1 : Int) (x144003_1 : Int) (x144004_1 : Int) (x144005_1 : Bool) (x144006_1 : Int), v2 = .int .u64 x2_1 ∧ v9 = .int .i64 x9_1 ∧ v10 = .int .u64 x10_1 ∧ Aside0 (slice_Run.l0 kq l1 x2_1 x9_1 x10_1 x144000_1 x144001_1 x144002_1 x144003_1 x144004_1 x144005_1 x144006_1 = some (r1, r2, r3, r4, r5, r6, r7, r8, r9)) ∧ Aside0 (kq ≤ k) ∧ Aside0 (w'.heap[gb143]? = some (.cells #[.bool x144000_1, .int .i64 x144001_1, .int .i64 x144002_1, .int .u64 x144003_1, .int .u64 x144004_1, .bool x144005_1, .int .u64 x144006_1] 28 (0, 0))) ∧ Aside0 (w'.heap[gb144]? = some (.cells #[.bool false, .int .i64 0, .int .i64 0, .int .u64 0, .int .u64 0, .bool false, .int .u64 0] 28 (0, 0))) ∧ Aside0 (Below w.heap.size w w'))
  case atStart => exact ⟨(a2), (0), (0), (a0_0), (a0_1), (a0_2), (a0_3), (a0_4), (a0_5), (a0_6), (by first | rfl | (simp; done) | (simp [*]; done)), (by first | rfl | (simp; done) | (simp [*]; done)), (by first | rfl | (simp; done) | (simp [*]; done)), H', ⟨Nat.le_refl _⟩, ⟨by (with_reducible repeat (first | refine blk_drewN ?_ _ | refine blk_drew ?_ | refine blk_alloc ?_ _)); exact BK143.out⟩, ⟨by (with_reducible repeat (first | refine blk_drewN ?_ _ | refine blk_drew ?_ | refine blk_alloc ?_ _)); exact BK144.out⟩, ⟨by repeat (first | (with_reducible first | exact HB.out | apply below_alloc | apply pw_below_drewN | apply below_drew1 | refine below_set ?_ GE143.out | refine below_set ?_ GE144.out) | exact HB.out)⟩⟩
  case round =>
    clear H'
    try clear c1
    try clear c2
    try clear p2
    obtain ⟨x2_1, x9_1, x10_1, x144000_1, x144001_1, x144002_1, x144003_1, x144004_1, x144005_1, x144006_1, rfl, rfl, rfl, HA, HK1, BK143, BK144, HB⟩ := hrel
    cases gk with
    | zero => exact absurd HA.out (by simp [slice_Run.l0])
    | succ k1 =>
      have H := HA.out
      clear HA
      simp only [slice_Run.l0] at H
      by_cases c6 : x2_1 > 0
      · rw [if_pos c6] at H
        have c6b0 : decide (0 < x2_1) = true := decide_eq_true c6
        clear c6
        have HC7 := Aside0.mk H
        clear H
        go_upto_if 21 with (fail)
        go_cut [11] (fun v11 wc => ∃ (kq : Nat) (x11_6 : Int), v11 = .int .u64 x11_6 ∧ Aside0 (slice_Run.j1 kq l1 x2_1 x9_1 x10_1 x11_6 x144000_1 x144001_1 x144002_1 x144003_1 x144004_1 x144005_1 x144006_1 = some (r1, r2, r3, r4, r5, r6, r7, r8, r9)) ∧ Aside0 (kq ≤ k1) ∧ Aside0 (wc.heap[gb143]? = some (.cells #[.bool x144000_1, .int .i64 x144001_1, .int .i64 x144002_1, .int .u64 x144003_1, .int .u64 x144004_1, .bool x144005_1, .int .u64 x144006_1] 28 (0, 0))) ∧ Aside0 (wc.heap[gb144]? = some (.cells #[.bool false, .int .i64 0, .int .i64 0, .int .u64 0, .int .u64 0, .bool false, .int .u64 0] 28 (0, 0))) ∧ Aside0 (Below w.heap.size w wc))
        case first =>
          have H := HC7.out
          clear HC7
          by_cases c8 : x9_1 < (l1.length : Int)
          · rw [if_pos c8] at H
            have c8b0 : decide (x9_1 < (l1.length : Int)) = true := decide_eq_true c8
            clear c8
            (first | rw [c8b0] | (simp only [i64_w, i32_w]; rw [c8b0]) | skip)
            by_cases c9 : 0 ≤ x9_1
            · rw [if_pos c9] at H
              have c9b0 : decide (0 ≤ x9_1) = true := decide_eq_true c9
              clear c9
              have H' := Aside0.mk H
              clear H
              have p145 : 0 ≤ (x9_1 : Int) := of_decide_eq_true (by first | (with_reducible assumption) | assumption)
              have q145 : x9_1 < (l1.length : Int) := of_decide_eq_true (by first | (with_reducible assumption) | assumption)
              obtain ⟨ad145, e145, hx145_0⟩ := Kd.at_int HR1.out x9_1 p145 q145
              cases e145
              replace hx145_0 := (HB.out.cell (World.block_lt_of_cell? w _ hx145_0)).trans hx145_0
              replace p145 := eq_true p145
              replace q145 := eq_true q145
              go_wp2
              go_meet
              case rel => exact ⟨_, (rd l1 x9_1), (by first | rfl | (simp; done) | (simp [*]; done)), H', ⟨by have := HK1.out; first | omega | exact Nat.le_refl _⟩, ⟨by (with_reducible repeat (first | refine blk_drewN ?_ _ | refine blk_drew ?_ | refine blk_alloc ?_ _)); exact BK143.out⟩, ⟨by (with_reducible repeat (first | refine blk_drewN ?_ _ | refine blk_drew ?_ | refine blk_alloc ?_ _)); exact BK144.out⟩, ⟨by repeat (first | (with_reducible first | exact HB.out | apply below_alloc | apply pw_below_drewN | apply below_drew1 | refine below_set ?_ GE143.out | refine below_set ?_ GE144.out) | exact HB.out)⟩⟩
            · rw [if_neg c9] at H
              exact absurd H (by simp)
          · rw [if_neg c8] at H
            have c8b0 : decide (x9_1 < (l1.length : Int)) = false := decide_eq_false c8
            clear c8
            (first | rw [c8b0] | (simp only [i64_w, i32_w]; rw [c8b0]) | skip)
            have H' := Aside0.mk H
            clear H
            go_wp2
            go_meet
            case rel => exact ⟨_, (0), (by first | rfl | (simp; done) | (simp [*]; done)), H', ⟨by have := HK1.out; first | omega | exact Nat.le_refl _⟩, ⟨by (with_reducible repeat (first | refine blk_drewN ?_ _ | refine blk_drew ?_ | refine blk_alloc ?_ _)); exact BK143.out⟩, ⟨by (with_reducible repeat (first | refine blk_drewN ?_ _ | refine blk_drew ?_ | refine blk_alloc ?_ _)); exact BK144.out⟩, ⟨by repeat (first | (with_reducible first | exact HB.out | apply below_alloc | apply pw_below_drewN | apply below_drew1 | refine below_set ?_ GE143.out | refine below_set ?_ GE144.out) | exact HB.out)⟩⟩
        case rest =>
          clear HC7
          try clear c1
          try clear p1
          try clear q1
          try clear hx1
          try clear c2
          try clear p2
          try clear c6
          try clear c6b0
          try clear c8
          try clear c8b0
          try clear c9
          try clear c9b0
          try clear hx145_0
          try clear p145
          try clear p2
          try clear q145
          obtain ⟨kq, x11_6, rfl, HA, HJ6, BK143, BK144, HB⟩ := hcut
          cases kq with
          | zero => exact absurd HA.out (by simp [slice_Run.j1])
          | succ kj6 =>
            have H := HA.out
            clear HA
            simp only [slice_Run.j1] at H
            replace H := Option.bind_eq_some_iff.mp H
            obtain ⟨t146, A100, H⟩ := H
            replace H : (if t146 = 5 then ((slice_Begin.f kj6 x144000_1 x144001_1 x144002_1 x144003_1 x144004_1 x144005_1 x144006_1 x11_6).bind fun bt147 => (if x9_1 ≥ (l1.length : Int) then (slice_Run.j2 kj6 l1 x2_1 x9_1 x10_1 true x144000_1 x144001_1 x144002_1 x144003_1 x144004_1 x144005_1 x144006_1 bt147.1 bt147.2.1 bt147.2.2.1 bt147.2.2.2.1 bt147.2.2.2.2.1 bt147.2.2.2.2.2.1 bt147.2.2.2.2.2.2.1) else (slice_Run.j2 kj6 l1 x2_1 x9_1 x10_1 (bt147.2.2.2.2.2.2.2 != 0) x144000_1 x144001_1 x144002_1 x144003_1 x144004_1 x144005_1 x144006_1 bt147.1 bt147.2.1 bt147.2.2.1 bt147.2.2.2.1 bt147.2.2.2.2.1 bt147.2.2.2.2.2.1 bt147.2.2.2.2.2.2.1))) else (if t146 = 2 then ((slice_Tick.f x144000_1 x144001_1 x144002_1 x144003_1 x144004_1 x144005_1 x144006_1).bind fun bt165 => (if bt165.2.2.2.2.2.2.2.1 = true then (slice_Run.l0 kj6 l1 (IntKind.u64.wrap (x2_1 - 1)) (wrap64 (x9_1 + 1)) (IntKind.u64.wrap (x10_1 + 1)) bt165.1 bt165.2.1 bt165.2.2.1 bt165.2.2.2.1 bt165.2.2.2.2.1 bt165.2.2.2.2.2.1 bt165.2.2.2.2.2.2.1) else (slice_Run.l0 kj6 l1 (IntKind.u64.wrap (x2_1 - 1)) x9_1 (IntKind.u64.wrap (x10_1 + 1)) bt165.1 bt165.2.1 bt165.2.2.1 bt165.2.2.2.1 bt165.2.2.2.2.1 bt165.2.2.2.2.2.1 bt165.2.2.2.2.2.2.1))) else (some (x9_1, x10_1, x144000_1, x144001_1, x144002_1, x144003_1, x144004_1, x144005_1, x144006_1)))) = some (r1, r2, r3, r4, r5, r6, r7, r8, r9) := H
            have A10 := Aside0.mk A100
            clear A100
            by_cases c11 : t146 = 5
            · rw [if_pos c11] at H
              have c11b0 : (t146 == 5) = true := beq_iff_eq.mpr c11
              have c11b1 : (t146 != 5) = false := bne_eq_false_iff_eq.mpr c11
              clear c11
              replace H := Option.bind_eq_some_iff.mp H
              obtain ⟨⟨t147, t148, t149, t150, t151, t152, t153, t154⟩, A120, H⟩ := H
              replace H : (if x9_1 ≥ (l1.length : Int) then (slice_Run.j2 kj6 l1 x2_1 x9_1 x10_1 true x144000_1 x144001_1 x144002_1 x144003_1 x144004_1 x144005_1 x144006_1 t147 t148 t149 t150 t151 t152 t153) else (slice_Run.j2 kj6 l1 x2_1 x9_1 x10_1 (t154 != 0) x144000_1 x144001_1 x144002_1 x144003_1 x144004_1 x144005_1 x144006_1 t147 t148 t149 t150 t151 t152 t153)) = some (r1, r2, r3, r4, r5, r6, r7, r8, r9) := H
              have A12 := Aside0.mk A120
              clear A120
              have HC13 := Aside0.mk H
              clear H
              have hnb14 := NB143_144.out
              have hnc14 := NB144_143.out
              have hcz15_0 : wc.cell? ⟨gb143, 0, none⟩ = some (.bool x144000_1) := (blk_cell BK143.out 0).trans rfl
              have hcz15_1 : wc.cell? ⟨gb143, 1, none⟩ = some (.int .i64 x144001_1) := (blk_cell BK143.out 1).trans rfl
              have hcz15_2 : wc.cell? ⟨gb143, 2, none⟩ = some (.int .i64 x144002_1) := (blk_cell BK143.out 2).trans rfl
              have hcz15_3 : wc.cell? ⟨gb143, 3, none⟩ = some (.int .u64 x144003_1) := (blk_cell BK143.out 3).trans rfl
              have hcz15_4 : wc.cell? ⟨gb143, 4, none⟩ = some (.int .u64 x144004_1) := (blk_cell BK143.out 4).trans rfl
              have hcz15_5 : wc.cell? ⟨gb143, 5, none⟩ = some (.bool x144005_1) := (blk_cell BK143.out 5).trans rfl
              have hcz15_6 : wc.cell? ⟨gb143, 6, none⟩ = some (.int .u64 x144006_1) := (blk_cell BK143.out 6).trans rfl
              have hfz15_0 := blk_frozen BK143.out 0
              have hfz15_1 := blk_frozen BK143.out 1
              have hfz15_2 := blk_frozen BK143.out 2
              have hfz15_3 := blk_frozen BK143.out 3
              have hfz15_4 := blk_frozen BK143.out 4
              have hfz15_5 := blk_frozen BK143.out 5
              have hfz15_6 := blk_frozen BK143.out 6
              go_upto_region 9 with (first | ((with_reducible refine gate_callee (f := 24) rfl ?_); refine goesL_ (some 29) rfl rfl Try.func24 (by kernel_rfl) rfl #[.agg #[.bool x144000_1, .int .i64 x144001_1, .int .i64 x144002_1, .int .u64 x144003_1, .int .u64 x144004_1, .bool x144005_1, .int .u64 x144006_1], .int .u64 x11_6, .int .u64 x2_1] rfl (by (try simp only [List.map_toArray, List.map_cons, List.map_nil]); first | done | rfl | (simp only [List.length_drop, List.length_take]; rfl)) ?_; (with_reducible refine (slice_Decide.calls x144000_1 x144001_1 x144002_1 x144003_1 x144004_1 x144005_1 x144006_1 x11_6 x2_1 t146 _ A10.out).mono ?_); rintro e w16 ⟨rfl, hb⟩; refine ⟨_, rfl, ?_⟩; have n0_ := Aside0.mk (blk_below (g := gb143) (o := .cells #[.bool x144000_1, .int .i64 x144001_1, .int .i64 x144002_1, .int .u64 x144003_1, .int .u64 x144004_1, .bool x144005_1, .int .u64 x144006_1] 28 (0, 0)) (by (with_reducible repeat (first | refine blk_drewN ?_ _ | refine blk_drew ?_ | refine blk_alloc ?_ _)); exact BK143.out) hb); have n1_ := Aside0.mk (blk_below (g := gb144) (o := .cells #[.bool false, .int .i64 0, .int .i64 0, .int .u64 0, .int .u64 0, .bool false, .int .u64 0] 28 (0, 0)) (by (with_reducible repeat (first | refine blk_drewN ?_ _ | refine blk_drew ?_ | refine blk_alloc ?_ _)); exact BK144.out) hb); have n2_ := Aside0.mk (below_step (by repeat (first | (with_reducible first | exact HB.out | apply below_alloc | apply pw_below_drewN | apply below_drew1 | refine below_set ?_ GE143.out | refine below_set ?_ GE144.out) | exact HB.out)) hb); clear BK143; clear BK144; clear HB; have BK143 := n0_; have BK144 := n1_; have HB := n2_; clear n0_ n1_ n2_; (try clear hb); (try clear hb2); (try clear hk); (try clear hi); have hcz17_0 : w16.cell? ⟨gb143, 0, none⟩ = some (.bool x144000_1) := (blk_cell BK143.out 0).trans rfl; have hcz17_1 : w16.cell? ⟨gb143, 1, none⟩ = some (.int .i64 x144001_1) := (blk_cell BK143.out 1).trans rfl; have hcz17_2 : w16.cell? ⟨gb143, 2, none⟩ = some (.int .i64 x144002_1) := (blk_cell BK143.out 2).trans rfl; have hcz17_3 : w16.cell? ⟨gb143, 3, none⟩ = some (.int .u64 x144003_1) := (blk_cell BK143.out 3).trans rfl; have hcz17_4 : w16.cell? ⟨gb143, 4, none⟩ = some (.int .u64 x144004_1) := (blk_cell BK143.out 4).trans rfl; have hcz17_5 : w16.cell? ⟨gb143, 5, none⟩ = some (.bool x144005_1) := (blk_cell BK143.out 5).trans rfl; have hcz17_6 : w16.cell? ⟨gb143, 6, none⟩ = some (.int .u64 x144006_1) := (blk_cell BK143.out 6).trans rfl; have hfz17_0 := blk_frozen BK143.out 0; have hfz17_1 := blk_frozen BK143.out 1; have hfz17_2 := blk_frozen BK143.out 2; have hfz17_3 := blk_frozen BK143.out 3; have hfz17_4 := blk_frozen BK143.out 4; have hfz17_5 := blk_frozen BK143.out 5; have hfz17_6 := blk_frozen BK143.out 6) | ((with_reducible refine gate_callee (f := 16) rfl ?_); refine goesL_ (some 35) rfl rfl Try.func16 (by kernel_rfl) rfl #[.agg #[.bool x144000_1, .int .i64 x144001_1, .int .i64 x144002_1, .int .u64 x144003_1, .int .u64 x144004_1, .bool x144005_1, .int .u64 x144006_1], .int .u64 x11_6] rfl (by (try simp only [List.map_toArray, List.map_cons, List.map_nil]); first | done | rfl | (simp only [List.length_drop, List.length_take]; rfl)) ?_; (with_reducible refine (slice_Begin.calls kj6 x144000_1 x144001_1 x144002_1 x144003_1 x144004_1 x144005_1 x144006_1 x11_6 t147 t148 t149 t150 t151 t152 t153 t154 _ A12.out).mono ?_); rintro e w18 ⟨rfl, hb⟩; refine ⟨_, rfl, ?_⟩; have n0_ := Aside0.mk (blk_below (g := gb143) (o := .cells #[.bool x144000_1, .int .i64 x144001_1, .int .i64 x144002_1, .int .u64 x144003_1, .int .u64 x144004_1, .bool x144005_1, .int .u64 x144006_1] 28 (0, 0)) (by (with_reducible repeat (first | refine blk_drewN ?_ _ | refine blk_drew ?_ | refine blk_alloc ?_ _)); exact BK143.out) hb); have n1_ := Aside0.mk (blk_below (g := gb144) (o := .cells #[.bool false, .int .i64 0, .int .i64 0, .int .u64 0, .int .u64 0, .bool false, .int .u64 0] 28 (0, 0)) (by (with_reducible repeat (first | refine blk_drewN ?_ _ | refine blk_drew ?_ | refine blk_alloc ?_ _)); exact BK144.out) hb); have n2_ := Aside0.mk (below_step (by repeat (first | (with_reducible first | exact HB.out | apply below_alloc | apply pw_below_drewN | apply below_drew1 | refine below_set ?_ GE143.out | refine below_set ?_ GE144.out) | exact HB.out)) hb); clear BK143; clear BK144; clear HB; have BK143 := n0_; have BK144 := n1_; have HB := n2_; clear n0_ n1_ n2_; (try clear hb); (try clear hb2); (try clear hk); (try clear hi)) | ((with_reducible refine gate_dst (N := 13) rfl ?_); refine box_event ?hg (N := 13) ?hd (cs := #[.bool false, .int .i64 0, .int .i64 0, .int .u64 0, .int .u64 0, .bool false, .int .u64 0]) (t := 28) ?hr ?_; (case hd => rfl); (case hg => rfl); (case hr => first | (go_simp; done) | (go_simp; rfl)); intro gb155 hg w19 hbox hb; have n0_ := Aside0.mk (blk_below (g := gb143) (o := .cells #[.bool x144000_1, .int .i64 x144001_1, .int .i64 x144002_1, .int .u64 x144003_1, .int .u64 x144004_1, .bool x144005_1, .int .u64 x144006_1] 28 (0, 0)) (by (with_reducible repeat (first | refine blk_drewN ?_ _ | refine blk_drew ?_ | refine blk_alloc ?_ _)); exact BK143.out) hb); have n1_ := Aside0.mk (blk_below (g := gb144) (o := .cells #[.bool false, .int .i64 0, .int .i64 0, .int .u64 0, .int .u64 0, .bool false, .int .u64 0] 28 (0, 0)) (by (with_reducible repeat (first | refine blk_drewN ?_ _ | refine blk_drew ?_ | refine blk_alloc ?_ _)); exact BK144.out) hb); have n2_ := Aside0.mk (below_step (by repeat (first | (with_reducible first | exact HB.out | apply below_alloc | apply pw_below_drewN | apply below_drew1 | refine below_set ?_ GE143.out | refine below_set ?_ GE144.out) | exact HB.out)) hb); have n3_ := Aside0.mk (hbox); have n4_ := Aside0.mk ((by rw [hg]; exact (below_size (by repeat (first | (with_reducible first | exact HB.out | apply below_alloc | apply pw_below_drewN | apply below_drew1 | refine below_set ?_ GE143.out | refine below_set ?_ GE144.out) | exact HB.out))) : w.heap.size ≤ gb155)); have n5_ := Aside0.mk ((by rw [hg]; exact (below_size (by repeat (first | (with_reducible first | exact HB.out | apply below_alloc | apply pw_below_drewN | apply below_drew1 | refine below_set ?_ GE143.out | refine below_set ?_ GE144.out) | exact HB.out))) : w.heap.size ≤ gb155)); have n6_ := Aside0.mk ((by rw [hg]; exact Nat.ne_of_lt (blk_lt (g := gb143) (o := .cells #[.bool x144000_1, .int .i64 x144001_1, .int .i64 x144002_1, .int .u64 x144003_1, .int .u64 x144004_1, .bool x144005_1, .int .u64 x144006_1] 28 (0, 0)) (by (with_reducible repeat (first | refine blk_drewN ?_ _ | refine blk_drew ?_ | refine blk_alloc ?_ _)); exact BK143.out)) : gb143 ≠ gb155)); have n7_ := Aside0.mk ((by rw [hg]; exact Nat.ne_of_gt (blk_lt (g := gb143) (o := .cells #[.bool x144000_1, .int .i64 x144001_1, .int .i64 x144002_1, .int .u64 x144003_1, .int .u64 x144004_1, .bool x144005_1, .int .u64 x144006_1] 28 (0, 0)) (by (with_reducible repeat (first | refine blk_drewN ?_ _ | refine blk_drew ?_ | refine blk_alloc ?_ _)); exact BK143.out)) : gb155 ≠ gb143)); have n8_ := Aside0.mk ((by rw [hg]; exact Nat.ne_of_lt (blk_lt (g := gb144) (o := .cells #[.bool false, .int .i64 0, .int .i64 0, .int .u64 0, .int .u64 0, .bool false, .int .u64 0] 28 (0, 0)) (by (with_reducible repeat (first | refine blk_drewN ?_ _ | refine blk_drew ?_ | refine blk_alloc ?_ _)); exact BK144.out)) : gb144 ≠ gb155)); have n9_ := Aside0.mk ((by rw [hg]; exact Nat.ne_of_gt (blk_lt (g := gb144) (o := .cells #[.bool false, .int .i64 0, .int .i64 0, .int .u64 0, .int .u64 0, .bool false, .int .u64 0] 28 (0, 0)) (by (with_reducible repeat (first | refine blk_drewN ?_ _ | refine blk_drew ?_ | refine blk_alloc ?_ _)); exact BK144.out)) : gb155 ≠ gb144)); clear BK143; clear BK144; clear HB; have BK143 := n0_; have BK144 := n1_; have HB := n2_; have BK155 := n3_; have GW155 := n4_; have GE155 := n5_; have NB143_155 := n6_; have NB155_143 := n7_; have NB144_155 := n8_; have NB155_144 := n9_; clear n0_ n1_ n2_ n3_ n4_ n5_ n6_ n7_ n8_ n9_; clear hb hbox hg; have hnb20 := NB155_143.out; have hnc20 := NB143_155.out; have hnb21 := NB155_144.out; have hnc21 := NB144_155.out; have hcz22_0 : w19.cell? ⟨gb155, 0, none⟩ = some (.bool false) := (blk_cell BK155.out 0).trans rfl; have hcz22_1 : w19.cell? ⟨gb155, 1, none⟩ = some (.int .i64 0) := (blk_cell BK155.out 1).trans rfl; have hcz22_2 : w19.cell? ⟨gb155, 2, none⟩ = some (.int .i64 0) := (blk_cell BK155.out 2).trans rfl; have hcz22_3 : w19.cell? ⟨gb155, 3, none⟩ = some (.int .u64 0) := (blk_cell BK155.out 3).trans rfl; have hcz22_4 : w19.cell? ⟨gb155, 4, none⟩ = some (.int .u64 0) := (blk_cell BK155.out 4).trans rfl; have hcz22_5 : w19.cell? ⟨gb155, 5, none⟩ = some (.bool false) := (blk_cell BK155.out 5).trans rfl; have hcz22_6 : w19.cell? ⟨gb155, 6, none⟩ = some (.int .u64 0) := (blk_cell BK155.out 6).trans rfl; have hfz22_0 := blk_frozen BK155.out 0; have hfz22_1 := blk_frozen BK155.out 1; have hfz22_2 := blk_frozen BK155.out 2; have hfz22_3 := blk_frozen BK155.out 3; have hfz22_4 := blk_frozen BK155.out 4; have hfz22_5 := blk_frozen BK155.out 5; have hfz22_6 := blk_frozen BK155.out 6))
              (try simp only [Act.put, List.setIfInBounds_toArray, List.set_cons_zero, List.set_cons_succ])
              go_cut [45] (fun v45 wc => ∃ (kq : Nat) (x45_12 : Bool), v45 = .bool x45_12 ∧ Aside0 (slice_Run.j2 kq l1 x2_1 x9_1 x10_1 x45_12 x144000_1 x144001_1 x144002_1 x144003_1 x144004_1 x144005_1 x144006_1 t147 t148 t149 t150 t151 t152 t153 = some (r1, r2, r3, r4, r5, r6, r7, r8, r9)) ∧ Aside0 (kq ≤ kj6) ∧ Aside0 (wc.heap[gb143]? = some (.cells #[.bool x144000_1, .int .i64 x144001_1, .int .i64 x144002_1, .int .u64 x144003_1, .int .u64 x144004_1, .bool x144005_1, .int .u64 x144006_1] 28 (0, 0))) ∧ Aside0 (wc.heap[gb144]? = some (.cells #[.bool false, .int .i64 0, .int .i64 0, .int .u64 0, .int .u64 0, .bool false, .int .u64 0] 28 (0, 0))) ∧ Aside0 (wc.heap[gb155]? = some (.cells #[.bool t147, .int .i64 t148, .int .i64 t149, .int .u64 t150, .int .u64 t151, .bool t152, .int .u64 t153] 28 (0, 0))) ∧ Aside0 (Below w.heap.size w wc))
              case first =>
                have H := HC13.out
                clear HC13
                by_cases c23 : x9_1 ≥ (l1.length : Int)
                · rw [if_pos c23] at H
                  have c23b0 : decide ((l1.length : Int) ≤ x9_1) = true := decide_eq_true c23
                  clear c23
                  (first | rw [c23b0] | (simp only [i64_w, i32_w]; rw [c23b0]) | skip)
                  have H' := Aside0.mk H
                  clear H
                  go_wp2
                  go_meet
                  case rel => exact ⟨_, (true), (by first | rfl | (simp; done) | (simp [*]; done)), H', ⟨by have := HK1.out; have := HJ6.out; first | omega | exact Nat.le_refl _⟩, ⟨by (with_reducible repeat (first | refine blk_drewN ?_ _ | refine blk_drew ?_ | refine blk_alloc ?_ _)); refine blk_far ?_ NB143_155.out _; (with_reducible repeat (first | refine blk_drewN ?_ _ | refine blk_drew ?_ | refine blk_alloc ?_ _)); refine blk_far ?_ NB143_155.out _; (with_reducible repeat (first | refine blk_drewN ?_ _ | refine blk_drew ?_ | refine blk_alloc ?_ _)); refine blk_far ?_ NB143_155.out _; (with_reducible repeat (first | refine blk_drewN ?_ _ | refine blk_drew ?_ | refine blk_alloc ?_ _)); refine blk_far ?_ NB143_155.out _; (with_reducible repeat (first | refine blk_drewN ?_ _ | refine blk_drew ?_ | refine blk_alloc ?_ _)); refine blk_far ?_ NB143_155.out _; (with_reducible repeat (first | refine blk_drewN ?_ _ | refine blk_drew ?_ | refine blk_alloc ?_ _)); refine blk_far ?_ NB143_155.out _; (with_reducible repeat (first | refine blk_drewN ?_ _ | refine blk_drew ?_ | refine blk_alloc ?_ _)); refine blk_far ?_ NB143_155.out _; (with_reducible repeat (first | refine blk_drewN ?_ _ | refine blk_drew ?_ | refine blk_alloc ?_ _)); exact BK143.out⟩, ⟨by (with_reducible repeat (first | refine blk_drewN ?_ _ | refine blk_drew ?_ | refine blk_alloc ?_ _)); refine blk_far ?_ NB144_155.out _; (with_reducible repeat (first | refine blk_drewN ?_ _ | refine blk_drew ?_ | refine blk_alloc ?_ _)); refine blk_far ?_ NB144_155.out _; (with_reducible repeat (first | refine blk_drewN ?_ _ | refine blk_drew ?_ | refine blk_alloc ?_ _)); refine blk_far ?_ NB144_155.out _; (with_reducible repeat (first | refine blk_drewN ?_ _ | refine blk_drew ?_ | refine blk_alloc ?_ _)); refine blk_far ?_ NB144_155.out _; (with_reducible repeat (first | refine blk_drewN ?_ _ | refine blk_drew ?_ | refine blk_alloc ?_ _)); refine blk_far ?_ NB144_155.out _; (with_reducible repeat (first | refine blk_drewN ?_ _ | refine blk_drew ?_ | refine blk_alloc ?_ _)); refine blk_far ?_ NB144_155.out _; (with_reducible repeat (first | refine blk_drewN ?_ _ | refine blk_drew ?_ | refine blk_alloc ?_ _)); refine blk_far ?_ NB144_155.out _; (with_reducible repeat (first | refine blk_drewN ?_ _ | refine blk_drew ?_ | refine blk_alloc ?_ _)); exact BK144.out⟩, ⟨by (with_reducible repeat (first | refine blk_drewN ?_ _ | refine blk_drew ?_ | refine blk_alloc ?_ _)); refine blk_put (cs := #[.bool t147, .int .i64 t148, .int .i64 t149, .int .u64 t150, .int .u64 t151, .bool t152, .int .u64 0]) ?_ 6 _ rfl; (with_reducible repeat (first | refine blk_drewN ?_ _ | refine blk_drew ?_ | refine blk_alloc ?_ _)); refine blk_put (cs := #[.bool t147, .int .i64 t148, .int .i64 t149, .int .u64 t150, .int .u64 t151, .bool false, .int .u64 0]) ?_ 5 _ rfl; (with_reducible repeat (first | refine blk_drewN ?_ _ | refine blk_drew ?_ | refine blk_alloc ?_ _)); refine blk_put (cs := #[.bool t147, .int .i64 t148, .int .i64 t149, .int .u64 t150, .int .u64 0, .bool false, .int .u64 0]) ?_ 4 _ rfl; (with_reducible repeat (first | refine blk_drewN ?_ _ | refine blk_drew ?_ | refine blk_alloc ?_ _)); refine blk_put (cs := #[.bool t147, .int .i64 t148, .int .i64 t149, .int .u64 0, .int .u64 0, .bool false, .int .u64 0]) ?_ 3 _ rfl; (with_reducible repeat (first | refine blk_drewN ?_ _ | refine blk_drew ?_ | refine blk_alloc ?_ _)); refine blk_put (cs := #[.bool t147, .int .i64 t148, .int .i64 0, .int .u64 0, .int .u64 0, .bool false, .int .u64 0]) ?_ 2 _ rfl; (with_reducible repeat (first | refine blk_drewN ?_ _ | refine blk_drew ?_ | refine blk_alloc ?_ _)); refine blk_put (cs := #[.bool t147, .int .i64 0, .int .i64 0, .int .u64 0, .int .u64 0, .bool false, .int .u64 0]) ?_ 1 _ rfl; (with_reducible repeat (first | refine blk_drewN ?_ _ | refine blk_drew ?_ | refine blk_alloc ?_ _)); refine blk_put (cs := #[.bool false, .int .i64 0, .int .i64 0, .int .u64 0, .int .u64 0, .bool false, .int .u64 0]) ?_ 0 _ rfl; (with_reducible repeat (first | refine blk_drewN ?_ _ | refine blk_drew ?_ | refine blk_alloc ?_ _)); exact BK155.out⟩, ⟨by repeat (first | (with_reducible first | exact HB.out | apply below_alloc | apply pw_below_drewN | apply below_drew1 | refine below_set ?_ GE143.out | refine below_set ?_ GE144.out | refine below_set ?_ GE155.out) | exact HB.out)⟩⟩
                · rw [if_neg c23] at H
                  have c23b0 : decide ((l1.length : Int) ≤ x9_1) = false := decide_eq_false c23
                  clear c23
                  (first | rw [c23b0] | (simp only [i64_w, i32_w]; rw [c23b0]) | skip)
                  have H' := Aside0.mk H
                  clear H
                  go_wp2
                  go_meet
                  case rel => exact ⟨_, ((t154 != 0)), (by first | rfl | (simp; done) | (simp [*]; done)), H', ⟨by have := HK1.out; have := HJ6.out; first | omega | exact Nat.le_refl _⟩, ⟨by (with_reducible repeat (first | refine blk_drewN ?_ _ | refine blk_drew ?_ | refine blk_alloc ?_ _)); refine blk_far ?_ NB143_155.out _; (with_reducible repeat (first | refine blk_drewN ?_ _ | refine blk_drew ?_ | refine blk_alloc ?_ _)); refine blk_far ?_ NB143_155.out _; (with_reducible repeat (first | refine blk_drewN ?_ _ | refine blk_drew ?_ | refine blk_alloc ?_ _)); refine blk_far ?_ NB143_155.out _; (with_reducible repeat (first | refine blk_drewN ?_ _ | refine blk_drew ?_ | refine blk_alloc ?_ _)); refine blk_far ?_ NB143_155.out _; (with_reducible repeat (first | refine blk_drewN ?_ _ | refine blk_drew ?_ | refine blk_alloc ?_ _)); refine blk_far ?_ NB143_155.out _; (with_reducible repeat (first | refine blk_drewN ?_ _ | refine blk_drew ?_ | refine blk_alloc ?_ _)); refine blk_far ?_ NB143_155.out _; (with_reducible repeat (first | refine blk_drewN ?_ _ | refine blk_drew ?_ | refine blk_alloc ?_ _)); refine blk_far ?_ NB143_155.out _; (with_reducible repeat (first | refine blk_drewN ?_ _ | refine blk_drew ?_ | refine blk_alloc ?_ _)); exact BK143.out⟩, ⟨by (with_reducible repeat (first | refine blk_drewN ?_ _ | refine blk_drew ?_ | refine blk_alloc ?_ _)); refine blk_far ?_ NB144_155.out _; (with_reducible repeat (first | refine blk_drewN ?_ _ | refine blk_drew ?_ | refine blk_alloc ?_ _)); refine blk_far ?_ NB144_155.out _; (with_reducible repeat (first | refine blk_drewN ?_ _ | refine blk_drew ?_ | refine blk_alloc ?_ _)); refine blk_far ?_ NB144_155.out _; (with_reducible repeat (first | refine blk_drewN ?_ _ | refine blk_drew ?_ | refine blk_alloc ?_ _)); refine blk_far ?_ NB144_155.out _; (with_reducible repeat (first | refine blk_drewN ?_ _ | refine blk_drew ?_ | refine blk_alloc ?_ _)); refine blk_far ?_ NB144_155.out _; (with_reducible repeat (first | refine blk_drewN ?_ _ | refine blk_drew ?_ | refine blk_alloc ?_ _)); refine blk_far ?_ NB144_155.out _; (with_reducible repeat (first | refine blk_drewN ?_ _ | refine blk_drew ?_ | refine blk_alloc ?_ _)); refine blk_far ?_ NB144_155.out _; (with_reducible repeat (first | refine blk_drewN ?_ _ | refine blk_drew ?_ | refine blk_alloc ?_ _)); exact BK144.out⟩, ⟨by (with_reducible repeat (first | refine blk_drewN ?_ _ | refine blk_drew ?_ | refine blk_alloc ?_ _)); refine blk_put (cs := #[.bool t147, .int .i64 t148, .int .i64 t149, .int .u64 t150, .int .u64 t151, .bool t152, .int .u64 0]) ?_ 6 _ rfl; (with_reducible repeat (first | refine blk_drewN ?_ _ | refine blk_drew ?_ | refine blk_alloc ?_ _)); refine blk_put (cs := #[.bool t147, .int .i64 t148, .int .i64 t149, .int .u64 t150, .int .u64 t151, .bool false, .int .u64 0]) ?_ 5 _ rfl; (with_reducible repeat (first | refine blk_drewN ?_ _ | refine blk_drew ?_ | refine blk_alloc ?_ _)); refine blk_put (cs := #[.bool t147, .int .i64 t148, .int .i64 t149, .int .u64 t150, .int .u64 0, .bool false, .int .u64 0]) ?_ 4 _ rfl; (with_reducible repeat (first | refine blk_drewN ?_ _ | refine blk_drew ?_ | refine blk_alloc ?_ _)); refine blk_put (cs := #[.bool t147, .int .i64 t148, .int .i64 t149, .int .u64 0, .int .u64 0, .bool false, .int .u64 0]) ?_ 3 _ rfl; (with_reducible repeat (first | refine blk_drewN ?_ _ | refine blk_drew ?_ | refine blk_alloc ?_ _)); refine blk_put (cs := #[.bool t147, .int .i64 t148, .int .i64 0, .int .u64 0, .int .u64 0, .bool false, .int .u64 0]) ?_ 2 _ rfl; (with_reducible repeat (first | refine blk_drewN ?_ _ | refine blk_drew ?_ | refine blk_alloc ?_ _)); refine blk_put (cs := #[.bool t147, .int .i64 0, .int .i64 0, .int .u64 0, .int .u64 0, .bool false, .int .u64 0]) ?_ 1 _ rfl; (with_reducible repeat (first | refine blk_drewN ?_ _ | refine blk_drew ?_ | refine blk_alloc ?_ _)); refine blk_put (cs := #[.bool false, .int .i64 0, .int .i64 0, .int .u64 0, .int .u64 0, .bool false, .int .u64 0]) ?_ 0 _ rfl; (with_reducible repeat (first | refine blk_drewN ?_ _ | refine blk_drew ?_ | refine blk_alloc ?_ _)); exact BK155.out⟩, ⟨by repeat (first | (with_reducible first | exact HB.out | apply below_alloc | apply pw_below_drewN | apply below_drew1 | refine below_set ?_ GE143.out | refine below_set ?_ GE144.out | refine below_set ?_ GE155.out) | exact HB.out)⟩⟩
              case rest =>
                clear HC13
                try clear c1
                try clear p1
                try clear q1
                try clear hx1
                try clear c2
                try clear p2
                try clear c6
                try clear c6b0
                try clear p6
                try clear c8
                try clear c8b0
                try clear c9
                try clear c9b0
                try clear c11
                try clear c11b0
                try clear c11b1
                try clear c14
                try clear p14
                try clear q14
                try clear hx14
                try clear c16
                try clear c20
                try clear c21
                try clear c23
                try clear c23b0
                try clear hcz15_0
                try clear hcz15_1
                try clear hcz15_2
                try clear hcz15_3
                try clear hcz15_4
                try clear hcz15_5
                try clear hcz15_6
                try clear hcz17_0
                try clear hcz17_1
                try clear hcz17_2
                try clear hcz17_3
                try clear hcz17_4
                try clear hcz17_5
                try clear hcz17_6
                try clear hcz22_0
                try clear hcz22_1
                try clear hcz22_2
                try clear hcz22_3
                try clear hcz22_4
                try clear hcz22_5
                try clear hcz22_6
                try clear hfz15_0
                try clear hfz15_1
                try clear hfz15_2
                try clear hfz15_3
                try clear hfz15_4
                try clear hfz15_5
                try clear hfz15_6
                try clear hfz17_0
                try clear hfz17_1
                try clear hfz17_2
                try clear hfz17_3
                try clear hfz17_4
                try clear hfz17_5
                try clear hfz17_6
                try clear hfz22_0
                try clear hfz22_1
                try clear hfz22_2
                try clear hfz22_3
                try clear hfz22_4
                try clear hfz22_5
                try clear hfz22_6
                try clear hx145_0
                try clear p1
                try clear p145
                try clear p2
                try clear q1
                try clear q145
                obtain ⟨kq, x45_12, rfl, HA, HJ12, BK143, BK144, BK155, HB⟩ := hcut
                cases kq with
                | zero => exact absurd HA.out (by simp [slice_Run.j2])
                | succ kj12 =>
                  have H := HA.out
                  clear HA
                  simp only [slice_Run.j2] at H
                  by_cases c24 : x45_12 = true
                  · subst c24
                    have H1 : (some (x9_1, x10_1, x144000_1, x144001_1, x144002_1, x144003_1, x144004_1, x144005_1, x144006_1)) = some (r1, r2, r3, r4, r5, r6, r7, r8, r9) := by rw [if_pos rfl] at H; exact H
                    clear H
                    have H := H1
                    clear H1
                    simp only [Option.some.injEq, Prod.mk.injEq] at H
                    obtain ⟨rfl, rfl, rfl, rfl, rfl, rfl, rfl, rfl, rfl⟩ := H
                    try go_wp2
                    have n0_ := Aside0.mk (blk_drew BK143.out)
                    have n1_ := Aside0.mk (blk_drew BK144.out)
                    have n2_ := Aside0.mk (blk_drew BK155.out)
                    have n3_ := Aside0.mk (below_drew1 HB.out)
                    clear BK143
                    clear BK144
                    clear BK155
                    clear HB
                    have BK143 := n0_
                    have BK144 := n1_
                    have BK155 := n2_
                    have HB := n3_
                    clear n0_ n1_ n2_ n3_
                    refine start_ (n := 6) (S := fun w' => w'.cell? ⟨gb143, 0, none⟩ = some (.bool x144000_1) ∧ w'.cell? ⟨gb143, 1, none⟩ = some (.int .i64 x144001_1) ∧ w'.cell? ⟨gb143, 2, none⟩ = some (.int .i64 x144002_1) ∧ w'.cell? ⟨gb143, 3, none⟩ = some (.int .u64 x144003_1) ∧ w'.cell? ⟨gb143, 4, none⟩ = some (.int .u64 x144004_1) ∧ w'.cell? ⟨gb143, 5, none⟩ = some (.bool x144005_1) ∧ w'.cell? ⟨gb143, 6, none⟩ = some (.int .u64 x144006_1)) (ds := []) #[false, false, false, false, false, false] (by kernel_rfl) rfl rfl ⟨(blk_cell BK143.out 0).trans rfl, (blk_cell BK143.out 1).trans rfl, (blk_cell BK143.out 2).trans rfl, (blk_cell BK143.out 3).trans rfl, (blk_cell BK143.out 4).trans rfl, (blk_cell BK143.out 5).trans rfl, (blk_cell BK143.out 6).trans rfl⟩ (fun hHeld => ?_)
                    generalize wc.drew = w25 at BK143 BK144 BK155 HB hHeld ⊢
                    refine pure_ (i := 0) (N := some 62) (v := ?_) (a' := ?_) #[true, false, false, false, false, false] rfl rfl (by kernel_rfl) (fun _ _ _ h => h) (Or.inl ⟨by rfl, ?_⟩) ?_ ?_
                    rotate_left
                    · intro w'
                      go_simp
                      with_reducible rfl
                    rotate_left
                    · simp only [Act.put, List.setIfInBounds_toArray, List.set_cons_zero, List.set_cons_succ, i64_w, i32_w]
                      rfl
                    refine pure_ (i := 1) (N := some 63) (v := ?_) (a' := ?_) #[true, true, false, false, false, false] rfl rfl (by kernel_rfl) (fun _ _ _ h => h) (Or.inl ⟨by rfl, ?_⟩) ?_ ?_
                    rotate_left
                    · intro w'
                      go_simp
                      with_reducible rfl
                    rotate_left
                    · simp only [Act.put, List.setIfInBounds_toArray, List.set_cons_zero, List.set_cons_succ, i64_w, i32_w]
                      rfl
                    refine pure_ (i := 3) (N := some 6) (v := ?_) (a' := ?_) #[true, true, false, true, false, false] rfl rfl (by kernel_rfl) (fun _ _ _ h => h) (Or.inl ⟨by rfl, ?_⟩) ?_ ?_
                    rotate_left
                    · intro w'
                      go_simp
                      with_reducible rfl
                    rotate_left
                    · simp only [Act.put, List.setIfInBounds_toArray, List.set_cons_zero, List.set_cons_succ, i64_w, i32_w]
                      rfl
                    refine pure_ (i := 4) (N := some 7) (v := ?_) (a' := ?_) #[true, true, false, true, true, false] rfl rfl (by kernel_rfl) (fun _ _ _ h => h) (Or.inl ⟨by rfl, ?_⟩) ?_ ?_
                    rotate_left
                    · intro w'
                      go_simp
                      with_reducible rfl
                    rotate_left
                    · simp only [Act.put, List.setIfInBounds_toArray, List.set_cons_zero, List.set_cons_succ, i64_w, i32_w]
                      rfl
                    refine take_ (i := 2) (N := some 64) (v := ?_) (a' := ?_) #[true, true, true, true, true, false] rfl rfl (by kernel_rfl) (fun _ _ _ h => h) (Or.inl ⟨by rfl, ?_⟩) hHeld ?_ ?_
                    rotate_left
                    · rintro w' ⟨s0, s1, s2, s3, s4, s5, s6⟩
                      go_simp
                      with_reducible rfl
                    rotate_left
                    · simp only [Act.put, List.setIfInBounds_toArray, List.set_cons_zero, List.set_cons_succ, i64_w, i32_w]
                      rfl
                    refine one_ (i := 5) (N := none) #[true, true, true, true, true, true] rfl rfl (by kernel_rfl) (by decide) (fun K hK => ?_)
                    have hs26 : w25.cell? ⟨gb144, 0, none⟩ = some (.bool false) := (blk_cell BK144.out 0).trans rfl
                    have hfs26 := blk_frozen BK144.out 0
                    have hns26_0 := NB143_144.out
                    have hns26_2 := NB155_144.out
                    have hms26_0 := NB144_143.out
                    have hms26_2 := NB144_155.out
                    have hs27 : w25.cell? ⟨gb144, 1, none⟩ = some (.int .i64 0) := (blk_cell BK144.out 1).trans rfl
                    have hfs27 := blk_frozen BK144.out 1
                    have hns27_0 := NB143_144.out
                    have hns27_2 := NB155_144.out
                    have hms27_0 := NB144_143.out
                    have hms27_2 := NB144_155.out
                    have hs28 : w25.cell? ⟨gb144, 2, none⟩ = some (.int .i64 0) := (blk_cell BK144.out 2).trans rfl
                    have hfs28 := blk_frozen BK144.out 2
                    have hns28_0 := NB143_144.out
                    have hns28_2 := NB155_144.out
                    have hms28_0 := NB144_143.out
                    have hms28_2 := NB144_155.out
                    have hs29 : w25.cell? ⟨gb144, 3, none⟩ = some (.int .u64 0) := (blk_cell BK144.out 3).trans rfl
                    have hfs29 := blk_frozen BK144.out 3
                    have hns29_0 := NB143_144.out
                    have hns29_2 := NB155_144.out
                    have hms29_0 := NB144_143.out
                    have hms29_2 := NB144_155.out
                    have hs30 : w25.cell? ⟨gb144, 4, none⟩ = some (.int .u64 0) := (blk_cell BK144.out 4).trans rfl
                    have hfs30 := blk_frozen BK144.out 4
                    have hns30_0 := NB143_144.out
                    have hns30_2 := NB155_144.out
                    have hms30_0 := NB144_143.out
                    have hms30_2 := NB144_155.out
                    have hs31 : w25.cell? ⟨gb144, 5, none⟩ = some (.bool false) := (blk_cell BK144.out 5).trans rfl
                    have hfs31 := blk_frozen BK144.out 5
                    have hns31_0 := NB143_144.out
                    have hns31_2 := NB155_144.out
                    have hms31_0 := NB144_143.out
                    have hms31_2 := NB144_155.out
                    have hs32 : w25.cell? ⟨gb144, 6, none⟩ = some (.int .u64 0) := (blk_cell BK144.out 6).trans rfl
                    have hfs32 := blk_frozen BK144.out 6
                    have hns32_0 := NB143_144.out
                    have hns32_2 := NB155_144.out
                    have hms32_0 := NB144_143.out
                    have hms32_2 := NB144_155.out
                    refine skip_ (w1 := ?_) (by rfl) rfl ?_ ?_
                    rotate_left
                    · go_simp
                      rfl
                    refine hK.out _ _ ⟨((cell_far (p := ⟨gb144, _, none⟩) NB143_144.out _).trans (((cell_far (p := ⟨gb144, _, none⟩) NB143_144.out _).trans (((cell_far (p := ⟨gb144, _, none⟩) NB143_144.out _).trans (((cell_far (p := ⟨gb144, _, none⟩) NB143_144.out _).trans (((cell_far (p := ⟨gb144, _, none⟩) NB143_144.out _).trans (((cell_far (p := ⟨gb144, _, none⟩) NB143_144.out _).trans (((cell_far (p := ⟨gb144, _, none⟩) NB143_144.out _).trans (hHeld.1)))))))))))))), ((cell_far (p := ⟨gb144, _, none⟩) NB143_144.out _).trans (((cell_far (p := ⟨gb144, _, none⟩) NB143_144.out _).trans (((cell_far (p := ⟨gb144, _, none⟩) NB143_144.out _).trans (((cell_far (p := ⟨gb144, _, none⟩) NB143_144.out _).trans (((cell_far (p := ⟨gb144, _, none⟩) NB143_144.out _).trans (((cell_far (p := ⟨gb144, _, none⟩) NB143_144.out _).trans (((cell_far (p := ⟨gb144, _, none⟩) NB143_144.out _).trans (hHeld.2.1)))))))))))))), ((cell_far (p := ⟨gb144, _, none⟩) NB143_144.out _).trans (((cell_far (p := ⟨gb144, _, none⟩) NB143_144.out _).trans (((cell_far (p := ⟨gb144, _, none⟩) NB143_144.out _).trans (((cell_far (p := ⟨gb144, _, none⟩) NB143_144.out _).trans (((cell_far (p := ⟨gb144, _, none⟩) NB143_144.out _).trans (((cell_far (p := ⟨gb144, _, none⟩) NB143_144.out _).trans (((cell_far (p := ⟨gb144, _, none⟩) NB143_144.out _).trans (hHeld.2.2.1)))))))))))))), ((cell_far (p := ⟨gb144, _, none⟩) NB143_144.out _).trans (((cell_far (p := ⟨gb144, _, none⟩) NB143_144.out _).trans (((cell_far (p := ⟨gb144, _, none⟩) NB143_144.out _).trans (((cell_far (p := ⟨gb144, _, none⟩) NB143_144.out _).trans (((cell_far (p := ⟨gb144, _, none⟩) NB143_144.out _).trans (((cell_far (p := ⟨gb144, _, none⟩) NB143_144.out _).trans (((cell_far (p := ⟨gb144, _, none⟩) NB143_144.out _).trans (hHeld.2.2.2.1)))))))))))))), ((cell_far (p := ⟨gb144, _, none⟩) NB143_144.out _).trans (((cell_far (p := ⟨gb144, _, none⟩) NB143_144.out _).trans (((cell_far (p := ⟨gb144, _, none⟩) NB143_144.out _).trans (((cell_far (p := ⟨gb144, _, none⟩) NB143_144.out _).trans (((cell_far (p := ⟨gb144, _, none⟩) NB143_144.out _).trans (((cell_far (p := ⟨gb144, _, none⟩) NB143_144.out _).trans (((cell_far (p := ⟨gb144, _, none⟩) NB143_144.out _).trans (hHeld.2.2.2.2.1)))))))))))))), ((cell_far (p := ⟨gb144, _, none⟩) NB143_144.out _).trans (((cell_far (p := ⟨gb144, _, none⟩) NB143_144.out _).trans (((cell_far (p := ⟨gb144, _, none⟩) NB143_144.out _).trans (((cell_far (p := ⟨gb144, _, none⟩) NB143_144.out _).trans (((cell_far (p := ⟨gb144, _, none⟩) NB143_144.out _).trans (((cell_far (p := ⟨gb144, _, none⟩) NB143_144.out _).trans (((cell_far (p := ⟨gb144, _, none⟩) NB143_144.out _).trans (hHeld.2.2.2.2.2.1)))))))))))))), ((cell_far (p := ⟨gb144, _, none⟩) NB143_144.out _).trans (((cell_far (p := ⟨gb144, _, none⟩) NB143_144.out _).trans (((cell_far (p := ⟨gb144, _, none⟩) NB143_144.out _).trans (((cell_far (p := ⟨gb144, _, none⟩) NB143_144.out _).trans (((cell_far (p := ⟨gb144, _, none⟩) NB143_144.out _).trans (((cell_far (p := ⟨gb144, _, none⟩) NB143_144.out _).trans (((cell_far (p := ⟨gb144, _, none⟩) NB143_144.out _).trans (hHeld.2.2.2.2.2.2))))))))))))))⟩ (fun hHeld => ?_)
                    clear hK K
                    refine done_ (by kernel_rfl) ?_
                    try go_wp2
                    refine bodyPost_ret (results_list (rs := [.tmp 6, .tmp 7, .cell 8 28]) rfl (by simp) (.tmp (.tmp (.cell gb144 28 #[.bool x144000_1, .int .i64 x144001_1, .int .i64 x144002_1, .int .u64 x144003_1, .int .u64 x144004_1, .bool x144005_1, .int .u64 x144006_1] (0, 0) _ rfl (by (with_reducible repeat (first | refine blk_drewN ?_ _ | refine blk_drew ?_ | refine blk_alloc ?_ _)); refine blk_put (cs := #[.bool x144000_1, .int .i64 x144001_1, .int .i64 x144002_1, .int .u64 x144003_1, .int .u64 x144004_1, .bool x144005_1, .int .u64 0]) ?_ 6 _ rfl; (with_reducible repeat (first | refine blk_drewN ?_ _ | refine blk_drew ?_ | refine blk_alloc ?_ _)); refine blk_put (cs := #[.bool x144000_1, .int .i64 x144001_1, .int .i64 x144002_1, .int .u64 x144003_1, .int .u64 x144004_1, .bool false, .int .u64 0]) ?_ 5 _ rfl; (with_reducible repeat (first | refine blk_drewN ?_ _ | refine blk_drew ?_ | refine blk_alloc ?_ _)); refine blk_put (cs := #[.bool x144000_1, .int .i64 x144001_1, .int .i64 x144002_1, .int .u64 x144003_1, .int .u64 0, .bool false, .int .u64 0]) ?_ 4 _ rfl; (with_reducible repeat (first | refine blk_drewN ?_ _ | refine blk_drew ?_ | refine blk_alloc ?_ _)); refine blk_put (cs := #[.bool x144000_1, .int .i64 x144001_1, .int .i64 x144002_1, .int .u64 0, .int .u64 0, .bool false, .int .u64 0]) ?_ 3 _ rfl; (with_reducible repeat (first | refine blk_drewN ?_ _ | refine blk_drew ?_ | refine blk_alloc ?_ _)); refine blk_put (cs := #[.bool x144000_1, .int .i64 x144001_1, .int .i64 0, .int .u64 0, .int .u64 0, .bool false, .int .u64 0]) ?_ 2 _ rfl; (with_reducible repeat (first | refine blk_drewN ?_ _ | refine blk_drew ?_ | refine blk_alloc ?_ _)); refine blk_put (cs := #[.bool x144000_1, .int .i64 0, .int .i64 0, .int .u64 0, .int .u64 0, .bool false, .int .u64 0]) ?_ 1 _ rfl; (with_reducible repeat (first | refine blk_drewN ?_ _ | refine blk_drew ?_ | refine blk_alloc ?_ _)); refine blk_put (cs := #[.bool false, .int .i64 0, .int .i64 0, .int .u64 0, .int .u64 0, .bool false, .int .u64 0]) ?_ 0 _ rfl; (with_reducible repeat (first | refine blk_drewN ?_ _ | refine blk_drew ?_ | refine blk_alloc ?_ _)); exact BK144.out) Try.underlying28 rfl (by kernel_rfl) .nil)))) rfl ?_
                    exact ⟨by first | rfl | (simp [errW_none, errW_some] <;> rfl) | (simp [*, errW_none, errW_some] <;> rfl), by repeat (first | (with_reducible first | exact HB.out | apply below_alloc | apply pw_below_drewN | apply below_drew1 | refine below_set ?_ GE143.out | refine below_set ?_ GE144.out | refine below_set ?_ GE155.out) | exact HB.out)⟩
                  · replace c24 := Bool.eq_false_iff.mpr c24
                    subst c24
                    have H1 : ((slice_Tick.f t147 t148 t149 t150 t151 t152 t153).bind fun bt156 => (if bt156.2.2.2.2.2.2.2.1 = true then (slice_Run.l0 kj12 l1 (IntKind.u64.wrap (x2_1 - 1)) (wrap64 (x9_1 + 1)) (IntKind.u64.wrap (x10_1 + 1)) bt156.1 bt156.2.1 bt156.2.2.1 bt156.2.2.2.1 bt156.2.2.2.2.1 bt156.2.2.2.2.2.1 bt156.2.2.2.2.2.2.1) else (slice_Run.l0 kj12 l1 (IntKind.u64.wrap (x2_1 - 1)) x9_1 (IntKind.u64.wrap (x10_1 + 1)) bt156.1 bt156.2.1 bt156.2.2.1 bt156.2.2.2.1 bt156.2.2.2.2.1 bt156.2.2.2.2.2.1 bt156.2.2.2.2.2.2.1))) = some (r1, r2, r3, r4, r5, r6, r7, r8, r9) := by rw [if_neg (show ¬ (false = true) by decide)] at H; exact H
                    clear H
                    have H := H1
                    clear H1
                    replace H := Option.bind_eq_some_iff.mp H
                    obtain ⟨⟨t156, t157, t158, t159, t160, t161, t162, t163, t164⟩, A330, H⟩ := H
                    replace H : (if t163 = true then (slice_Run.l0 kj12 l1 (IntKind.u64.wrap (x2_1 - 1)) (wrap64 (x9_1 + 1)) (IntKind.u64.wrap (x10_1 + 1)) t156 t157 t158 t159 t160 t161 t162) else (slice_Run.l0 kj12 l1 (IntKind.u64.wrap (x2_1 - 1)) x9_1 (IntKind.u64.wrap (x10_1 + 1)) t156 t157 t158 t159 t160 t161 t162)) = some (r1, r2, r3, r4, r5, r6, r7, r8, r9) := H
                    have A33 := Aside0.mk A330
                    clear A330
                    by_cases c34 : t163 = true
                    · subst c34
                      have H1 : (slice_Run.l0 kj12 l1 (IntKind.u64.wrap (x2_1 - 1)) (wrap64 (x9_1 + 1)) (IntKind.u64.wrap (x10_1 + 1)) t156 t157 t158 t159 t160 t161 t162) = some (r1, r2, r3, r4, r5, r6, r7, r8, r9) := by rw [if_pos rfl] at H; exact H
                      clear H
                      have H := H1
                      clear H1
                      have H' := Aside0.mk H
                      clear H
                      have hnb35 := NB155_143.out
                      have hnc35 := NB143_155.out
                      have hnb36 := NB155_144.out
                      have hnc36 := NB144_155.out
                      have hcz37_0 : wc.cell? ⟨gb155, 0, none⟩ = some (.bool t147) := (blk_cell BK155.out 0).trans rfl
                      have hcz37_1 : wc.cell? ⟨gb155, 1, none⟩ = some (.int .i64 t148) := (blk_cell BK155.out 1).trans rfl
                      have hcz37_2 : wc.cell? ⟨gb155, 2, none⟩ = some (.int .i64 t149) := (blk_cell BK155.out 2).trans rfl
                      have hcz37_3 : wc.cell? ⟨gb155, 3, none⟩ = some (.int .u64 t150) := (blk_cell BK155.out 3).trans rfl
                      have hcz37_4 : wc.cell? ⟨gb155, 4, none⟩ = some (.int .u64 t151) := (blk_cell BK155.out 4).trans rfl
                      have hcz37_5 : wc.cell? ⟨gb155, 5, none⟩ = some (.bool t152) := (blk_cell BK155.out 5).trans rfl
                      have hcz37_6 : wc.cell? ⟨gb155, 6, none⟩ = some (.int .u64 t153) := (blk_cell BK155.out 6).trans rfl
                      have hfz37_0 := blk_frozen BK155.out 0
                      have hfz37_1 := blk_frozen BK155.out 1
                      have hfz37_2 := blk_frozen BK155.out 2
                      have hfz37_3 := blk_frozen BK155.out 3
                      have hfz37_4 := blk_frozen BK155.out 4
                      have hfz37_5 := blk_frozen BK155.out 5
                      have hfz37_6 := blk_frozen BK155.out 6
                      have hnb38 := NB143_144.out
                      have hnc38 := NB144_143.out
                      have hcz39_0 : wc.cell? ⟨gb143, 0, none⟩ = some (.bool x144000_1) := (blk_cell BK143.out 0).trans rfl
                      have hcz39_1 : wc.cell? ⟨gb143, 1, none⟩ = some (.int .i64 x144001_1) := (blk_cell BK143.out 1).trans rfl
                      have hcz39_2 : wc.cell? ⟨gb143, 2, none⟩ = some (.int .i64 x144002_1) := (blk_cell BK143.out 2).trans rfl
                      have hcz39_3 : wc.cell? ⟨gb143, 3, none⟩ = some (.int .u64 x144003_1) := (blk_cell BK143.out 3).trans rfl
                      have hcz39_4 : wc.cell? ⟨gb143, 4, none⟩ = some (.int .u64 x144004_1) := (blk_cell BK143.out 4).trans rfl
                      have hcz39_5 : wc.cell? ⟨gb143, 5, none⟩ = some (.bool x144005_1) := (blk_cell BK143.out 5).trans rfl
                      have hcz39_6 : wc.cell? ⟨gb143, 6, none⟩ = some (.int .u64 x144006_1) := (blk_cell BK143.out 6).trans rfl
                      have hfz39_0 := blk_frozen BK143.out 0
                      have hfz39_1 := blk_frozen BK143.out 1
                      have hfz39_2 := blk_frozen BK143.out 2
                      have hfz39_3 := blk_frozen BK143.out 3
                      have hfz39_4 := blk_frozen BK143.out 4
                      have hfz39_5 := blk_frozen BK143.out 5
                      have hfz39_6 := blk_frozen BK143.out 6
                      go_wp2_with (first | ((with_reducible refine gate_callee (f := 18) rfl ?_); refine goesL_ (some 51) rfl rfl Try.func18 (by kernel_rfl) rfl #[.agg #[.bool t147, .int .i64 t148, .int .i64 t149, .int .u64 t150, .int .u64 t151, .bool t152, .int .u64 t153]] rfl (by (try simp only [List.map_toArray, List.map_cons, List.map_nil]); first | done | rfl | (simp only [List.length_drop, List.length_take]; rfl)) ?_; (with_reducible refine (slice_Tick.calls t147 t148 t149 t150 t151 t152 t153 t156 t157 t158 t159 t160 t161 t162 true t164 _ A33.out).mono ?_); rintro e w40 ⟨rfl, hb⟩; refine ⟨_, rfl, ?_⟩; have n0_ := Aside0.mk (blk_below (g := gb143) (o := .cells #[.bool t147, .int .i64 t148, .int .i64 t149, .int .u64 t150, .int .u64 t151, .bool t152, .int .u64 t153] 28 (0, 0)) (by (with_reducible repeat (first | refine blk_drewN ?_ _ | refine blk_drew ?_ | refine blk_alloc ?_ _)); refine blk_put (cs := #[.bool t147, .int .i64 t148, .int .i64 t149, .int .u64 t150, .int .u64 t151, .bool t152, .int .u64 x144006_1]) ?_ 6 _ rfl; (with_reducible repeat (first | refine blk_drewN ?_ _ | refine blk_drew ?_ | refine blk_alloc ?_ _)); refine blk_put (cs := #[.bool t147, .int .i64 t148, .int .i64 t149, .int .u64 t150, .int .u64 t151, .bool x144005_1, .int .u64 x144006_1]) ?_ 5 _ rfl; (with_reducible repeat (first | refine blk_drewN ?_ _ | refine blk_drew ?_ | refine blk_alloc ?_ _)); refine blk_put (cs := #[.bool t147, .int .i64 t148, .int .i64 t149, .int .u64 t150, .int .u64 x144004_1, .bool x144005_1, .int .u64 x144006_1]) ?_ 4 _ rfl; (with_reducible repeat (first | refine blk_drewN ?_ _ | refine blk_drew ?_ | refine blk_alloc ?_ _)); refine blk_put (cs := #[.bool t147, .int .i64 t148, .int .i64 t149, .int .u64 x144003_1, .int .u64 x144004_1, .bool x144005_1, .int .u64 x144006_1]) ?_ 3 _ rfl; (with_reducible repeat (first | refine blk_drewN ?_ _ | refine blk_drew ?_ | refine blk_alloc ?_ _)); refine blk_put (cs := #[.bool t147, .int .i64 t148, .int .i64 x144002_1, .int .u64 x144003_1, .int .u64 x144004_1, .bool x144005_1, .int .u64 x144006_1]) ?_ 2 _ rfl; (with_reducible repeat (first | refine blk_drewN ?_ _ | refine blk_drew ?_ | refine blk_alloc ?_ _)); refine blk_put (cs := #[.bool t147, .int .i64 x144001_1, .int .i64 x144002_1, .int .u64 x144003_1, .int .u64 x144004_1, .bool x144005_1, .int .u64 x144006_1]) ?_ 1 _ rfl; (with_reducible repeat (first | refine blk_drewN ?_ _ | refine blk_drew ?_ | refine blk_alloc ?_ _)); refine blk_put (cs := #[.bool x144000_1, .int .i64 x144001_1, .int .i64 x144002_1, .int .u64 x144003_1, .int .u64 x144004_1, .bool x144005_1, .int .u64 x144006_1]) ?_ 0 _ rfl; (with_reducible repeat (first | refine blk_drewN ?_ _ | refine blk_drew ?_ | refine blk_alloc ?_ _)); exact BK143.out) hb); have n1_ := Aside0.mk (blk_below (g := gb144) (o := .cells #[.bool false, .int .i64 0, .int .i64 0, .int .u64 0, .int .u64 0, .bool false, .int .u64 0] 28 (0, 0)) (by (with_reducible repeat (first | refine blk_drewN ?_ _ | refine blk_drew ?_ | refine blk_alloc ?_ _)); refine blk_far ?_ NB144_143.out _; (with_reducible repeat (first | refine blk_drewN ?_ _ | refine blk_drew ?_ | refine blk_alloc ?_ _)); refine blk_far ?_ NB144_143.out _; (with_reducible repeat (first | refine blk_drewN ?_ _ | refine blk_drew ?_ | refine blk_alloc ?_ _)); refine blk_far ?_ NB144_143.out _; (with_reducible repeat (first | refine blk_drewN ?_ _ | refine blk_drew ?_ | refine blk_alloc ?_ _)); refine blk_far ?_ NB144_143.out _; (with_reducible repeat (first | refine blk_drewN ?_ _ | refine blk_drew ?_ | refine blk_alloc ?_ _)); refine blk_far ?_ NB144_143.out _; (with_reducible repeat (first | refine blk_drewN ?_ _ | refine blk_drew ?_ | refine blk_alloc ?_ _)); refine blk_far ?_ NB144_143.out _; (with_reducible repeat (first | refine blk_drewN ?_ _ | refine blk_drew ?_ | refine blk_alloc ?_ _)); refine blk_far ?_ NB144_143.out _; (with_reducible repeat (first | refine blk_drewN ?_ _ | refine blk_drew ?_ | refine blk_alloc ?_ _)); exact BK144.out) hb); have n2_ := Aside0.mk (blk_below (g := gb155) (o := .cells #[.bool t147, .int .i64 t148, .int .i64 t149, .int .u64 t150, .int .u64 t151, .bool t152, .int .u64 t153] 28 (0, 0)) (by (with_reducible repeat (first | refine blk_drewN ?_ _ | refine blk_drew ?_ | refine blk_alloc ?_ _)); refine blk_far ?_ NB155_143.out _; (with_reducible repeat (first | refine blk_drewN ?_ _ | refine blk_drew ?_ | refine blk_alloc ?_ _)); refine blk_far ?_ NB155_143.out _; (with_reducible repeat (first | refine blk_drewN ?_ _ | refine blk_drew ?_ | refine blk_alloc ?_ _)); refine blk_far ?_ NB155_143.out _; (with_reducible repeat (first | refine blk_drewN ?_ _ | refine blk_drew ?_ | refine blk_alloc ?_ _)); refine blk_far ?_ NB155_143.out _; (with_reducible repeat (first | refine blk_drewN ?_ _ | refine blk_drew ?_ | refine blk_alloc ?_ _)); refine blk_far ?_ NB155_143.out _; (with_reducible repeat (first | refine blk_drewN ?_ _ | refine blk_drew ?_ | refine blk_alloc ?_ _)); refine blk_far ?_ NB155_143.out _; (with_reducible repeat (first | refine blk_drewN ?_ _ | refine blk_drew ?_ | refine blk_alloc ?_ _)); refine blk_far ?_ NB155_143.out _; (with_reducible repeat (first | refine blk_drewN ?_ _ | refine blk_drew ?_ | refine blk_alloc ?_ _)); exact BK155.out) hb); have n3_ := Aside0.mk (below_step (by repeat (first | (with_reducible first | exact HB.out | apply below_alloc | apply pw_below_drewN | apply below_drew1 | refine below_set ?_ GE143.out | refine below_set ?_ GE144.out | refine below_set ?_ GE155.out) | exact HB.out)) hb); clear BK143; clear BK144; clear BK155; clear HB; have BK143 := n0_; have BK144 := n1_; have BK155 := n2_; have HB := n3_; clear n0_ n1_ n2_ n3_; (try clear hb); (try clear hb2); (try clear hk); (try clear hi); have hcz41_0 : w40.cell? ⟨gb143, 0, none⟩ = some (.bool t147) := (blk_cell BK143.out 0).trans rfl; have hcz41_1 : w40.cell? ⟨gb143, 1, none⟩ = some (.int .i64 t148) := (blk_cell BK143.out 1).trans rfl; have hcz41_2 : w40.cell? ⟨gb143, 2, none⟩ = some (.int .i64 t149) := (blk_cell BK143.out 2).trans rfl; have hcz41_3 : w40.cell? ⟨gb143, 3, none⟩ = some (.int .u64 t150) := (blk_cell BK143.out 3).trans rfl; have hcz41_4 : w40.cell? ⟨gb143, 4, none⟩ = some (.int .u64 t151) := (blk_cell BK143.out 4).trans rfl; have hcz41_5 : w40.cell? ⟨gb143, 5, none⟩ = some (.bool t152) := (blk_cell BK143.out 5).trans rfl; have hcz41_6 : w40.cell? ⟨gb143, 6, none⟩ = some (.int .u64 t153) := (blk_cell BK143.out 6).trans rfl; have hfz41_0 := blk_frozen BK143.out 0; have hfz41_1 := blk_frozen BK143.out 1; have hfz41_2 := blk_frozen BK143.out 2; have hfz41_3 := blk_frozen BK143.out 3; have hfz41_4 := blk_frozen BK143.out 4; have hfz41_5 := blk_frozen BK143.out 5; have hfz41_6 := blk_frozen BK143.out 6))
                      go_roundg kj12
                      case measure => have := HK1.out; have := HJ6.out; have := HJ12.out; omega
                      case rel => exact ⟨(IntKind.u64.wrap (x2_1 - 1)), (wrap64 (x9_1 + 1)), (IntKind.u64.wrap (x10_1 + 1)), (t156), (t157), (t158), (t159), (t160), (t161), (t162), (by first | rfl | (simp; done) | (simp [*]; done)), (by first | rfl | (simp; done) | (simp [*]; done)), (by first | rfl | (simp; done) | (simp [*]; done)), H', ⟨by have := HK1.out; have := HJ6.out; have := HJ12.out; omega⟩, ⟨by (with_reducible repeat (first | refine blk_drewN ?_ _ | refine blk_drew ?_ | refine blk_alloc ?_ _)); refine blk_put (cs := #[.bool t156, .int .i64 t157, .int .i64 t158, .int .u64 t159, .int .u64 t160, .bool t161, .int .u64 t153]) ?_ 6 _ rfl; (with_reducible repeat (first | refine blk_drewN ?_ _ | refine blk_drew ?_ | refine blk_alloc ?_ _)); refine blk_put (cs := #[.bool t156, .int .i64 t157, .int .i64 t158, .int .u64 t159, .int .u64 t160, .bool t152, .int .u64 t153]) ?_ 5 _ rfl; (with_reducible repeat (first | refine blk_drewN ?_ _ | refine blk_drew ?_ | refine blk_alloc ?_ _)); refine blk_put (cs := #[.bool t156, .int .i64 t157, .int .i64 t158, .int .u64 t159, .int .u64 t151, .bool t152, .int .u64 t153]) ?_ 4 _ rfl; (with_reducible repeat (first | refine blk_drewN ?_ _ | refine blk_drew ?_ | refine blk_alloc ?_ _)); refine blk_put (cs := #[.bool t156, .int .i64 t157, .int .i64 t158, .int .u64 t150, .int .u64 t151, .bool t152, .int .u64 t153]) ?_ 3 _ rfl; (with_reducible repeat (first | refine blk_drewN ?_ _ | refine blk_drew ?_ | refine blk_alloc ?_ _)); refine blk_put (cs := #[.bool t156, .int .i64 t157, .int .i64 t149, .int .u64 t150, .int .u64 t151, .bool t152, .int .u64 t153]) ?_ 2 _ rfl; (with_reducible repeat (first | refine blk_drewN ?_ _ | refine blk_drew ?_ | refine blk_alloc ?_ _)); refine blk_put (cs := #[.bool t156, .int .i64 t148, .int .i64 t149, .int .u64 t150, .int .u64 t151, .bool t152, .int .u64 t153]) ?_ 1 _ rfl; (with_reducible repeat (first | refine blk_drewN ?_ _ | refine blk_drew ?_ | refine blk_alloc ?_ _)); refine blk_put (cs := #[.bool t147, .int .i64 t148, .int .i64 t149, .int .u64 t150, .int .u64 t151, .bool t152, .int .u64 t153]) ?_ 0 _ rfl; (with_reducible repeat (first | refine blk_drewN ?_ _ | refine blk_drew ?_ | refine blk_alloc ?_ _)); exact BK143.out⟩, ⟨by (with_reducible repeat (first | refine blk_drewN ?_ _ | refine blk_drew ?_ | refine blk_alloc ?_ _)); refine blk_far ?_ NB144_143.out _; (with_reducible repeat (first | refine blk_drewN ?_ _ | refine blk_drew ?_ | refine blk_alloc ?_ _)); refine blk_far ?_ NB144_143.out _; (with_reducible repeat (first | refine blk_drewN ?_ _ | refine blk_drew ?_ | refine blk_alloc ?_ _)); refine blk_far ?_ NB144_143.out _; (with_reducible repeat (first | refine blk_drewN ?_ _ | refine blk_drew ?_ | refine blk_alloc ?_ _)); refine blk_far ?_ NB144_143.out _; (with_reducible repeat (first | refine blk_drewN ?_ _ | refine blk_drew ?_ | refine blk_alloc ?_ _)); refine blk_far ?_ NB144_143.out _; (with_reducible repeat (first | refine blk_drewN ?_ _ | refine blk_drew ?_ | refine blk_alloc ?_ _)); refine blk_far ?_ NB144_143.out _; (with_reducible repeat (first | refine blk_drewN ?_ _ | refine blk_drew ?_ | refine blk_alloc ?_ _)); refine blk_far ?_ NB144_143.out _; (with_reducible repeat (first | refine blk_drewN ?_ _ | refine blk_drew ?_ | refine blk_alloc ?_ _)); exact BK144.out⟩, ⟨by repeat (first | (with_reducible first | exact HB.out | apply below_alloc | apply pw_below_drewN | apply below_drew1 | refine below_set ?_ GE143.out | refine below_set ?_ GE144.out | refine below_set ?_ GE155.out) | exact HB.out)⟩⟩
                    · replace c34 := Bool.eq_false_iff.mpr c34
                      subst c34
                      have H1 : (slice_Run.l0 kj12 l1 (IntKind.u64.wrap (x2_1 - 1)) x9_1 (IntKind.u64.wrap (x10_1 + 1)) t156 t157 t158 t159 t160 t161 t162) = some (r1, r2, r3, r4, r5, r6, r7, r8, r9) := by rw [if_neg (show ¬ (false = true) by decide)] at H; exact H
                      clear H
                      have H := H1
                      clear H1
                      have H' := Aside0.mk H
                      clear H
                      have hnb42 := NB155_143.out
                      have hnc42 := NB143_155.out
                      have hnb43 := NB155_144.out
                      have hnc43 := NB144_155.out
                      have hcz44_0 : wc.cell? ⟨gb155, 0, none⟩ = some (.bool t147) := (blk_cell BK155.out 0).trans rfl
                      have hcz44_1 : wc.cell? ⟨gb155, 1, none⟩ = some (.int .i64 t148) := (blk_cell BK155.out 1).trans rfl
                      have hcz44_2 : wc.cell? ⟨gb155, 2, none⟩ = some (.int .i64 t149) := (blk_cell BK155.out 2).trans rfl
                      have hcz44_3 : wc.cell? ⟨gb155, 3, none⟩ = some (.int .u64 t150) := (blk_cell BK155.out 3).trans rfl
                      have hcz44_4 : wc.cell? ⟨gb155, 4, none⟩ = some (.int .u64 t151) := (blk_cell BK155.out 4).trans rfl
                      have hcz44_5 : wc.cell? ⟨gb155, 5, none⟩ = some (.bool t152) := (blk_cell BK155.out 5).trans rfl
                      have hcz44_6 : wc.cell? ⟨gb155, 6, none⟩ = some (.int .u64 t153) := (blk_cell BK155.out 6).trans rfl
                      have hfz44_0 := blk_frozen BK155.out 0
                      have hfz44_1 := blk_frozen BK155.out 1
                      have hfz44_2 := blk_frozen BK155.out 2
                      have hfz44_3 := blk_frozen BK155.out 3
                      have hfz44_4 := blk_frozen BK155.out 4
                      have hfz44_5 := blk_frozen BK155.out 5
                      have hfz44_6 := blk_frozen BK155.out 6
                      have hnb45 := NB143_144.out
                      have hnc45 := NB144_143.out
                      have hcz46_0 : wc.cell? ⟨gb143, 0, none⟩ = some (.bool x144000_1) := (blk_cell BK143.out 0).trans rfl
                      have hcz46_1 : wc.cell? ⟨gb143, 1, none⟩ = some (.int .i64 x144001_1) := (blk_cell BK143.out 1).trans rfl
                      have hcz46_2 : wc.cell? ⟨gb143, 2, none⟩ = some (.int .i64 x144002_1) := (blk_cell BK143.out 2).trans rfl
                      have hcz46_3 : wc.cell? ⟨gb143, 3, none⟩ = some (.int .u64 x144003_1) := (blk_cell BK143.out 3).trans rfl
                      have hcz46_4 : wc.cell? ⟨gb143, 4, none⟩ = some (.int .u64 x144004_1) := (blk_cell BK143.out 4).trans rfl
                      have hcz46_5 : wc.cell? ⟨gb143, 5, none⟩ = some (.bool x144005_1) := (blk_cell BK143.out 5).trans rfl
                      have hcz46_6 : wc.cell? ⟨gb143, 6, none⟩ = some (.int .u64 x144006_1) := (blk_cell BK143.out 6).trans rfl
                      have hfz46_0 := blk_frozen BK143.out 0
                      have hfz46_1 := blk_frozen BK143.out 1
                      have hfz46_2 := blk_frozen BK143.out 2
                      have hfz46_3 := blk_frozen BK143.out 3
                      have hfz46_4 := blk_frozen BK143.out 4
                      have hfz46_5 := blk_frozen BK143.out 5
                      have hfz46_6 := blk_frozen BK143.out 6
                      go_wp2_with (first | ((with_reducible refine gate_callee (f := 18) rfl ?_); refine goesL_ (some 51) rfl rfl Try.func18 (by kernel_rfl) rfl #[.agg #[.bool t147, .int .i64 t148, .int .i64 t149, .int .u64 t150, .int .u64 t151, .bool t152, .int .u64 t153]] rfl (by (try simp only [List.map_toArray, List.map_cons, List.map_nil]); first | done | rfl | (simp only [List.length_drop, List.length_take]; rfl)) ?_; (with_reducible refine (slice_Tick.calls t147 t148 t149 t150 t151 t152 t153 t156 t157 t158 t159 t160 t161 t162 false t164 _ A33.out).mono ?_); rintro e w47 ⟨rfl, hb⟩; refine ⟨_, rfl, ?_⟩; have n0_ := Aside0.mk (blk_below (g := gb143) (o := .cells #[.bool t147, .int .i64 t148, .int .i64 t149, .int .u64 t150, .int .u64 t151, .bool t152, .int .u64 t153] 28 (0, 0)) (by (with_reducible repeat (first | refine blk_drewN ?_ _ | refine blk_drew ?_ | refine blk_alloc ?_ _)); refine blk_put (cs := #[.bool t147, .int .i64 t148, .int .i64 t149, .int .u64 t150, .int .u64 t151, .bool t152, .int .u64 x144006_1]) ?_ 6 _ rfl; (with_reducible repeat (first | refine blk_drewN ?_ _ | refine blk_drew ?_ | refine blk_alloc ?_ _)); refine blk_put (cs := #[.bool t147, .int .i64 t148, .int .i64 t149, .int .u64 t150, .int .u64 t151, .bool x144005_1, .int .u64 x144006_1]) ?_ 5 _ rfl; (with_reducible repeat (first | refine blk_drewN ?_ _ | refine blk_drew ?_ | refine blk_alloc ?_ _)); refine blk_put (cs := #[.bool t147, .int .i64 t148, .int .i64 t149, .int .u64 t150, .int .u64 x144004_1, .bool x144005_1, .int .u64 x144006_1]) ?_ 4 _ rfl; (with_reducible repeat (first | refine blk_drewN ?_ _ | refine blk_drew ?_ | refine blk_alloc ?_ _)); refine blk_put (cs := #[.bool t147, .int .i64 t148, .int .i64 t149, .int .u64 x144003_1, .int .u64 x144004_1, .bool x144005_1, .int .u64 x144006_1]) ?_ 3 _ rfl; (with_reducible repeat (first | refine blk_drewN ?_ _ | refine blk_drew ?_ | refine blk_alloc ?_ _)); refine blk_put (cs := #[.bool t147, .int .i64 t148, .int .i64 x144002_1, .int .u64 x144003_1, .int .u64 x144004_1, .bool x144005_1, .int .u64 x144006_1]) ?_ 2 _ rfl; (with_reducible repeat (first | refine blk_drewN ?_ _ | refine blk_drew ?_ | refine blk_alloc ?_ _)); refine blk_put (cs := #[.bool t147, .int .i64 x144001_1, .int .i64 x144002_1, .int .u64 x144003_1, .int .u64 x144004_1, .bool x144005_1, .int .u64 x144006_1]) ?_ 1 _ rfl; (with_reducible repeat (first | refine blk_drewN ?_ _ | refine blk_drew ?_ | refine blk_alloc ?_ _)); refine blk_put (cs := #[.bool x144000_1, .int .i64 x144001_1, .int .i64 x144002_1, .int .u64 x144003_1, .int .u64 x144004_1, .bool x144005_1, .int .u64 x144006_1]) ?_ 0 _ rfl; (with_reducible repeat (first | refine blk_drewN ?_ _ | refine blk_drew ?_ | refine blk_alloc ?_ _)); exact BK143.out) hb); have n1_ := Aside0.mk (blk_below (g := gb144) (o := .cells #[.bool false, .int .i64 0, .int .i64 0, .int .u64 0, .int .u64 0, .bool false, .int .u64 0] 28 (0, 0)) (by (with_reducible repeat (first | refine blk_drewN ?_ _ | refine blk_drew ?_ | refine blk_alloc ?_ _)); refine blk_far ?_ NB144_143.out _; (with_reducible repeat (first | refine blk_drewN ?_ _ | refine blk_drew ?_ | refine blk_alloc ?_ _)); refine blk_far ?_ NB144_143.out _; (with_reducible repeat (first | refine blk_drewN ?_ _ | refine blk_drew ?_ | refine blk_alloc ?_ _)); refine blk_far ?_ NB144_143.out _; (with_reducible repeat (first | refine blk_drewN ?_ _ | refine blk_drew ?_ | refine blk_alloc ?_ _)); refine blk_far ?_ NB144_143.out _; (with_reducible repeat (first | refine blk_drewN ?_ _ | refine blk_drew ?_ | refine blk_alloc ?_ _)); refine blk_far ?_ NB144_143.out _; (with_reducible repeat (first | refine blk_drewN ?_ _ | refine blk_drew ?_ | refine blk_alloc ?_ _)); refine blk_far ?_ NB144_143.out _; (with_reducible repeat (first | refine blk_drewN ?_ _ | refine blk_drew ?_ | refine blk_alloc ?_ _)); refine blk_far ?_ NB144_143.out _; (with_reducible repeat (first | refine blk_drewN ?_ _ | refine blk_drew ?_ | refine blk_alloc ?_ _)); exact BK144.out) hb); have n2_ := Aside0.mk (blk_below (g := gb155) (o := .cells #[.bool t147, .int .i64 t148, .int .i64 t149, .int .u64 t150, .int .u64 t151, .bool t152, .int .u64 t153] 28 (0, 0)) (by (with_reducible repeat (first | refine blk_drewN ?_ _ | refine blk_drew ?_ | refine blk_alloc ?_ _)); refine blk_far ?_ NB155_143.out _; (with_reducible repeat (first | refine blk_drewN ?_ _ | refine blk_drew ?_ | refine blk_alloc ?_ _)); refine blk_far ?_ NB155_143.out _; (with_reducible repeat (first | refine blk_drewN ?_ _ | refine blk_drew ?_ | refine blk_alloc ?_ _)); refine blk_far ?_ NB155_143.out _; (with_reducible repeat (first | refine blk_drewN ?_ _ | refine blk_drew ?_ | refine blk_alloc ?_ _)); refine blk_far ?_ NB155_143.out _; (with_reducible repeat (first | refine blk_drewN ?_ _ | refine blk_drew ?_ | refine blk_alloc ?_ _)); refine blk_far ?_ NB155_143.out _; (with_reducible repeat (first | refine blk_drewN ?_ _ | refine blk_drew ?_ | refine blk_alloc ?_ _)); refine blk_far ?_ NB155_143.out _; (with_reducible repeat (first | refine blk_drewN ?_ _ | refine blk_drew ?_ | refine blk_alloc ?_ _)); refine blk_far ?_ NB155_143.out _; (with_reducible repeat (first | refine blk_drewN ?_ _ | refine blk_drew ?_ | refine blk_alloc ?_ _)); exact BK155.out) hb); have n3_ := Aside0.mk (below_step (by repeat (first | (with_reducible first | exact HB.out | apply below_alloc | apply pw_below_drewN | apply below_drew1 | refine below_set ?_ GE143.out | refine below_set ?_ GE144.out | refine below_set ?_ GE155.out) | exact HB.out)) hb); clear BK143; clear BK144; clear BK155; clear HB; have BK143 := n0_; have BK144 := n1_; have BK155 := n2_; have HB := n3_; clear n0_ n1_ n2_ n3_; (try clear hb); (try clear hb2); (try clear hk); (try clear hi); have hcz48_0 : w47.cell? ⟨gb143, 0, none⟩ = some (.bool t147) := (blk_cell BK143.out 0).trans rfl; have hcz48_1 : w47.cell? ⟨gb143, 1, none⟩ = some (.int .i64 t148) := (blk_cell BK143.out 1).trans rfl; have hcz48_2 : w47.cell? ⟨gb143, 2, none⟩ = some (.int .i64 t149) := (blk_cell BK143.out 2).trans rfl; have hcz48_3 : w47.cell? ⟨gb143, 3, none⟩ = some (.int .u64 t150) := (blk_cell BK143.out 3).trans rfl; have hcz48_4 : w47.cell? ⟨gb143, 4, none⟩ = some (.int .u64 t151) := (blk_cell BK143.out 4).trans rfl; have hcz48_5 : w47.cell? ⟨gb143, 5, none⟩ = some (.bool t152) := (blk_cell BK143.out 5).trans rfl; have hcz48_6 : w47.cell? ⟨gb143, 6, none⟩ = some (.int .u64 t153) := (blk_cell BK143.out 6).trans rfl; have hfz48_0 := blk_frozen BK143.out 0; have hfz48_1 := blk_frozen BK143.out 1; have hfz48_2 := blk_frozen BK143.out 2; have hfz48_3 := blk_frozen BK143.out 3; have hfz48_4 := blk_frozen BK143.out 4; have hfz48_5 := blk_frozen BK143.out 5; have hfz48_6 := blk_frozen BK143.out 6))
                      go_roundg kj12
                      case measure => have := HK1.out; have := HJ6.out; have := HJ12.out; omega
                      case rel => exact ⟨(IntKind.u64.wrap (x2_1 - 1)), (x9_1), (IntKind.u64.wrap (x10_1 + 1)), (t156), (t157), (t158), (t159), (t160), (t161), (t162), (by first | rfl | (simp; done) | (simp [*]; done)), (by first | rfl | (simp; done) | (simp [*]; done)), (by first | rfl | (simp; done) | (simp [*]; done)), H', ⟨by have := HK1.out; have := HJ6.out; have := HJ12.out; omega⟩, ⟨by (with_reducible repeat (first | refine blk_drewN ?_ _ | refine blk_drew ?_ | refine blk_alloc ?_ _)); refine blk_put (cs := #[.bool t156, .int .i64 t157, .int .i64 t158, .int .u64 t159, .int .u64 t160, .bool t161, .int .u64 t153]) ?_ 6 _ rfl; (with_reducible repeat (first | refine blk_drewN ?_ _ | refine blk_drew ?_ | refine blk_alloc ?_ _)); refine blk_put (cs := #[.bool t156, .int .i64 t157, .int .i64 t158, .int .u64 t159, .int .u64 t160, .bool t152, .int .u64 t153]) ?_ 5 _ rfl; (with_reducible repeat (first | refine blk_drewN ?_ _ | refine blk_drew ?_ | refine blk_alloc ?_ _)); refine blk_put (cs := #[.bool t156, .int .i64 t157, .int .i64 t158, .int .u64 t159, .int .u64 t151, .bool t152, .int .u64 t153]) ?_ 4 _ rfl; (with_reducible repeat (first | refine blk_drewN ?_ _ | refine blk_drew ?_ | refine blk_alloc ?_ _)); refine blk_put (cs := #[.bool t156, .int .i64 t157, .int .i64 t158, .int .u64 t150, .int .u64 t151, .bool t152, .int .u64 t153]) ?_ 3 _ rfl; (with_reducible repeat (first | refine blk_drewN ?_ _ | refine blk_drew ?_ | refine blk_alloc ?_ _)); refine blk_put (cs := #[.bool t156, .int .i64 t157, .int .i64 t149, .int .u64 t150, .int .u64 t151, .bool t152, .int .u64 t153]) ?_ 2 _ rfl; (with_reducible repeat (first | refine blk_drewN ?_ _ | refine blk_drew ?_ | refine blk_alloc ?_ _)); refine blk_put (cs := #[.bool t156, .int .i64 t148, .int .i64 t149, .int .u64 t150, .int .u64 t151, .bool t152, .int .u64 t153]) ?_ 1 _ rfl; (with_reducible repeat (first | refine blk_drewN ?_ _ | refine blk_drew ?_ | refine blk_alloc ?_ _)); refine blk_put (cs := #[.bool t147, .int .i64 t148, .int .i64 t149, .int .u64 t150, .int .u64 t151, .bool t152, .int .u64 t153]) ?_ 0 _ rfl; (with_reducible repeat (first | refine blk_drewN ?_ _ | refine blk_drew ?_ | refine blk_alloc ?_ _)); exact BK143.out⟩, ⟨by (with_reducible repeat (first | refine blk_drewN ?_ _ | refine blk_drew ?_ | refine blk_alloc ?_ _)); refine blk_far ?_ NB144_143.out _; (with_reducible repeat (first | refine blk_drewN ?_ _ | refine blk_drew ?_ | refine blk_alloc ?_ _)); refine blk_far ?_ NB144_143.out _; (with_reducible repeat (first | refine blk_drewN ?_ _ | refine blk_drew ?_ | refine blk_alloc ?_ _)); refine blk_far ?_ NB144_143.out _; (with_reducible repeat (first | refine blk_drewN ?_ _ | refine blk_drew ?_ | refine blk_alloc ?_ _)); refine blk_far ?_ NB144_143.out _; (with_reducible repeat (first | refine blk_drewN ?_ _ | refine blk_drew ?_ | refine blk_alloc ?_ _)); refine blk_far ?_ NB144_143.out _; (with_reducible repeat (first | refine blk_drewN ?_ _ | refine blk_drew ?_ | refine blk_alloc ?_ _)); refine blk_far ?_ NB144_143.out _; (with_reducible repeat (first | refine blk_drewN ?_ _ | refine blk_drew ?_ | refine blk_alloc ?_ _)); refine blk_far ?_ NB144_143.out _; (with_reducible repeat (first | refine blk_drewN ?_ _ | refine blk_drew ?_ | refine blk_alloc ?_ _)); exact BK144.out⟩, ⟨by repeat (first | (with_reducible first | exact HB.out | apply below_alloc | apply pw_below_drewN | apply below_drew1 | refine below_set ?_ GE143.out | refine below_set ?_ GE144.out | refine below_set ?_ GE155.out) | exact HB.out)⟩⟩
            · rw [if_neg c11] at H
              have c11b0 : (t146 == 5) = false := beq_eq_false_iff_ne.mpr c11
              have c11b1 : (t146 != 5) = true := bne_iff_ne.mpr c11
              by_cases c49 : t146 = 2
              · rw [if_pos c49] at H
                have c49b0 : (t146 == 2) = true := beq_iff_eq.mpr c49
                have c49b1 : (t146 != 2) = false := bne_eq_false_iff_eq.mpr c49
                clear c49
                replace H := Option.bind_eq_some_iff.mp H
                obtain ⟨⟨t165, t166, t167, t168, t169, t170, t171, t172, t173⟩, A500, H⟩ := H
                replace H : (if t172 = true then (slice_Run.l0 kj6 l1 (IntKind.u64.wrap (x2_1 - 1)) (wrap64 (x9_1 + 1)) (IntKind.u64.wrap (x10_1 + 1)) t165 t166 t167 t168 t169 t170 t171) else (slice_Run.l0 kj6 l1 (IntKind.u64.wrap (x2_1 - 1)) x9_1 (IntKind.u64.wrap (x10_1 + 1)) t165 t166 t167 t168 t169 t170 t171)) = some (r1, r2, r3, r4, r5, r6, r7, r8, r9) := H
                have A50 := Aside0.mk A500
                clear A500
                by_cases c51 : t172 = true
                · subst c51
                  have H1 : (slice_Run.l0 kj6 l1 (IntKind.u64.wrap (x2_1 - 1)) (wrap64 (x9_1 + 1)) (IntKind.u64.wrap (x10_1 + 1)) t165 t166 t167 t168 t169 t170 t171) = some (r1, r2, r3, r4, r5, r6, r7, r8, r9) := by rw [if_pos rfl] at H; exact H
                  clear H
                  have H := H1
                  clear H1
                  have H' := Aside0.mk H
                  clear H
                  have hnb52 := NB143_144.out
                  have hnc52 := NB144_143.out
                  have hcz53_0 : wc.cell? ⟨gb143, 0, none⟩ = some (.bool x144000_1) := (blk_cell BK143.out 0).trans rfl
                  have hcz53_1 : wc.cell? ⟨gb143, 1, none⟩ = some (.int .i64 x144001_1) := (blk_cell BK143.out 1).trans rfl
                  have hcz53_2 : wc.cell? ⟨gb143, 2, none⟩ = some (.int .i64 x144002_1) := (blk_cell BK143.out 2).trans rfl
                  have hcz53_3 : wc.cell? ⟨gb143, 3, none⟩ = some (.int .u64 x144003_1) := (blk_cell BK143.out 3).trans rfl
                  have hcz53_4 : wc.cell? ⟨gb143, 4, none⟩ = some (.int .u64 x144004_1) := (blk_cell BK143.out 4).trans rfl
                  have hcz53_5 : wc.cell? ⟨gb143, 5, none⟩ = some (.bool x144005_1) := (blk_cell BK143.out 5).trans rfl
                  have hcz53_6 : wc.cell? ⟨gb143, 6, none⟩ = some (.int .u64 x144006_1) := (blk_cell BK143.out 6).trans rfl
                  have hfz53_0 := blk_frozen BK143.out 0
                  have hfz53_1 := blk_frozen BK143.out 1
                  have hfz53_2 := blk_frozen BK143.out 2
                  have hfz53_3 := blk_frozen BK143.out 3
                  have hfz53_4 := blk_frozen BK143.out 4
                  have hfz53_5 := blk_frozen BK143.out 5
                  have hfz53_6 := blk_frozen BK143.out 6
                  go_wp2_with (first | ((with_reducible refine gate_callee (f := 24) rfl ?_); refine goesL_ (some 29) rfl rfl Try.func24 (by kernel_rfl) rfl #[.agg #[.bool x144000_1, .int .i64 x144001_1, .int .i64 x144002_1, .int .u64 x144003_1, .int .u64 x144004_1, .bool x144005_1, .int .u64 x144006_1], .int .u64 x11_6, .int .u64 x2_1] rfl (by (try simp only [List.map_toArray, List.map_cons, List.map_nil]); first | done | rfl | (simp only [List.length_drop, List.length_take]; rfl)) ?_; (with_reducible refine (slice_Decide.calls x144000_1 x144001_1 x144002_1 x144003_1 x144004_1 x144005_1 x144006_1 x11_6 x2_1 t146 _ A10.out).mono ?_); rintro e w54 ⟨rfl, hb⟩; refine ⟨_, rfl, ?_⟩; have n0_ := Aside0.mk (blk_below (g := gb143) (o := .cells #[.bool x144000_1, .int .i64 x144001_1, .int .i64 x144002_1, .int .u64 x144003_1, .int .u64 x144004_1, .bool x144005_1, .int .u64 x144006_1] 28 (0, 0)) (by (with_reducible repeat (first | refine blk_drewN ?_ _ | refine blk_drew ?_ | refine blk_alloc ?_ _)); exact BK143.out) hb); have n1_ := Aside0.mk (blk_below (g := gb144) (o := .cells #[.bool false, .int .i64 0, .int .i64 0, .int .u64 0, .int .u64 0, .bool false, .int .u64 0] 28 (0, 0)) (by (with_reducible repeat (first | refine blk_drewN ?_ _ | refine blk_drew ?_ | refine blk_alloc ?_ _)); exact BK144.out) hb); have n2_ := Aside0.mk (below_step (by repeat (first | (with_reducible first | exact HB.out | apply below_alloc | apply pw_below_drewN | apply below_drew1 | refine below_set ?_ GE143.out | refine below_set ?_ GE144.out) | exact HB.out)) hb); clear BK143; clear BK144; clear HB; have BK143 := n0_; have BK144 := n1_; have HB := n2_; clear n0_ n1_ n2_; (try clear hb); (try clear hb2); (try clear hk); (try clear hi); have hcz55_0 : w54.cell? ⟨gb143, 0, none⟩ = some (.bool x144000_1) := (blk_cell BK143.out 0).trans rfl; have hcz55_1 : w54.cell? ⟨gb143, 1, none⟩ = some (.int .i64 x144001_1) := (blk_cell BK143.out 1).trans rfl; have hcz55_2 : w54.cell? ⟨gb143, 2, none⟩ = some (.int .i64 x144002_1) := (blk_cell BK143.out 2).trans rfl; have hcz55_3 : w54.cell? ⟨gb143, 3, none⟩ = some (.int .u64 x144003_1) := (blk_cell BK143.out 3).trans rfl; have hcz55_4 : w54.cell? ⟨gb143, 4, none⟩ = some (.int .u64 x144004_1) := (blk_cell BK143.out 4).trans rfl; have hcz55_5 : w54.cell? ⟨gb143, 5, none⟩ = some (.bool x144005_1) := (blk_cell BK143.out 5).trans rfl; have hcz55_6 : w54.cell? ⟨gb143, 6, none⟩ = some (.int .u64 x144006_1) := (blk_cell BK143.out 6).trans rfl; have hfz55_0 := blk_frozen BK143.out 0; have hfz55_1 := blk_frozen BK143.out 1; have hfz55_2 := blk_frozen BK143.out 2; have hfz55_3 := blk_frozen BK143.out 3; have hfz55_4 := blk_frozen BK143.out 4; have hfz55_5 := blk_frozen BK143.out 5; have hfz55_6 := blk_frozen BK143.out 6) | ((with_reducible refine gate_callee (f := 18) rfl ?_); refine goesL_ (some 51) rfl rfl Try.func18 (by kernel_rfl) rfl #[.agg #[.bool x144000_1, .int .i64 x144001_1, .int .i64 x144002_1, .int .u64 x144003_1, .int .u64 x144004_1, .bool x144005_1, .int .u64 x144006_1]] rfl (by (try simp only [List.map_toArray, List.map_cons, List.map_nil]); first | done | rfl | (simp only [List.length_drop, List.length_take]; rfl)) ?_; (with_reducible refine (slice_Tick.calls x144000_1 x144001_1 x144002_1 x144003_1 x144004_1 x144005_1 x144006_1 t165 t166 t167 t168 t169 t170 t171 true t173 _ A50.out).mono ?_); rintro e w56 ⟨rfl, hb⟩; refine ⟨_, rfl, ?_⟩; have n0_ := Aside0.mk (blk_below (g := gb143) (o := .cells #[.bool x144000_1, .int .i64 x144001_1, .int .i64 x144002_1, .int .u64 x144003_1, .int .u64 x144004_1, .bool x144005_1, .int .u64 x144006_1] 28 (0, 0)) (by (with_reducible repeat (first | refine blk_drewN ?_ _ | refine blk_drew ?_ | refine blk_alloc ?_ _)); exact BK143.out) hb); have n1_ := Aside0.mk (blk_below (g := gb144) (o := .cells #[.bool false, .int .i64 0, .int .i64 0, .int .u64 0, .int .u64 0, .bool false, .int .u64 0] 28 (0, 0)) (by (with_reducible repeat (first | refine blk_drewN ?_ _ | refine blk_drew ?_ | refine blk_alloc ?_ _)); exact BK144.out) hb); have n2_ := Aside0.mk (below_step (by repeat (first | (with_reducible first | exact HB.out | apply below_alloc | apply pw_below_drewN | apply below_drew1 | refine below_set ?_ GE143.out | refine below_set ?_ GE144.out) | exact HB.out)) hb); clear BK143; clear BK144; clear HB; have BK143 := n0_; have BK144 := n1_; have HB := n2_; clear n0_ n1_ n2_; (try clear hb); (try clear hb2); (try clear hk); (try clear hi); have hcz57_0 : w56.cell? ⟨gb143, 0, none⟩ = some (.bool x144000_1) := (blk_cell BK143.out 0).trans rfl; have hcz57_1 : w56.cell? ⟨gb143, 1, none⟩ = some (.int .i64 x144001_1) := (blk_cell BK143.out 1).trans rfl; have hcz57_2 : w56.cell? ⟨gb143, 2, none⟩ = some (.int .i64 x144002_1) := (blk_cell BK143.out 2).trans rfl; have hcz57_3 : w56.cell? ⟨gb143, 3, none⟩ = some (.int .u64 x144003_1) := (blk_cell BK143.out 3).trans rfl; have hcz57_4 : w56.cell? ⟨gb143, 4, none⟩ = some (.int .u64 x144004_1) := (blk_cell BK143.out 4).trans rfl; have hcz57_5 : w56.cell? ⟨gb143, 5, none⟩ = some (.bool x144005_1) := (blk_cell BK143.out 5).trans rfl; have hcz57_6 : w56.cell? ⟨gb143, 6, none⟩ = some (.int .u64 x144006_1) := (blk_cell BK143.out 6).trans rfl; have hfz57_0 := blk_frozen BK143.out 0; have hfz57_1 := blk_frozen BK143.out 1; have hfz57_2 := blk_frozen BK143.out 2; have hfz57_3 := blk_frozen BK143.out 3; have hfz57_4 := blk_frozen BK143.out 4; have hfz57_5 := blk_frozen BK143.out 5; have hfz57_6 := blk_frozen BK143.out 6))
                  go_roundg kj6
                  case measure => have := HK1.out; have := HJ6.out; omega
                  case rel => exact ⟨(IntKind.u64.wrap (x2_1 - 1)), (wrap64 (x9_1 + 1)), (IntKind.u64.wrap (x10_1 + 1)), (t165), (t166), (t167), (t168), (t169), (t170), (t171), (by first | rfl | (simp; done) | (simp [*]; done)), (by first | rfl | (simp; done) | (simp [*]; done)), (by first | rfl | (simp; done) | (simp [*]; done)), H', ⟨by have := HK1.out; have := HJ6.out; omega⟩, ⟨by (with_reducible repeat (first | refine blk_drewN ?_ _ | refine blk_drew ?_ | refine blk_alloc ?_ _)); refine blk_put (cs := #[.bool t165, .int .i64 t166, .int .i64 t167, .int .u64 t168, .int .u64 t169, .bool t170, .int .u64 x144006_1]) ?_ 6 _ rfl; (with_reducible repeat (first | refine blk_drewN ?_ _ | refine blk_drew ?_ | refine blk_alloc ?_ _)); refine blk_put (cs := #[.bool t165, .int .i64 t166, .int .i64 t167, .int .u64 t168, .int .u64 t169, .bool x144005_1, .int .u64 x144006_1]) ?_ 5 _ rfl; (with_reducible repeat (first | refine blk_drewN ?_ _ | refine blk_drew ?_ | refine blk_alloc ?_ _)); refine blk_put (cs := #[.bool t165, .int .i64 t166, .int .i64 t167, .int .u64 t168, .int .u64 x144004_1, .bool x144005_1, .int .u64 x144006_1]) ?_ 4 _ rfl; (with_reducible repeat (first | refine blk_drewN ?_ _ | refine blk_drew ?_ | refine blk_alloc ?_ _)); refine blk_put (cs := #[.bool t165, .int .i64 t166, .int .i64 t167, .int .u64 x144003_1, .int .u64 x144004_1, .bool x144005_1, .int .u64 x144006_1]) ?_ 3 _ rfl; (with_reducible repeat (first | refine blk_drewN ?_ _ | refine blk_drew ?_ | refine blk_alloc ?_ _)); refine blk_put (cs := #[.bool t165, .int .i64 t166, .int .i64 x144002_1, .int .u64 x144003_1, .int .u64 x144004_1, .bool x144005_1, .int .u64 x144006_1]) ?_ 2 _ rfl; (with_reducible repeat (first | refine blk_drewN ?_ _ | refine blk_drew ?_ | refine blk_alloc ?_ _)); refine blk_put (cs := #[.bool t165, .int .i64 x144001_1, .int .i64 x144002_1, .int .u64 x144003_1, .int .u64 x144004_1, .bool x144005_1, .int .u64 x144006_1]) ?_ 1 _ rfl; (with_reducible repeat (first | refine blk_drewN ?_ _ | refine blk_drew ?_ | refine blk_alloc ?_ _)); refine blk_put (cs := #[.bool x144000_1, .int .i64 x144001_1, .int .i64 x144002_1, .int .u64 x144003_1, .int .u64 x144004_1, .bool x144005_1, .int .u64 x144006_1]) ?_ 0 _ rfl; (with_reducible repeat (first | refine blk_drewN ?_ _ | refine blk_drew ?_ | refine blk_alloc ?_ _)); exact BK143.out⟩, ⟨by (with_reducible repeat (first | refine blk_drewN ?_ _ | refine blk_drew ?_ | refine blk_alloc ?_ _)); refine blk_far ?_ NB144_143.out _; (with_reducible repeat (first | refine blk_drewN ?_ _ | refine blk_drew ?_ | refine blk_alloc ?_ _)); refine blk_far ?_ NB144_143.out _; (with_reducible repeat (first | refine blk_drewN ?_ _ | refine blk_drew ?_ | refine blk_alloc ?_ _)); refine blk_far ?_ NB144_143.out _; (with_reducible repeat (first | refine blk_drewN ?_ _ | refine blk_drew ?_ | refine blk_alloc ?_ _)); refine blk_far ?_ NB144_143.out _; (with_reducible repeat (first | refine blk_drewN ?_ _ | refine blk_drew ?_ | refine blk_alloc ?_ _)); refine blk_far ?_ NB144_143.out _; (with_reducible repeat (first | refine blk_drewN ?_ _ | refine blk_drew ?_ | refine blk_alloc ?_ _)); refine blk_far ?_ NB144_143.out _; (with_reducible repeat (first | refine blk_drewN ?_ _ | refine blk_drew ?_ | refine blk_alloc ?_ _)); refine blk_far ?_ NB144_143.out _; (with_reducible repeat (first | refine blk_drewN ?_ _ | refine blk_drew ?_ | refine blk_alloc ?_ _)); exact BK144.out⟩, ⟨by repeat (first | (with_reducible first | exact HB.out | apply below_alloc | apply pw_below_drewN | apply below_drew1 | refine below_set ?_ GE143.out | refine below_set ?_ GE144.out) | exact HB.out)⟩⟩
                · replace c51 := Bool.eq_false_iff.mpr c51
                  subst c51
                  have H1 : (slice_Run.l0 kj6 l1 (IntKind.u64.wrap (x2_1 - 1)) x9_1 (IntKind.u64.wrap (x10_1 + 1)) t165 t166 t167 t168 t169 t170 t171) = some (r1, r2, r3, r4, r5, r6, r7, r8, r9) := by rw [if_neg (show ¬ (false = true) by decide)] at H; exact H
                  clear H
                  have H := H1
                  clear H1
                  have H' := Aside0.mk H
                  clear H
                  have hnb58 := NB143_144.out
                  have hnc58 := NB144_143.out
                  have hcz59_0 : wc.cell? ⟨gb143, 0, none⟩ = some (.bool x144000_1) := (blk_cell BK143.out 0).trans rfl
                  have hcz59_1 : wc.cell? ⟨gb143, 1, none⟩ = some (.int .i64 x144001_1) := (blk_cell BK143.out 1).trans rfl
                  have hcz59_2 : wc.cell? ⟨gb143, 2, none⟩ = some (.int .i64 x144002_1) := (blk_cell BK143.out 2).trans rfl
                  have hcz59_3 : wc.cell? ⟨gb143, 3, none⟩ = some (.int .u64 x144003_1) := (blk_cell BK143.out 3).trans rfl
                  have hcz59_4 : wc.cell? ⟨gb143, 4, none⟩ = some (.int .u64 x144004_1) := (blk_cell BK143.out 4).trans rfl
                  have hcz59_5 : wc.cell? ⟨gb143, 5, none⟩ = some (.bool x144005_1) := (blk_cell BK143.out 5).trans rfl
                  have hcz59_6 : wc.cell? ⟨gb143, 6, none⟩ = some (.int .u64 x144006_1) := (blk_cell BK143.out 6).trans rfl
                  have hfz59_0 := blk_frozen BK143.out 0
                  have hfz59_1 := blk_frozen BK143.out 1
                  have hfz59_2 := blk_frozen BK143.out 2
                  have hfz59_3 := blk_frozen BK143.out 3
                  have hfz59_4 := blk_frozen BK143.out 4
                  have hfz59_5 := blk_frozen BK143.out 5
                  have hfz59_6 := blk_frozen BK143.out 6
                  go_wp2_with (first | ((with_reducible refine gate_callee (f := 24) rfl ?_); refine goesL_ (some 29) rfl rfl Try.func24 (by kernel_rfl) rfl #[.agg #[.bool x144000_1, .int .i64 x144001_1, .int .i64 x144002_1, .int .u64 x144003_1, .int .u64 x144004_1, .bool x144005_1, .int .u64 x144006_1], .int .u64 x11_6, .int .u64 x2_1] rfl (by (try simp only [List.map_toArray, List.map_cons, List.map_nil]); first | done | rfl | (simp only [List.length_drop, List.length_take]; rfl)) ?_; (with_reducible refine (slice_Decide.calls x144000_1 x144001_1 x144002_1 x144003_1 x144004_1 x144005_1 x144006_1 x11_6 x2_1 t146 _ A10.out).mono ?_); rintro e w60 ⟨rfl, hb⟩; refine ⟨_, rfl, ?_⟩; have n0_ := Aside0.mk (blk_below (g := gb143) (o := .cells #[.bool x144000_1, .int .i64 x144001_1, .int .i64 x144002_1, .int .u64 x144003_1, .int .u64 x144004_1, .bool x144005_1, .int .u64 x144006_1] 28 (0, 0)) (by (with_reducible repeat (first | refine blk_drewN ?_ _ | refine blk_drew ?_ | refine blk_alloc ?_ _)); exact BK143.out) hb); have n1_ := Aside0.mk (blk_below (g := gb144) (o := .cells #[.bool false, .int .i64 0, .int .i64 0, .int .u64 0, .int .u64 0, .bool false, .int .u64 0] 28 (0, 0)) (by (with_reducible repeat (first | refine blk_drewN ?_ _ | refine blk_drew ?_ | refine blk_alloc ?_ _)); exact BK144.out) hb); have n2_ := Aside0.mk (below_step (by repeat (first | (with_reducible first | exact HB.out | apply below_alloc | apply pw_below_drewN | apply below_drew1 | refine below_set ?_ GE143.out | refine below_set ?_ GE144.out) | exact HB.out)) hb); clear BK143; clear BK144; clear HB; have BK143 := n0_; have BK144 := n1_; have HB := n2_; clear n0_ n1_ n2_; (try clear hb); (try clear hb2); (try clear hk); (try clear hi); have hcz61_0 : w60.cell? ⟨gb143, 0, none⟩ = some (.bool x144000_1) := (blk_cell BK143.out 0).trans rfl; have hcz61_1 : w60.cell? ⟨gb143, 1, none⟩ = some (.int .i64 x144001_1) := (blk_cell BK143.out 1).trans rfl; have hcz61_2 : w60.cell? ⟨gb143, 2, none⟩ = some (.int .i64 x144002_1) := (blk_cell BK143.out 2).trans rfl; have hcz61_3 : w60.cell? ⟨gb143, 3, none⟩ = some (.int .u64 x144003_1) := (blk_cell BK143.out 3).trans rfl; have hcz61_4 : w60.cell? ⟨gb143, 4, none⟩ = some (.int .u64 x144004_1) := (blk_cell BK143.out 4).trans rfl; have hcz61_5 : w60.cell? ⟨gb143, 5, none⟩ = some (.bool x144005_1) := (blk_cell BK143.out 5).trans rfl; have hcz61_6 : w60.cell? ⟨gb143, 6, none⟩ = some (.int .u64 x144006_1) := (blk_cell BK143.out 6).trans rfl; have hfz61_0 := blk_frozen BK143.out 0; have hfz61_1 := blk_frozen BK143.out 1; have hfz61_2 := blk_frozen BK143.out 2; have hfz61_3 := blk_frozen BK143.out 3; have hfz61_4 := blk_frozen BK143.out 4; have hfz61_5 := blk_frozen BK143.out 5; have hfz61_6 := blk_frozen BK143.out 6) | ((with_reducible refine gate_callee (f := 18) rfl ?_); refine goesL_ (some 51) rfl rfl Try.func18 (by kernel_rfl) rfl #[.agg #[.bool x144000_1, .int .i64 x144001_1, .int .i64 x144002_1, .int .u64 x144003_1, .int .u64 x144004_1, .bool x144005_1, .int .u64 x144006_1]] rfl (by (try simp only [List.map_toArray, List.map_cons, List.map_nil]); first | done | rfl | (simp only [List.length_drop, List.length_take]; rfl)) ?_; (with_reducible refine (slice_Tick.calls x144000_1 x144001_1 x144002_1 x144003_1 x144004_1 x144005_1 x144006_1 t165 t166 t167 t168 t169 t170 t171 false t173 _ A50.out).mono ?_); rintro e w62 ⟨rfl, hb⟩; refine ⟨_, rfl, ?_⟩; have n0_ := Aside0.mk (blk_below (g := gb143) (o := .cells #[.bool x144000_1, .int .i64 x144001_1, .int .i64 x144002_1, .int .u64 x144003_1, .int .u64 x144004_1, .bool x144005_1, .int .u64 x144006_1] 28 (0, 0)) (by (with_reducible repeat (first | refine blk_drewN ?_ _ | refine blk_drew ?_ | refine blk_alloc ?_ _)); exact BK143.out) hb); have n1_ := Aside0.mk (blk_below (g := gb144) (o := .cells #[.bool false, .int .i64 0, .int .i64 0, .int .u64 0, .int .u64 0, .bool false, .int .u64 0] 28 (0, 0)) (by (with_reducible repeat (first | refine blk_drewN ?_ _ | refine blk_drew ?_ | refine blk_alloc ?_ _)); exact BK144.out) hb); have n2_ := Aside0.mk (below_step (by repeat (first | (with_reducible first | exact HB.out | apply below_alloc | apply pw_below_drewN | apply below_drew1 | refine below_set ?_ GE143.out | refine below_set ?_ GE144.out) | exact HB.out)) hb); clear BK143; clear BK144; clear HB; have BK143 := n0_; have BK144 := n1_; have HB := n2_; clear n0_ n1_ n2_; (try clear hb); (try clear hb2); (try clear hk); (try clear hi); have hcz63_0 : w62.cell? ⟨gb143, 0, none⟩ = some (.bool x144000_1) := (blk_cell BK143.out 0).trans rfl; have hcz63_1 : w62.cell? ⟨gb143, 1, none⟩ = some (.int .i64 x144001_1) := (blk_cell BK143.out 1).trans rfl; have hcz63_2 : w62.cell? ⟨gb143, 2, none⟩ = some (.int .i64 x144002_1) := (blk_cell BK143.out 2).trans rfl; have hcz63_3 : w62.cell? ⟨gb143, 3, none⟩ = some (.int .u64 x144003_1) := (blk_cell BK143.out 3).trans rfl; have hcz63_4 : w62.cell? ⟨gb143, 4, none⟩ = some (.int .u64 x144004_1) := (blk_cell BK143.out 4).trans rfl; have hcz63_5 : w62.cell? ⟨gb143, 5, none⟩ = some (.bool x144005_1) := (blk_cell BK143.out 5).trans rfl; have hcz63_6 : w62.cell? ⟨gb143, 6, none⟩ = some (.int .u64 x144006_1) := (blk_cell BK143.out 6).trans rfl; have hfz63_0 := blk_frozen BK143.out 0; have hfz63_1 := blk_frozen BK143.out 1; have hfz63_2 := blk_frozen BK143.out 2; have hfz63_3 := blk_frozen BK143.out 3; have hfz63_4 := blk_frozen BK143.out 4; have hfz63_5 := blk_frozen BK143.out 5; have hfz63_6 := blk_frozen BK143.out 6))
                  go_roundg kj6
                  case measure => have := HK1.out; have := HJ6.out; omega
                  case rel => exact ⟨(IntKind.u64.wrap (x2_1 - 1)), (x9_1), (IntKind.u64.wrap (x10_1 + 1)), (t165), (t166), (t167), (t168), (t169), (t170), (t171), (by first | rfl | (simp; done) | (simp [*]; done)), (by first | rfl | (simp; done) | (simp [*]; done)), (by first | rfl | (simp; done) | (simp [*]; done)), H', ⟨by have := HK1.out; have := HJ6.out; omega⟩, ⟨by (with_reducible repeat (first | refine blk_drewN ?_ _ | refine blk_drew ?_ | refine blk_alloc ?_ _)); refine blk_put (cs := #[.bool t165, .int .i64 t166, .int .i64 t167, .int .u64 t168, .int .u64 t169, .bool t170, .int .u64 x144006_1]) ?_ 6 _ rfl; (with_reducible repeat (first | refine blk_drewN ?_ _ | refine blk_drew ?_ | refine blk_alloc ?_ _)); refine blk_put (cs := #[.bool t165, .int .i64 t166, .int .i64 t167, .int .u64 t168, .int .u64 t169, .bool x144005_1, .int .u64 x144006_1]) ?_ 5 _ rfl; (with_reducible repeat (first | refine blk_drewN ?_ _ | refine blk_drew ?_ | refine blk_alloc ?_ _)); refine blk_put (cs := #[.bool t165, .int .i64 t166, .int .i64 t167, .int .u64 t168, .int .u64 x144004_1, .bool x144005_1, .int .u64 x144006_1]) ?_ 4 _ rfl; (with_reducible repeat (first | refine blk_drewN ?_ _ | refine blk_drew ?_ | refine blk_alloc ?_ _)); refine blk_put (cs := #[.bool t165, .int .i64 t166, .int .i64 t167, .int .u64 x144003_1, .int .u64 x144004_1, .bool x144005_1, .int .u64 x144006_1]) ?_ 3 _ rfl; (with_reducible repeat (first | refine blk_drewN ?_ _ | refine blk_drew ?_ | refine blk_alloc ?_ _)); refine blk_put (cs := #[.bool t165, .int .i64 t166, .int .i64 x144002_1, .int .u64 x144003_1, .int .u64 x144004_1, .bool x144005_1, .int .u64 x144006_1]) ?_ 2 _ rfl; (with_reducible repeat (first | refine blk_drewN ?_ _ | refine blk_drew ?_ | refine blk_alloc ?_ _)); refine blk_put (cs := #[.bool t165, .int .i64 x144001_1, .int .i64 x144002_1, .int .u64 x144003_1, .int .u64 x144004_1, .bool x144005_1, .int .u64 x144006_1]) ?_ 1 _ rfl; (with_reducible repeat (first | refine blk_drewN ?_ _ | refine blk_drew ?_ | refine blk_alloc ?_ _)); refine blk_put (cs := #[.bool x144000_1, .int .i64 x144001_1, .int .i64 x144002_1, .int .u64 x144003_1, .int .u64 x144004_1, .bool x144005_1, .int .u64 x144006_1]) ?_ 0 _ rfl; (with_reducible repeat (first | refine blk_drewN ?_ _ | refine blk_drew ?_ | refine blk_alloc ?_ _)); exact BK143.out⟩, ⟨by (with_reducible repeat (first | refine blk_drewN ?_ _ | refine blk_drew ?_ | refine blk_alloc ?_ _)); refine blk_far ?_ NB144_143.out _; (with_reducible repeat (first | refine blk_drewN ?_ _ | refine blk_drew ?_ | refine blk_alloc ?_ _)); refine blk_far ?_ NB144_143.out _; (with_reducible repeat (first | refine blk_drewN ?_ _ | refine blk_drew ?_ | refine blk_alloc ?_ _)); refine blk_far ?_ NB144_143.out _; (with_reducible repeat (first | refine blk_drewN ?_ _ | refine blk_drew ?_ | refine blk_alloc ?_ _)); refine blk_far ?_ NB144_143.out _; (with_reducible repeat (first | refine blk_drewN ?_ _ | refine blk_drew ?_ | refine blk_alloc ?_ _)); refine blk_far ?_ NB144_143.out _; (with_reducible repeat (first | refine blk_drewN ?_ _ | refine blk_drew ?_ | refine blk_alloc ?_ _)); refine blk_far ?_ NB144_143.out _; (with_reducible repeat (first | refine blk_drewN ?_ _ | refine blk_drew ?_ | refine blk_alloc ?_ _)); refine blk_far ?_ NB144_143.out _; (with_reducible repeat (first | refine blk_drewN ?_ _ | refine blk_drew ?_ | refine blk_alloc ?_ _)); exact BK144.out⟩, ⟨by repeat (first | (with_reducible first | exact HB.out | apply below_alloc | apply pw_below_drewN | apply below_drew1 | refine below_set ?_ GE143.out | refine below_set ?_ GE144.out) | exact HB.out)⟩⟩
              · rw [if_neg c49] at H
                have c49b0 : (t146 == 2) = false := beq_eq_false_iff_ne.mpr c49
                have c49b1 : (t146 != 2) = true := bne_iff_ne.mpr c49
                simp only [Option.some.injEq, Prod.mk.injEq] at H
                obtain ⟨rfl, rfl, rfl, rfl, rfl, rfl, rfl, rfl, rfl⟩ := H
                have hnb64 := NB143_144.out
                have hnc64 := NB144_143.out
                have hcz65_0 : wc.cell? ⟨gb143, 0, none⟩ = some (.bool x144000_1) := (blk_cell BK143.out 0).trans rfl
                have hcz65_1 : wc.cell? ⟨gb143, 1, none⟩ = some (.int .i64 x144001_1) := (blk_cell BK143.out 1).trans rfl
                have hcz65_2 : wc.cell? ⟨gb143, 2, none⟩ = some (.int .i64 x144002_1) := (blk_cell BK143.out 2).trans rfl
                have hcz65_3 : wc.cell? ⟨gb143, 3, none⟩ = some (.int .u64 x144003_1) := (blk_cell BK143.out 3).trans rfl
                have hcz65_4 : wc.cell? ⟨gb143, 4, none⟩ = some (.int .u64 x144004_1) := (blk_cell BK143.out 4).trans rfl
                have hcz65_5 : wc.cell? ⟨gb143, 5, none⟩ = some (.bool x144005_1) := (blk_cell BK143.out 5).trans rfl
                have hcz65_6 : wc.cell? ⟨gb143, 6, none⟩ = some (.int .u64 x144006_1) := (blk_cell BK143.out 6).trans rfl
                have hfz65_0 := blk_frozen BK143.out 0
                have hfz65_1 := blk_frozen BK143.out 1
                have hfz65_2 := blk_frozen BK143.out 2
                have hfz65_3 := blk_frozen BK143.out 3
                have hfz65_4 := blk_frozen BK143.out 4
                have hfz65_5 := blk_frozen BK143.out 5
                have hfz65_6 := blk_frozen BK143.out 6
                try go_wp2_with (first | ((with_reducible refine gate_callee (f := 24) rfl ?_); refine goesL_ (some 29) rfl rfl Try.func24 (by kernel_rfl) rfl #[.agg #[.bool x144000_1, .int .i64 x144001_1, .int .i64 x144002_1, .int .u64 x144003_1, .int .u64 x144004_1, .bool x144005_1, .int .u64 x144006_1], .int .u64 x11_6, .int .u64 x2_1] rfl (by (try simp only [List.map_toArray, List.map_cons, List.map_nil]); first | done | rfl | (simp only [List.length_drop, List.length_take]; rfl)) ?_; (with_reducible refine (slice_Decide.calls x144000_1 x144001_1 x144002_1 x144003_1 x144004_1 x144005_1 x144006_1 x11_6 x2_1 t146 _ A10.out).mono ?_); rintro e w66 ⟨rfl, hb⟩; refine ⟨_, rfl, ?_⟩; have n0_ := Aside0.mk (blk_below (g := gb143) (o := .cells #[.bool x144000_1, .int .i64 x144001_1, .int .i64 x144002_1, .int .u64 x144003_1, .int .u64 x144004_1, .bool x144005_1, .int .u64 x144006_1] 28 (0, 0)) (by (with_reducible repeat (first | refine blk_drewN ?_ _ | refine blk_drew ?_ | refine blk_alloc ?_ _)); exact BK143.out) hb); have n1_ := Aside0.mk (blk_below (g := gb144) (o := .cells #[.bool false, .int .i64 0, .int .i64 0, .int .u64 0, .int .u64 0, .bool false, .int .u64 0] 28 (0, 0)) (by (with_reducible repeat (first | refine blk_drewN ?_ _ | refine blk_drew ?_ | refine blk_alloc ?_ _)); exact BK144.out) hb); have n2_ := Aside0.mk (below_step (by repeat (first | (with_reducible first | exact HB.out | apply below_alloc | apply pw_below_drewN | apply below_drew1 | refine below_set ?_ GE143.out | refine below_set ?_ GE144.out) | exact HB.out)) hb); clear BK143; clear BK144; clear HB; have BK143 := n0_; have BK144 := n1_; have HB := n2_; clear n0_ n1_ n2_; (try clear hb); (try clear hb2); (try clear hk); (try clear hi)))
                have n0_ := Aside0.mk (blk_drew BK143.out)
                have n1_ := Aside0.mk (blk_drew BK144.out)
                have n2_ := Aside0.mk (below_drew1 HB.out)
                clear BK143
                clear BK144
                clear HB
                have BK143 := n0_
                have BK144 := n1_
                have HB := n2_
                clear n0_ n1_ n2_
                refine start_ (n := 6) (S := fun w' => w'.cell? ⟨gb143, 0, none⟩ = some (.bool x144000_1) ∧ w'.cell? ⟨gb143, 1, none⟩ = some (.int .i64 x144001_1) ∧ w'.cell? ⟨gb143, 2, none⟩ = some (.int .i64 x144002_1) ∧ w'.cell? ⟨gb143, 3, none⟩ = some (.int .u64 x144003_1) ∧ w'.cell? ⟨gb143, 4, none⟩ = some (.int .u64 x144004_1) ∧ w'.cell? ⟨gb143, 5, none⟩ = some (.bool x144005_1) ∧ w'.cell? ⟨gb143, 6, none⟩ = some (.int .u64 x144006_1)) (ds := []) #[false, false, false, false, false, false] (by kernel_rfl) rfl rfl ⟨(blk_cell BK143.out 0).trans rfl, (blk_cell BK143.out 1).trans rfl, (blk_cell BK143.out 2).trans rfl, (blk_cell BK143.out 3).trans rfl, (blk_cell BK143.out 4).trans rfl, (blk_cell BK143.out 5).trans rfl, (blk_cell BK143.out 6).trans rfl⟩ (fun hHeld => ?_)
                generalize w66.drew = w67 at BK143 BK144 HB hHeld ⊢
                refine pure_ (i := 0) (N := some 62) (v := ?_) (a' := ?_) #[true, false, false, false, false, false] rfl rfl (by kernel_rfl) (fun _ _ _ h => h) (Or.inl ⟨by rfl, ?_⟩) ?_ ?_
                rotate_left
                · intro w'
                  go_simp
                  with_reducible rfl
                rotate_left
                · simp only [Act.put, List.setIfInBounds_toArray, List.set_cons_zero, List.set_cons_succ, i64_w, i32_w]
                  rfl
                refine pure_ (i := 1) (N := some 63) (v := ?_) (a' := ?_) #[true, true, false, false, false, false] rfl rfl (by kernel_rfl) (fun _ _ _ h => h) (Or.inl ⟨by rfl, ?_⟩) ?_ ?_
                rotate_left
                · intro w'
                  go_simp
                  with_reducible rfl
                rotate_left
                · simp only [Act.put, List.setIfInBounds_toArray, List.set_cons_zero, List.set_cons_succ, i64_w, i32_w]
                  rfl
                refine pure_ (i := 3) (N := some 6) (v := ?_) (a' := ?_) #[true, true, false, true, false, false] rfl rfl (by kernel_rfl) (fun _ _ _ h => h) (Or.inl ⟨by rfl, ?_⟩) ?_ ?_
                rotate_left
                · intro w'
                  go_simp
                  with_reducible rfl
                rotate_left
                · simp only [Act.put, List.setIfInBounds_toArray, List.set_cons_zero, List.set_cons_succ, i64_w, i32_w]
                  rfl
                refine pure_ (i := 4) (N := some 7) (v := ?_) (a' := ?_) #[true, true, false, true, true, false] rfl rfl (by kernel_rfl) (fun _ _ _ h => h) (Or.inl ⟨by rfl, ?_⟩) ?_ ?_
                rotate_left
                · intro w'
                  go_simp
                  with_reducible rfl
                rotate_left
                · simp only [Act.put, List.setIfInBounds_toArray, List.set_cons_zero, List.set_cons_succ, i64_w, i32_w]
                  rfl
                refine take_ (i := 2) (N := some 64) (v := ?_) (a' := ?_) #[true, true, true, true, true, false] rfl rfl (by kernel_rfl) (fun _ _ _ h => h) (Or.inl ⟨by rfl, ?_⟩) hHeld ?_ ?_
                rotate_left
                · rintro w' ⟨s0, s1, s2, s3, s4, s5, s6⟩
                  go_simp
                  with_reducible rfl
                rotate_left
                · simp only [Act.put, List.setIfInBounds_toArray, List.set_cons_zero, List.set_cons_succ, i64_w, i32_w]
                  rfl
                refine one_ (i := 5) (N := none) #[true, true, true, true, true, true] rfl rfl (by kernel_rfl) (by decide) (fun K hK => ?_)
                have hs68 : w67.cell? ⟨gb144, 0, none⟩ = some (.bool false) := (blk_cell BK144.out 0).trans rfl
                have hfs68 := blk_frozen BK144.out 0
                have hns68_0 := NB143_144.out
                have hms68_0 := NB144_143.out
                have hs69 : w67.cell? ⟨gb144, 1, none⟩ = some (.int .i64 0) := (blk_cell BK144.out 1).trans rfl
                have hfs69 := blk_frozen BK144.out 1
                have hns69_0 := NB143_144.out
                have hms69_0 := NB144_143.out
                have hs70 : w67.cell? ⟨gb144, 2, none⟩ = some (.int .i64 0) := (blk_cell BK144.out 2).trans rfl
                have hfs70 := blk_frozen BK144.out 2
                have hns70_0 := NB143_144.out
                have hms70_0 := NB144_143.out
                have hs71 : w67.cell? ⟨gb144, 3, none⟩ = some (.int .u64 0) := (blk_cell BK144.out 3).trans rfl
                have hfs71 := blk_frozen BK144.out 3
                have hns71_0 := NB143_144.out
                have hms71_0 := NB144_143.out
                have hs72 : w67.cell? ⟨gb144, 4, none⟩ = some (.int .u64 0) := (blk_cell BK144.out 4).trans rfl
                have hfs72 := blk_frozen BK144.out 4
                have hns72_0 := NB143_144.out
                have hms72_0 := NB144_143.out
                have hs73 : w67.cell? ⟨gb144, 5, none⟩ = some (.bool false) := (blk_cell BK144.out 5).trans rfl
                have hfs73 := blk_frozen BK144.out 5
                have hns73_0 := NB143_144.out
                have hms73_0 := NB144_143.out
                have hs74 : w67.cell? ⟨gb144, 6, none⟩ = some (.int .u64 0) := (blk_cell BK144.out 6).trans rfl
                have hfs74 := blk_frozen BK144.out 6
                have hns74_0 := NB143_144.out
                have hms74_0 := NB144_143.out
                refine skip_ (w1 := ?_) (by rfl) rfl ?_ ?_
                rotate_left
                · go_simp
                  rfl
                refine hK.out _ _ ⟨((cell_far (p := ⟨gb144, _, none⟩) NB143_144.out _).trans (((cell_far (p := ⟨gb144, _, none⟩) NB143_144.out _).trans (((cell_far (p := ⟨gb144, _, none⟩) NB143_144.out _).trans (((cell_far (p := ⟨gb144, _, none⟩) NB143_144.out _).trans (((cell_far (p := ⟨gb144, _, none⟩) NB143_144.out _).trans (((cell_far (p := ⟨gb144, _, none⟩) NB143_144.out _).trans (((cell_far (p := ⟨gb144, _, none⟩) NB143_144.out _).trans (hHeld.1)))))))))))))), ((cell_far (p := ⟨gb144, _, none⟩) NB143_144.out _).trans (((cell_far (p := ⟨gb144, _, none⟩) NB143_144.out _).trans (((cell_far (p := ⟨gb144, _, none⟩) NB143_144.out _).trans (((cell_far (p := ⟨gb144, _, none⟩) NB143_144.out _).trans (((cell_far (p := ⟨gb144, _, none⟩) NB143_144.out _).trans (((cell_far (p := ⟨gb144, _, none⟩) NB143_144.out _).trans (((cell_far (p := ⟨gb144, _, none⟩) NB143_144.out _).trans (hHeld.2.1)))))))))))))), ((cell_far (p := ⟨gb144, _, none⟩) NB143_144.out _).trans (((cell_far (p := ⟨gb144, _, none⟩) NB143_144.out _).trans (((cell_far (p := ⟨gb144, _, none⟩) NB143_144.out _).trans (((cell_far (p := ⟨gb144, _, none⟩) NB143_144.out _).trans (((cell_far (p := ⟨gb144, _, none⟩) NB143_144.out _).trans (((cell_far (p := ⟨gb144, _, none⟩) NB143_144.out _).trans (((cell_far (p := ⟨gb144, _, none⟩) NB143_144.out _).trans (hHeld.2.2.1)))))))))))))), ((cell_far (p := ⟨gb144, _, none⟩) NB143_144.out _).trans (((cell_far (p := ⟨gb144, _, none⟩) NB143_144.out _).trans (((cell_far (p := ⟨gb144, _, none⟩) NB143_144.out _).trans (((cell_far (p := ⟨gb144, _, none⟩) NB143_144.out _).trans (((cell_far (p := ⟨gb144, _, none⟩) NB143_144.out _).trans (((cell_far (p := ⟨gb144, _, none⟩) NB143_144.out _).trans (((cell_far (p := ⟨gb144, _, none⟩) NB143_144.out _).trans (hHeld.2.2.2.1)))))))))))))), ((cell_far (p := ⟨gb144, _, none⟩) NB143_144.out _).trans (((cell_far (p := ⟨gb144, _, none⟩) NB143_144.out _).trans (((cell_far (p := ⟨gb144, _, none⟩) NB143_144.out _).trans (((cell_far (p := ⟨gb144, _, none⟩) NB143_144.out _).trans (((cell_far (p := ⟨gb144, _, none⟩) NB143_144.out _).trans (((cell_far (p := ⟨gb144, _, none⟩) NB143_144.out _).trans (((cell_far (p := ⟨gb144, _, none⟩) NB143_144.out _).trans (hHeld.2.2.2.2.1)))))))))))))), ((cell_far (p := ⟨gb144, _, none⟩) NB143_144.out _).trans (((cell_far (p := ⟨gb144, _, none⟩) NB143_144.out _).trans (((cell_far (p := ⟨gb144, _, none⟩) NB143_144.out _).trans (((cell_far (p := ⟨gb144, _, none⟩) NB143_144.out _).trans (((cell_far (p := ⟨gb144, _, none⟩) NB143_144.out _).trans (((cell_far (p := ⟨gb144, _, none⟩) NB143_144.out _).trans (((cell_far (p := ⟨gb144, _, none⟩) NB143_144.out _).trans (hHeld.2.2.2.2.2.1)))))))))))))), ((cell_far (p := ⟨gb144, _, none⟩) NB143_144.out _).trans (((cell_far (p := ⟨gb144, _, none⟩) NB143_144.out _).trans (((cell_far (p := ⟨gb144, _, none⟩) NB143_144.out _).trans (((cell_far (p := ⟨gb144, _, none⟩) NB143_144.out _).trans (((cell_far (p := ⟨gb144, _, none⟩) NB143_144.out _).trans (((cell_far (p := ⟨gb144, _, none⟩) NB143_144.out _).trans (((cell_far (p := ⟨gb144, _, none⟩) NB143_144.out _).trans (hHeld.2.2.2.2.2.2))))))))))))))⟩ (fun hHeld => ?_)
                clear hK K
                refine done_ (by kernel_rfl) ?_
                try go_wp2
                refine bodyPost_ret (results_list (rs := [.tmp 6, .tmp 7, .cell 8 28]) rfl (by simp) (.tmp (.tmp (.cell gb144 28 #[.bool x144000_1, .int .i64 x144001_1, .int .i64 x144002_1, .int .u64 x144003_1, .int .u64 x144004_1, .bool x144005_1, .int .u64 x144006_1] (0, 0) _ rfl (by (with_reducible repeat (first | refine blk_drewN ?_ _ | refine blk_drew ?_ | refine blk_alloc ?_ _)); refine blk_put (cs := #[.bool x144000_1, .int .i64 x144001_1, .int .i64 x144002_1, .int .u64 x144003_1, .int .u64 x144004_1, .bool x144005_1, .int .u64 0]) ?_ 6 _ rfl; (with_reducible repeat (first | refine blk_drewN ?_ _ | refine blk_drew ?_ | refine blk_alloc ?_ _)); refine blk_put (cs := #[.bool x144000_1, .int .i64 x144001_1, .int .i64 x144002_1, .int .u64 x144003_1, .int .u64 x144004_1, .bool false, .int .u64 0]) ?_ 5 _ rfl; (with_reducible repeat (first | refine blk_drewN ?_ _ | refine blk_drew ?_ | refine blk_alloc ?_ _)); refine blk_put (cs := #[.bool x144000_1, .int .i64 x144001_1, .int .i64 x144002_1, .int .u64 x144003_1, .int .u64 0, .bool false, .int .u64 0]) ?_ 4 _ rfl; (with_reducible repeat (first | refine blk_drewN ?_ _ | refine blk_drew ?_ | refine blk_alloc ?_ _)); refine blk_put (cs := #[.bool x144000_1, .int .i64 x144001_1, .int .i64 x144002_1, .int .u64 0, .int .u64 0, .bool false, .int .u64 0]) ?_ 3 _ rfl; (with_reducible repeat (first | refine blk_drewN ?_ _ | refine blk_drew ?_ | refine blk_alloc ?_ _)); refine blk_put (cs := #[.bool x144000_1, .int .i64 x144001_1, .int .i64 0, .int .u64 0, .int .u64 0, .bool false, .int .u64 0]) ?_ 2 _ rfl; (with_reducible repeat (first | refine blk_drewN ?_ _ | refine blk_drew ?_ | refine blk_alloc ?_ _)); refine blk_put (cs := #[.bool x144000_1, .int .i64 0, .int .i64 0, .int .u64 0, .int .u64 0, .bool false, .int .u64 0]) ?_ 1 _ rfl; (with_reducible repeat (first | refine blk_drewN ?_ _ | refine blk_drew ?_ | refine blk_alloc ?_ _)); refine blk_put (cs := #[.bool false, .int .i64 0, .int .i64 0, .int .u64 0, .int .u64 0, .bool false, .int .u64 0]) ?_ 0 _ rfl; (with_reducible repeat (first | refine blk_drewN ?_ _ | refine blk_drew ?_ | refine blk_alloc ?_ _)); exact BK144.out) Try.underlying28 rfl (by kernel_rfl) .nil)))) rfl ?_
                exact ⟨by first | rfl | (simp [errW_none, errW_some] <;> rfl) | (simp [*, errW_none, errW_some] <;> rfl), by repeat (first | (with_reducible first | exact HB.out | apply below_alloc | apply pw_below_drewN | apply below_drew1 | refine below_set ?_ GE143.out | refine below_set ?_ GE144.out) | exact HB.out)⟩
      · rw [if_neg c6] at H
        have c6b0 : decide (0 < x2_1) = false := decide_eq_false c6
        clear c6
        simp only [Option.some.injEq, Prod.mk.injEq] at H
        obtain ⟨rfl, rfl, rfl, rfl, rfl, rfl, rfl, rfl, rfl⟩ := H
        try go_wp2
        have n0_ := Aside0.mk (blk_drew BK143.out)
        have n1_ := Aside0.mk (blk_drew BK144.out)
        have n2_ := Aside0.mk (below_drew1 HB.out)
        clear BK143
        clear BK144
        clear HB
        have BK143 := n0_
        have BK144 := n1_
        have HB := n2_
        clear n0_ n1_ n2_
        refine start_ (n := 6) (S := fun w' => w'.cell? ⟨gb143, 0, none⟩ = some (.bool x144000_1) ∧ w'.cell? ⟨gb143, 1, none⟩ = some (.int .i64 x144001_1) ∧ w'.cell? ⟨gb143, 2, none⟩ = some (.int .i64 x144002_1) ∧ w'.cell? ⟨gb143, 3, none⟩ = some (.int .u64 x144003_1) ∧ w'.cell? ⟨gb143, 4, none⟩ = some (.int .u64 x144004_1) ∧ w'.cell? ⟨gb143, 5, none⟩ = some (.bool x144005_1) ∧ w'.cell? ⟨gb143, 6, none⟩ = some (.int .u64 x144006_1)) (ds := []) #[false, false, false, false, false, false] (by kernel_rfl) rfl rfl ⟨(blk_cell BK143.out 0).trans rfl, (blk_cell BK143.out 1).trans rfl, (blk_cell BK143.out 2).trans rfl, (blk_cell BK143.out 3).trans rfl, (blk_cell BK143.out 4).trans rfl, (blk_cell BK143.out 5).trans rfl, (blk_cell BK143.out 6).trans rfl⟩ (fun hHeld => ?_)
        generalize wr.drew = w75 at BK143 BK144 HB hHeld ⊢
        refine pure_ (i := 0) (N := some 62) (v := ?_) (a' := ?_) #[true, false, false, false, false, false] rfl rfl (by kernel_rfl) (fun _ _ _ h => h) (Or.inl ⟨by rfl, ?_⟩) ?_ ?_
        rotate_left
        · intro w'
          go_simp
          with_reducible rfl
        rotate_left
        · simp only [Act.put, List.setIfInBounds_toArray, List.set_cons_zero, List.set_cons_succ, i64_w, i32_w]
          rfl
        refine pure_ (i := 1) (N := some 63) (v := ?_) (a' := ?_) #[true, true, false, false, false, false] rfl rfl (by kernel_rfl) (fun _ _ _ h => h) (Or.inl ⟨by rfl, ?_⟩) ?_ ?_
        rotate_left
        · intro w'
          go_simp
          with_reducible rfl
        rotate_left
        · simp only [Act.put, List.setIfInBounds_toArray, List.set_cons_zero, List.set_cons_succ, i64_w, i32_w]
          rfl
        refine pure_ (i := 3) (N := some 6) (v := ?_) (a' := ?_) #[true, true, false, true, false, false] rfl rfl (by kernel_rfl) (fun _ _ _ h => h) (Or.inl ⟨by rfl, ?_⟩) ?_ ?_
        rotate_left
        · intro w'
          go_simp
          with_reducible rfl
        rotate_left
        · simp only [Act.put, List.setIfInBounds_toArray, List.set_cons_zero, List.set_cons_succ, i64_w, i32_w]
          rfl
        refine pure_ (i := 4) (N := some 7) (v := ?_) (a' := ?_) #[true, true, false, true, true, false] rfl rfl (by kernel_rfl) (fun _ _ _ h => h) (Or.inl ⟨by rfl, ?_⟩) ?_ ?_
        rotate_left
        · intro w'
          go_simp
          with_reducible rfl
        rotate_left
        · simp only [Act.put, List.setIfInBounds_toArray, List.set_cons_zero, List.set_cons_succ, i64_w, i32_w]
          rfl
        refine take_ (i := 2) (N := some 64) (v := ?_) (a' := ?_) #[true, true, true, true, true, false] rfl rfl (by kernel_rfl) (fun _ _ _ h => h) (Or.inl ⟨by rfl, ?_⟩) hHeld ?_ ?_
        rotate_left
        · rintro w' ⟨s0, s1, s2, s3, s4, s5, s6⟩
          go_simp
          with_reducible rfl
        rotate_left
        · simp only [Act.put, List.setIfInBounds_toArray, List.set_cons_zero, List.set_cons_succ, i64_w, i32_w]
          rfl
        refine one_ (i := 5) (N := none) #[true, true, true, true, true, true] rfl rfl (by kernel_rfl) (by decide) (fun K hK => ?_)
        have hs76 : w75.cell? ⟨gb144, 0, none⟩ = some (.bool false) := (blk_cell BK144.out 0).trans rfl
        have hfs76 := blk_frozen BK144.out 0
        have hns76_0 := NB143_144.out
        have hms76_0 := NB144_143.out
        have hs77 : w75.cell? ⟨gb144, 1, none⟩ = some (.int .i64 0) := (blk_cell BK144.out 1).trans rfl
        have hfs77 := blk_frozen BK144.out 1
        have hns77_0 := NB143_144.out
        have hms77_0 := NB144_143.out
        have hs78 : w75.cell? ⟨gb144, 2, none⟩ = some (.int .i64 0) := (blk_cell BK144.out 2).trans rfl
        have hfs78 := blk_frozen BK144.out 2
        have hns78_0 := NB143_144.out
        have hms78_0 := NB144_143.out
        have hs79 : w75.cell? ⟨gb144, 3, none⟩ = some (.int .u64 0) := (blk_cell BK144.out 3).trans rfl
        have hfs79 := blk_frozen BK144.out 3
        have hns79_0 := NB143_144.out
        have hms79_0 := NB144_143.out
        have hs80 : w75.cell? ⟨gb144, 4, none⟩ = some (.int .u64 0) := (blk_cell BK144.out 4).trans rfl
        have hfs80 := blk_frozen BK144.out 4
        have hns80_0 := NB143_144.out
        have hms80_0 := NB144_143.out
        have hs81 : w75.cell? ⟨gb144, 5, none⟩ = some (.bool false) := (blk_cell BK144.out 5).trans rfl
        have hfs81 := blk_frozen BK144.out 5
        have hns81_0 := NB143_144.out
        have hms81_0 := NB144_143.out
        have hs82 : w75.cell? ⟨gb144, 6, none⟩ = some (.int .u64 0) := (blk_cell BK144.out 6).trans rfl
        have hfs82 := blk_frozen BK144.out 6
        have hns82_0 := NB143_144.out
        have hms82_0 := NB144_143.out
        refine skip_ (w1 := ?_) (by rfl) rfl ?_ ?_
        rotate_left
        · go_simp
          rfl
        refine hK.out _ _ ⟨((cell_far (p := ⟨gb144, _, none⟩) NB143_144.out _).trans (((cell_far (p := ⟨gb144, _, none⟩) NB143_144.out _).trans (((cell_far (p := ⟨gb144, _, none⟩) NB143_144.out _).trans (((cell_far (p := ⟨gb144, _, none⟩) NB143_144.out _).trans (((cell_far (p := ⟨gb144, _, none⟩) NB143_144.out _).trans (((cell_far (p := ⟨gb144, _, none⟩) NB143_144.out _).trans (((cell_far (p := ⟨gb144, _, none⟩) NB143_144.out _).trans (hHeld.1)))))))))))))), ((cell_far (p := ⟨gb144, _, none⟩) NB143_144.out _).trans (((cell_far (p := ⟨gb144, _, none⟩) NB143_144.out _).trans (((cell_far (p := ⟨gb144, _, none⟩) NB143_144.out _).trans (((cell_far (p := ⟨gb144, _, none⟩) NB143_144.out _).trans (((cell_far (p := ⟨gb144, _, none⟩) NB143_144.out _).trans (((cell_far (p := ⟨gb144, _, none⟩) NB143_144.out _).trans (((cell_far (p := ⟨gb144, _, none⟩) NB143_144.out _).trans (hHeld.2.1)))))))))))))), ((cell_far (p := ⟨gb144, _, none⟩) NB143_144.out _).trans (((cell_far (p := ⟨gb144, _, none⟩) NB143_144.out _).trans (((cell_far (p := ⟨gb144, _, none⟩) NB143_144.out _).trans (((cell_far (p := ⟨gb144, _, none⟩) NB143_144.out _).trans (((cell_far (p := ⟨gb144, _, none⟩) NB143_144.out _).trans (((cell_far (p := ⟨gb144, _, none⟩) NB143_144.out _).trans (((cell_far (p := ⟨gb144, _, none⟩) NB143_144.out _).trans (hHeld.2.2.1)))))))))))))), ((cell_far (p := ⟨gb144, _, none⟩) NB143_144.out _).trans (((cell_far (p := ⟨gb144, _, none⟩) NB143_144.out _).trans (((cell_far (p := ⟨gb144, _, none⟩) NB143_144.out _).trans (((cell_far (p := ⟨gb144, _, none⟩) NB143_144.out _).trans (((cell_far (p := ⟨gb144, _, none⟩) NB143_144.out _).trans (((cell_far (p := ⟨gb144, _, none⟩) NB143_144.out _).trans (((cell_far (p := ⟨gb144, _, none⟩) NB143_144.out _).trans (hHeld.2.2.2.1)))))))))))))), ((cell_far (p := ⟨gb144, _, none⟩) NB143_144.out _).trans (((cell_far (p := ⟨gb144, _, none⟩) NB143_144.out _).trans (((cell_far (p := ⟨gb144, _, none⟩) NB143_144.out _).trans (((cell_far (p := ⟨gb144, _, none⟩) NB143_144.out _).trans (((cell_far (p := ⟨gb144, _, none⟩) NB143_144.out _).trans (((cell_far (p := ⟨gb144, _, none⟩) NB143_144.out _).trans (((cell_far (p := ⟨gb144, _, none⟩) NB143_144.out _).trans (hHeld.2.2.2.2.1)))))))))))))), ((cell_far (p := ⟨gb144, _, none⟩) NB143_144.out _).trans (((cell_far (p := ⟨gb144, _, none⟩) NB143_144.out _).trans (((cell_far (p := ⟨gb144, _, none⟩) NB143_144.out _).trans (((cell_far (p := ⟨gb144, _, none⟩) NB143_144.out _).trans (((cell_far (p := ⟨gb144, _, none⟩) NB143_144.out _).trans (((cell_far (p := ⟨gb144, _, none⟩) NB143_144.out _).trans (((cell_far (p := ⟨gb144, _, none⟩) NB143_144.out _).trans (hHeld.2.2.2.2.2.1)))))))))))))), ((cell_far (p := ⟨gb144, _, none⟩) NB143_144.out _).trans (((cell_far (p := ⟨gb144, _, none⟩) NB143_144.out _).trans (((cell_far (p := ⟨gb144, _, none⟩) NB143_144.out _).trans (((cell_far (p := ⟨gb144, _, none⟩) NB143_144.out _).trans (((cell_far (p := ⟨gb144, _, none⟩) NB143_144.out _).trans (((cell_far (p := ⟨gb144, _, none⟩) NB143_144.out _).trans (((cell_far (p := ⟨gb144, _, none⟩) NB143_144.out _).trans (hHeld.2.2.2.2.2.2))))))))))))))⟩ (fun hHeld => ?_)
        clear hK K
        refine done_ (by kernel_rfl) ?_
        try go_wp2
        refine bodyPost_ret (results_list (rs := [.tmp 6, .tmp 7, .cell 8 28]) rfl (by simp) (.tmp (.tmp (.cell gb144 28 #[.bool x144000_1, .int .i64 x144001_1, .int .i64 x144002_1, .int .u64 x144003_1, .int .u64 x144004_1, .bool x144005_1, .int .u64 x144006_1] (0, 0) _ rfl (by (with_reducible repeat (first | refine blk_drewN ?_ _ | refine blk_drew ?_ | refine blk_alloc ?_ _)); refine blk_put (cs := #[.bool x144000_1, .int .i64 x144001_1, .int .i64 x144002_1, .int .u64 x144003_1, .int .u64 x144004_1, .bool x144005_1, .int .u64 0]) ?_ 6 _ rfl; (with_reducible repeat (first | refine blk_drewN ?_ _ | refine blk_drew ?_ | refine blk_alloc ?_ _)); refine blk_put (cs := #[.bool x144000_1, .int .i64 x144001_1, .int .i64 x144002_1, .int .u64 x144003_1, .int .u64 x144004_1, .bool false, .int .u64 0]) ?_ 5 _ rfl; (with_reducible repeat (first | refine blk_drewN ?_ _ | refine blk_drew ?_ | refine blk_alloc ?_ _)); refine blk_put (cs := #[.bool x144000_1, .int .i64 x144001_1, .int .i64 x144002_1, .int .u64 x144003_1, .int .u64 0, .bool false, .int .u64 0]) ?_ 4 _ rfl; (with_reducible repeat (first | refine blk_drewN ?_ _ | refine blk_drew ?_ | refine blk_alloc ?_ _)); refine blk_put (cs := #[.bool x144000_1, .int .i64 x144001_1, .int .i64 x144002_1, .int .u64 0, .int .u64 0, .bool false, .int .u64 0]) ?_ 3 _ rfl; (with_reducible repeat (first | refine blk_drewN ?_ _ | refine blk_drew ?_ | refine blk_alloc ?_ _)); refine blk_put (cs := #[.bool x144000_1, .int .i64 x144001_1, .int .i64 0, .int .u64 0, .int .u64 0, .bool false, .int .u64 0]) ?_ 2 _ rfl; (with_reducible repeat (first | refine blk_drewN ?_ _ | refine blk_drew ?_ | refine blk_alloc ?_ _)); refine blk_put (cs := #[.bool x144000_1, .int .i64 0, .int .i64 0, .int .u64 0, .int .u64 0, .bool false, .int .u64 0]) ?_ 1 _ rfl; (with_reducible repeat (first | refine blk_drewN ?_ _ | refine blk_drew ?_ | refine blk_alloc ?_ _)); refine blk_put (cs := #[.bool false, .int .i64 0, .int .i64 0, .int .u64 0, .int .u64 0, .bool false, .int .u64 0]) ?_ 0 _ rfl; (with_reducible repeat (first | refine blk_drewN ?_ _ | refine blk_drew ?_ | refine blk_alloc ?_ _)); exact BK144.out) Try.underlying28 rfl (by kernel_rfl) .nil)))) rfl ?_
        exact ⟨by first | rfl | (simp [errW_none, errW_some] <;> rfl) | (simp [*, errW_none, errW_some] <;> rfl), by repeat (first | (with_reducible first | exact HB.out | apply below_alloc | apply pw_below_drewN | apply below_drew1 | refine below_set ?_ GE143.out | refine below_set ?_ GE144.out) | exact HB.out)⟩

end Go.Proofs.Ytdmfoeokfmgglaa.PSliceEnds
