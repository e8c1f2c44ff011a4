/- The Go functions that the law reaches, as Lean functions, and that the code comes to their answers. Laid by this session's own program; no condition. -/
import Derived.Test.YtdmfoeokfmgglaaPSliceSplitx0
import Derived.Test.YtdmfoeokfmgglaaPSliceSplitx2
namespace Go.Proofs.Ytdmfoeokfmgglaa.PSliceSplit
open Go.RowKit Go.Proofs.YtdmfoeokfmgglaaW.PrintWords Go.Proofs.YtdmfoeokfmgglaaW.PrintLast Go.Proofs.YtdmfoeokfmgglaaW.PrintMore
attribute [local go_sem] max2_int min2_int max_two min_two max_three min_three max_four min_four   -- for this text's walks alone
set_option linter.unusedVariables false
set_option linter.unusedSimpArgs false

/-! ### slice_Run: function 27 -/
mutual
def slice_Run.l0 : Nat → List Int → Int → Int → Int → Bool → Int → Int → Int → Int → Bool → Int → Option (Int × Int × Bool × Int × Int × Int × Int × Bool × Int)
  | 0, _, _, _, _, _, _, _, _, _, _, _ => none
  | k + 1, x1, x2, x9, x10, x142000, x142001, x142002, x142003, x142004, x142005, x142006 => if x2 > 0 then (if x9 < (x1.length : Int) then (if 0 ≤ x9 then (slice_Run.j1 k x1 x2 x9 x10 (rd x1 x9) x142000 x142001 x142002 x142003 x142004 x142005 x142006) else (none)) else (slice_Run.j1 k x1 x2 x9 x10 0 x142000 x142001 x142002 x142003 x142004 x142005 x142006)) else (some (x9, x10, x142000, x142001, x142002, x142003, x142004, x142005, x142006))
def slice_Run.j1 : Nat → List Int → Int → Int → Int → Int → Bool → Int → Int → Int → Int → Bool → Int → Option (Int × Int × Bool × Int × Int × Int × Int × Bool × Int)
  | 0, _, _, _, _, _, _, _, _, _, _, _, _ => none
  | k + 1, x1, x2, x9, x10, x11, x142000, x142001, x142002, x142003, x142004, x142005, x142006 => (slice_Decide.f x142000 x142001 x142002 x142003 x142004 x142005 x142006 x11 x2).bind fun t144 => (if t144 = 5 then ((slice_Begin.f k x142000 x142001 x142002 x142003 x142004 x142005 x142006 x11).bind fun bt145 => (if x9 ≥ (x1.length : Int) then (slice_Run.j2 k x1 x2 x9 x10 true x142000 x142001 x142002 x142003 x142004 x142005 x142006 bt145.1 bt145.2.1 bt145.2.2.1 bt145.2.2.2.1 bt145.2.2.2.2.1 bt145.2.2.2.2.2.1 bt145.2.2.2.2.2.2.1) else (slice_Run.j2 k x1 x2 x9 x10 (bt145.2.2.2.2.2.2.2 != 0) x142000 x142001 x142002 x142003 x142004 x142005 x142006 bt145.1 bt145.2.1 bt145.2.2.1 bt145.2.2.2.1 bt145.2.2.2.2.1 bt145.2.2.2.2.2.1 bt145.2.2.2.2.2.2.1))) else (if t144 = 2 then ((slice_Tick.f x142000 x142001 x142002 x142003 x142004 x142005 x142006).bind fun bt163 => (if bt163.2.2.2.2.2.2.2.1 = true then (slice_Run.l0 k x1 (IntKind.u64.wrap (x2 - 1)) (wrap64 (x9 + 1)) (IntKind.u64.wrap (x10 + 1)) bt163.1 bt163.2.1 bt163.2.2.1 bt163.2.2.2.1 bt163.2.2.2.2.1 bt163.2.2.2.2.2.1 bt163.2.2.2.2.2.2.1) else (slice_Run.l0 k x1 (IntKind.u64.wrap (x2 - 1)) x9 (IntKind.u64.wrap (x10 + 1)) bt163.1 bt163.2.1 bt163.2.2.1 bt163.2.2.2.1 bt163.2.2.2.2.1 bt163.2.2.2.2.2.1 bt163.2.2.2.2.2.2.1))) else (some (x9, x10, x142000, x142001, x142002, x142003, x142004, x142005, x142006))))
def slice_Run.j2 : Nat → List Int → Int → Int → Int → Bool → Bool → Int → Int → Int → Int → Bool → Int → Bool → Int → Int → Int → Int → Bool → Int → Option (Int × Int × Bool × Int × Int × Int × Int × Bool × Int)
  | 0, _, _, _, _, _, _, _, _, _, _, _, _, _, _, _, _, _, _, _ => none
  | k + 1, x1, x2, x9, x10, x45, x142000, x142001, x142002, x142003, x142004, x142005, x142006, x154000, x154001, x154002, x154003, x154004, x154005, x154006 => if x45 = true then (some (x9, x10, x142000, x142001, x142002, x142003, x142004, x142005, x142006)) else ((slice_Tick.f x154000 x154001 x154002 x154003 x154004 x154005 x154006).bind fun bt154 => (if bt154.2.2.2.2.2.2.2.1 = true then (slice_Run.l0 k x1 (IntKind.u64.wrap (x2 - 1)) (wrap64 (x9 + 1)) (IntKind.u64.wrap (x10 + 1)) bt154.1 bt154.2.1 bt154.2.2.1 bt154.2.2.2.1 bt154.2.2.2.2.1 bt154.2.2.2.2.2.1 bt154.2.2.2.2.2.2.1) else (slice_Run.l0 k x1 (IntKind.u64.wrap (x2 - 1)) x9 (IntKind.u64.wrap (x10 + 1)) bt154.1 bt154.2.1 bt154.2.2.1 bt154.2.2.2.1 bt154.2.2.2.2.1 bt154.2.2.2.2.2.1 bt154.2.2.2.2.2.2.1)))
end
def slice_Run.f (k : Nat) (a0_0 : Bool) (a0_1 : Int) (a0_2 : Int) (a0_3 : Int) (a0_4 : Int) (a0_5 : Bool) (a0_6 : Int) (l1 : List Int) (a2 : Int) : Option (Int × Int × Bool × Int × Int × Int × Int × Bool × Int) := slice_Run.l0 k l1 a2 0 0 a0_0 a0_1 a0_2 a0_3 a0_4 a0_5 a0_6
theorem slice_Run.mono_l : ∀ k, (∀ y0 y1 y2 y3 y4 y5 y6 y7 y8 y9 y10, LeO (slice_Run.l0 k y0 y1 y2 y3 y4 y5 y6 y7 y8 y9 y10) (slice_Run.l0 (k + 1) y0 y1 y2 y3 y4 y5 y6 y7 y8 y9 y10)) ∧ (∀ y0 y1 y2 y3 y4 y5 y6 y7 y8 y9 y10 y11, LeO (slice_Run.j1 k y0 y1 y2 y3 y4 y5 y6 y7 y8 y9 y10 y11) (slice_Run.j1 (k + 1) y0 y1 y2 y3 y4 y5 y6 y7 y8 y9 y10 y11)) ∧ (∀ y0 y1 y2 y3 y4 y5 y6 y7 y8 y9 y10 y11 y12 y13 y14 y15 y16 y17 y18, LeO (slice_Run.j2 k y0 y1 y2 y3 y4 y5 y6 y7 y8 y9 y10 y11 y12 y13 y14 y15 y16 y17 y18) (slice_Run.j2 (k + 1) y0 y1 y2 y3 y4 y5 y6 y7 y8 y9 y10 y11 y12 y13 y14 y15 y16 y17 y18))
  | 0 => ⟨fun _ _ _ _ _ _ _ _ _ _ _ r h => by simp [slice_Run.l0] at h, fun _ _ _ _ _ _ _ _ _ _ _ _ r h => by simp [slice_Run.j1] at h, fun _ _ _ _ _ _ _ _ _ _ _ _ _ _ _ _ _ _ _ r h => by simp [slice_Run.j2] at h⟩
  | k + 1 => by
    obtain ⟨ih0, ih1, ih2⟩ := slice_Run.mono_l k
    refine ⟨?_, ?_, ?_⟩
    · intro y0 y1 y2 y3 y4 y5 y6 y7 y8 y9 y10
      unfold slice_Run.l0
      repeat' first
      | (with_reducible exact ih0 _ _ _ _ _ _ _ _ _ _ _)
      | (with_reducible exact ih1 _ _ _ _ _ _ _ _ _ _ _ _)
      | (with_reducible exact ih2 _ _ _ _ _ _ _ _ _ _ _ _ _ _ _ _ _ _ _)
      | (with_reducible exact slice_Begin.mono _ _ _ _ _ _ _ _ _)
      | (with_reducible exact LeO.refl _)
      | (with_reducible exact LeO.none _)
      | (with_reducible refine LeO.ite ?_ ?_)
      | (with_reducible refine LeO.bind ?_ (fun _ => ?_))
      | exact ih0 _ _ _ _ _ _ _ _ _ _ _
      | exact ih1 _ _ _ _ _ _ _ _ _ _ _ _
      | exact ih2 _ _ _ _ _ _ _ _ _ _ _ _ _ _ _ _ _ _ _
      | exact slice_Begin.mono _ _ _ _ _ _ _ _ _
      | exact LeO.none _
      | refine LeO.ite ?_ ?_
      | refine LeO.bind ?_ (fun _ => ?_)
    · intro y0 y1 y2 y3 y4 y5 y6 y7 y8 y9 y10 y11
      unfold slice_Run.j1
      repeat' first
      | (with_reducible exact ih0 _ _ _ _ _ _ _ _ _ _ _)
      | (with_reducible exact ih1 _ _ _ _ _ _ _ _ _ _ _ _)
      | (with_reducible exact ih2 _ _ _ _ _ _ _ _ _ _ _ _ _ _ _ _ _ _ _)
      | (with_reducible exact slice_Begin.mono _ _ _ _ _ _ _ _ _)
      | (with_reducible exact LeO.refl _)
      | (with_reducible exact LeO.none _)
      | (with_reducible refine LeO.ite ?_ ?_)
      | (with_reducible refine LeO.bind ?_ (fun _ => ?_))
      | exact ih0 _ _ _ _ _ _ _ _ _ _ _
      | exact ih1 _ _ _ _ _ _ _ _ _ _ _ _
      | exact ih2 _ _ _ _ _ _ _ _ _ _ _ _ _ _ _ _ _ _ _
      | exact slice_Begin.mono _ _ _ _ _ _ _ _ _
      | exact LeO.none _
      | refine LeO.ite ?_ ?_
      | refine LeO.bind ?_ (fun _ => ?_)
    · intro y0 y1 y2 y3 y4 y5 y6 y7 y8 y9 y10 y11 y12 y13 y14 y15 y16 y17 y18
      unfold slice_Run.j2
      repeat' first
      | (with_reducible exact ih0 _ _ _ _ _ _ _ _ _ _ _)
      | (with_reducible exact ih1 _ _ _ _ _ _ _ _ _ _ _ _)
      | (with_reducible exact ih2 _ _ _ _ _ _ _ _ _ _ _ _ _ _ _ _ _ _ _)
      | (with_reducible exact slice_Begin.mono _ _ _ _ _ _ _ _ _)
      | (with_reducible exact LeO.refl _)
      | (with_reducible exact LeO.none _)
      | (with_reducible refine LeO.ite ?_ ?_)
      | (with_reducible refine LeO.bind ?_ (fun _ => ?_))
      | exact ih0 _ _ _ _ _ _ _ _ _ _ _
      | exact ih1 _ _ _ _ _ _ _ _ _ _ _ _
      | exact ih2 _ _ _ _ _ _ _ _ _ _ _ _ _ _ _ _ _ _ _
      | exact slice_Begin.mono _ _ _ _ _ _ _ _ _
      | exact LeO.none _
      | refine LeO.ite ?_ ?_
      | refine LeO.bind ?_ (fun _ => ?_)
theorem slice_Run.mono : ∀ a0 a1 a2 a3 a4 a5 a6 a7 a8 k, LeO (slice_Run.f k a0 a1 a2 a3 a4 a5 a6 a7 a8) (slice_Run.f (k + 1) a0 a1 a2 a3 a4 a5 a6 a7 a8) := by
  intro a0 a1 a2 a3 a4 a5 a6 a7 a8 k
  obtain ⟨ih0, ih1, ih2⟩ := slice_Run.mono_l k
  unfold slice_Run.f
  repeat' first
      | (with_reducible exact ih0 _ _ _ _ _ _ _ _ _ _ _)
      | (with_reducible exact ih1 _ _ _ _ _ _ _ _ _ _ _ _)
      | (with_reducible exact ih2 _ _ _ _ _ _ _ _ _ _ _ _ _ _ _ _ _ _ _)
      | (with_reducible exact slice_Begin.mono _ _ _ _ _ _ _ _ _)
      | (with_reducible exact LeO.refl _)
      | (with_reducible exact LeO.none _)
      | (with_reducible refine LeO.ite ?_ ?_)
      | (with_reducible refine LeO.bind ?_ (fun _ => ?_))
      | exact ih0 _ _ _ _ _ _ _ _ _ _ _
      | exact ih1 _ _ _ _ _ _ _ _ _ _ _ _
      | exact ih2 _ _ _ _ _ _ _ _ _ _ _ _ _ _ _ _ _ _ _
      | exact slice_Begin.mono _ _ _ _ _ _ _ _ _
      | exact LeO.none _
      | refine LeO.ite ?_ ?_
      | refine LeO.bind ?_ (fun _ => ?_)
set_option maxHeartbeats 8000000 in
set_option maxRecDepth 100000 in
theorem slice_Run.calls (k : Nat) (a0_0 : Bool) (a0_1 : Int) (a0_2 : Int) (a0_3 : Int) (a0_4 : Int) (a0_5 : Bool) (a0_6 : Int) (A1 : Option Addr) (c1 : Nat) (l1 : List Int) (a2 : Int) (r1 : Int) (r2 : Int) (r3 : Bool) (r4 : Int) (r5 : Int) (r6 : Int) (r7 : Int) (r8 : Bool) (r9 : Int) (w : World) (hr1 : Kd.C (Kd.int .u64) w A1 l1.length l1) (hc1 : l1.length ≤ c1) (h : slice_Run.f k a0_0 a0_1 a0_2 a0_3 a0_4 a0_5 a0_6 l1 a2 = some (r1, r2, r3, r4, r5, r6, r7, r8, r9)) :
    Calls Try.prog 27 #[.agg #[.bool a0_0, .int .i64 a0_1, .int .i64 a0_2, .int .u64 a0_3, .int .u64 a0_4, .bool a0_5, .int .u64 a0_6], .slice A1 l1.length c1, .int .u64 a2] w fun e w' => e = .returned (.tuple #[.int .i64 r1, .int .u64 r2, .agg #[.bool r3, .int .i64 r4, .int .i64 r5, .int .u64 r6, .int .u64 r7, .bool r8, .int .u64 r9]]) ∧ Below w.heap.size w w' := by
  have hu28 := Try.underlying28
  have HR1 := Aside0.mk hr1
  have HC1 := Aside0.mk hc1
  clear hr1 hc1
  have HB := Aside0.mk (Below.refl w.heap.size w)
  have H : (slice_Run.l0 k l1 a2 0 0 a0_0 a0_1 a0_2 a0_3 a0_4 a0_5 a0_6) = some (r1, r2, r3, r4, r5, r6, r7, r8, r9) := h
  clear h
  have H' := Aside0.mk H
  clear H
  go_enter Try.func27, Try.ntmps27
  go_wp2_with (first | ((with_reducible refine gate_dst (N := 3) rfl ?_); refine box_event ?hg (N := 3) ?hd (cs := #[.bool a0_0, .int .i64 a0_1, .int .i64 a0_2, .int .u64 a0_3, .int .u64 a0_4, .bool a0_5, .int .u64 a0_6]) (t := 28) ?hr ?_; (case hd => rfl); (case hg => rfl); (case hr => first | (go_simp; done) | (go_simp; rfl)); intro gb141 hg w4 hbox hb; have n0_ := Aside0.mk (below_step (by repeat (first | (with_reducible first | exact HB.out | apply below_alloc | apply pw_below_drewN | apply below_drew1) | exact HB.out)) hb); have n1_ := Aside0.mk (hbox); have n2_ := Aside0.mk ((by rw [hg]; exact (below_size (by repeat (first | (with_reducible first | exact HB.out | apply below_alloc | apply pw_below_drewN | apply below_drew1) | exact HB.out))) : w.heap.size ≤ gb141)); have n3_ := Aside0.mk ((by rw [hg]; exact (below_size (by repeat (first | (with_reducible first | exact HB.out | apply below_alloc | apply pw_below_drewN | apply below_drew1) | exact HB.out))) : w.heap.size ≤ gb141)); clear HB; have HB := n0_; have BK141 := n1_; have GW141 := n2_; have GE141 := n3_; clear n0_ n1_ n2_ n3_; clear hb hbox hg) | ((with_reducible refine gate_dst (N := 8) rfl ?_); refine box_event ?hg (N := 8) ?hd (cs := #[.bool false, .int .i64 0, .int .i64 0, .int .u64 0, .int .u64 0, .bool false, .int .u64 0]) (t := 28) ?hr ?_; (case hd => rfl); (case hg => rfl); (case hr => first | (go_simp; done) | (go_simp; rfl)); intro gb142 hg w5 hbox hb; have n0_ := Aside0.mk (blk_below (g := gb141) (o := .cells #[.bool a0_0, .int .i64 a0_1, .int .i64 a0_2, .int .u64 a0_3, .int .u64 a0_4, .bool a0_5, .int .u64 a0_6] 28 (0, 0)) (by (with_reducible repeat (first | refine blk_drewN ?_ _ | refine blk_drew ?_ | refine blk_alloc ?_ _)); exact BK141.out) hb); have n1_ := Aside0.mk (below_step (by repeat (first | (with_reducible first | exact HB.out | apply below_alloc | apply pw_below_drewN | apply below_drew1 | refine below_set ?_ GE141.out) | exact HB.out)) hb); have n2_ := Aside0.mk (hbox); have n3_ := Aside0.mk ((by rw [hg]; exact (below_size (by repeat (first | (with_reducible first | exact HB.out | apply below_alloc | apply pw_below_drewN | apply below_drew1 | refine below_set ?_ GE141.out) | exact HB.out))) : w.heap.size ≤ gb142)); have n4_ := Aside0.mk ((by rw [hg]; exact (below_size (by repeat (first | (with_reducible first | exact HB.out | apply below_alloc | apply pw_below_drewN | apply below_drew1 | refine below_set ?_ GE141.out) | exact HB.out))) : w.heap.size ≤ gb142)); have n5_ := Aside0.mk ((by rw [hg]; exact Nat.ne_of_lt (blk_lt (g := gb141) (o := .cells #[.bool a0_0, .int .i64 a0_1, .int .i64 a0_2, .int .u64 a0_3, .int .u64 a0_4, .bool a0_5, .int .u64 a0_6] 28 (0, 0)) (by (with_reducible repeat (first | refine blk_drewN ?_ _ | refine blk_drew ?_ | refine blk_alloc ?_ _)); exact BK141.out)) : gb141 ≠ gb142)); have n6_ := Aside0.mk ((by rw [hg]; exact Nat.ne_of_gt (blk_lt (g := gb141) (o := .cells #[.bool a0_0, .int .i64 a0_1, .int .i64 a0_2, .int .u64 a0_3, .int .u64 a0_4, .bool a0_5, .int .u64 a0_6] 28 (0, 0)) (by (with_reducible repeat (first | refine blk_drewN ?_ _ | refine blk_drew ?_ | refine blk_alloc ?_ _)); exact BK141.out)) : gb142 ≠ gb141)); clear BK141; clear HB; have BK141 := n0_; have HB := n1_; have BK142 := n2_; have GW142 := n3_; have GE142 := n4_; have NB141_142 := n5_; have NB142_141 := n6_; clear n0_ n1_ n2_ n3_ n4_ n5_ n6_; clear hb hbox hg))
  go_loopg [2, 9, 10] k (fun kq v2 v9 v10 w' => ∃ (x2_1 : Int) (x9_1 : Int) (x10_1 : Int) (x142000_1 : Bool) (x142001_1 : Int) (x142002_1 : Int) (x142003_1 : Int) (x142004_1 : Int) (x142005_1 : Bool) (x142006_1 : Int), v2 = .int .u64 x2_1 ∧ v9 = .int .i64 x9_1 ∧ v10 = .int .u64 x10_1 ∧ Aside0 (slice_Run.l0 kq l1 x2_1 x9_1 x10_1 x142000_1 x142001_1 x142002_1 x142003_1 x142004_1 x142005_1 x142006_1 = some (r1, r2, r3, r4, r5, r6, r7, r8, r9)) ∧ Aside0 (kq ≤ k) ∧ Aside0 (w'.heap[gb141]? = some (.cells #[.bool x142000_1, .int .i64 x142001_1, .int .i64 x142002_1, .int .u64 x142003_1, .int .u64 x142004_1, .bool x142005_1, .int .u64 x142006_1] 28 (0, 0))) ∧ Aside0 (w'.heap[gb142]? = some (.cells #[.bool false, .int .i64 0, .int .i64 0, .int .u64 0, .int .u64 0, .bool false, .int .u64 0] 28 (0, 0))) ∧ Aside0 (Below w.heap.size w w'))
  case atStart => exact ⟨(a2), (0), (0), (a0_0), (a0_1), (a0_2), (a0_3), (a0_4), (a0_5), (a0_6), (by first | rfl | (simp; done) | (simp [*]; done)), (by first | rfl | (simp; done) | (simp [*]; done)), (by first | rfl | (simp; done) | (simp [*]; done)), H', ⟨Nat.le_refl _⟩, ⟨by (with_reducible repeat (first | refine blk_drewN ?_ _ | refine blk_drew ?_ | refine blk_alloc ?_ _)); exact BK141.out⟩, ⟨by (with_reducible repeat (first | refine blk_drewN ?_ _ | refine blk_drew ?_ | refine blk_alloc ?_ _)); exact BK142.out⟩, ⟨by repeat (first | (with_reducible first | exact HB.out | apply below_alloc | apply pw_below_drewN | apply below_drew1 | refine below_set ?_ GE141.out | refine below_set ?_ GE142.out) | exact HB.out)⟩⟩
  case round =>
    clear H'
    try clear c1
    try clear c2
    try clear p2
    obtain ⟨x2_1, x9_1, x10_1, x142000_1, x142001_1, x142002_1, x142003_1, x142004_1, x142005_1, x142006_1, rfl, rfl, rfl, HA, HK1, BK141, BK142, HB⟩ := hrel
    cases gk with
    | zero => exact absurd HA.out (by simp [slice_Run.l0])
    | succ k1 =>
      have H := HA.out
      clear HA
      simp only [slice_Run.l0] at H
      by_cases c6 : x2_1 > 0
      · rw [if_pos c6] at H
        have c6b0 : decide (0 < x2_1) = true := decide_eq_true c6
        clear c6
        have HC7 := Aside0.mk H
        clear H
        go_upto_if 21 with (fail)
        go_cut [11] (fun v11 wc => ∃ (kq : Nat) (x11_6 : Int), v11 = .int .u64 x11_6 ∧ Aside0 (slice_Run.j1 kq l1 x2_1 x9_1 x10_1 x11_6 x142000_1 x142001_1 x142002_1 x142003_1 x142004_1 x142005_1 x142006_1 = some (r1, r2, r3, r4, r5, r6, r7, r8, r9)) ∧ Aside0 (kq ≤ k1) ∧ Aside0 (wc.heap[gb141]? = some (.cells #[.bool x142000_1, .int .i64 x142001_1, .int .i64 x142002_1, .int .u64 x142003_1, .int .u64 x142004_1, .bool x142005_1, .int .u64 x142006_1] 28 (0, 0))) ∧ Aside0 (wc.heap[gb142]? = some (.cells #[.bool false, .int .i64 0, .int .i64 0, .int .u64 0, .int .u64 0, .bool false, .int .u64 0] 28 (0, 0))) ∧ Aside0 (Below w.heap.size w wc))
        case first =>
          have H := HC7.out
          clear HC7
          by_cases c8 : x9_1 < (l1.length : Int)
          · rw [if_pos c8] at H
            have c8b0 : decide (x9_1 < (l1.length : Int)) = true := decide_eq_true c8
            clear c8
            (first | rw [c8b0] | (simp only [i64_w, i32_w]; rw [c8b0]) | skip)
            by_cases c9 : 0 ≤ x9_1
            · rw [if_pos c9] at H
              have c9b0 : decide (0 ≤ x9_1) = true := decide_eq_true c9
              clear c9
              have H' := Aside0.mk H
              clear H
              have p143 : 0 ≤ (x9_1 : Int) := of_decide_eq_true (by first | (with_reducible assumption) | assumption)
              have q143 : x9_1 < (l1.length : Int) := of_decide_eq_true (by first | (with_reducible assumption) | assumption)
              obtain ⟨ad143, e143, hx143_0⟩ := Kd.at_int HR1.out x9_1 p143 q143
              cases e143
              replace hx143_0 := (HB.out.cell (World.block_lt_of_cell? w _ hx143_0)).trans hx143_0
              replace p143 := eq_true p143
              replace q143 := eq_true q143
              go_wp2
              go_meet
              case rel => exact ⟨_, (rd l1 x9_1), (by first | rfl | (simp; done) | (simp [*]; done)), H', ⟨by have := HK1.out; first | omega | exact Nat.le_refl _⟩, ⟨by (with_reducible repeat (first | refine blk_drewN ?_ _ | refine blk_drew ?_ | refine blk_alloc ?_ _)); exact BK141.out⟩, ⟨by (with_reducible repeat (first | refine blk_drewN ?_ _ | refine blk_drew ?_ | refine blk_alloc ?_ _)); exact BK142.out⟩, ⟨by repeat (first | (with_reducible first | exact HB.out | apply below_alloc | apply pw_below_drewN | apply below_drew1 | refine below_set ?_ GE141.out | refine below_set ?_ GE142.out) | exact HB.out)⟩⟩
            · rw [if_neg c9] at H
              exact absurd H (by simp)
          · rw [if_neg c8] at H
            have c8b0 : decide (x9_1 < (l1.length : Int)) = false := decide_eq_false c8
            clear c8
            (first | rw [c8b0] | (simp only [i64_w, i32_w]; rw [c8b0]) | skip)
            have H' := Aside0.mk H
            clear H
            go_wp2
            go_meet
            case rel => exact ⟨_, (0), (by first | rfl | (simp; done) | (simp [*]; done)), H', ⟨by have := HK1.out; first | omega | exact Nat.le_refl _⟩, ⟨by (with_reducible repeat (first | refine blk_drewN ?_ _ | refine blk_drew ?_ | refine blk_alloc ?_ _)); exact BK141.out⟩, ⟨by (with_reducible repeat (first | refine blk_drewN ?_ _ | refine blk_drew ?_ | refine blk_alloc ?_ _)); exact BK142.out⟩, ⟨by repeat (first | (with_reducible first | exact HB.out | apply below_alloc | apply pw_below_drewN | apply below_drew1 | refine below_set ?_ GE141.out | refine below_set ?_ GE142.out) | exact HB.out)⟩⟩
        case rest =>
          clear HC7
          try clear c1
          try clear p1
          try clear q1
          try clear hx1
          try clear c2
          try clear p2
          try clear c6
          try clear c6b0
          try clear c8
          try clear c8b0
          try clear c9
          try clear c9b0
          try clear hx143_0
          try clear p143
          try clear p2
          try clear q143
          obtain ⟨kq, x11_6, rfl, HA, HJ6, BK141, BK142, HB⟩ := hcut
          cases kq with
          | zero => exact absurd HA.out (by simp [slice_Run.j1])
          | succ kj6 =>
            have H := HA.out
            clear HA
            simp only [slice_Run.j1] at H
            replace H := Option.bind_eq_some_iff.mp H
            obtain ⟨t144, A100, H⟩ := H
            replace H : (if t144 = 5 then ((slice_Begin.f kj6 x142000_1 x142001_1 x142002_1 x142003_1 x142004_1 x142005_1 x142006_1 x11_6).bind fun bt145 => (if x9_1 ≥ (l1.length : Int) then (slice_Run.j2 kj6 l1 x2_1 x9_1 x10_1 true x142000_1 x142001_1 x142002_1 x142003_1 x142004_1 x142005_1 x142006_1 bt145.1 bt145.2.1 bt145.2.2.1 bt145.2.2.2.1 bt145.2.2.2.2.1 bt145.2.2.2.2.2.1 bt145.2.2.2.2.2.2.1) else (slice_Run.j2 kj6 l1 x2_1 x9_1 x10_1 (bt145.2.2.2.2.2.2.2 != 0) x142000_1 x142001_1 x142002_1 x142003_1 x142004_1 x142005_1 x142006_1 bt145.1 bt145.2.1 bt145.2.2.1 bt145.2.2.2.1 bt145.2.2.2.2.1 bt145.2.2.2.2.2.1 bt145.2.2.2.2.2.2.1))) else (if t144 = 2 then ((slice_Tick.f x142000_1 x142001_1 x142002_1 x142003_1 x142004_1 x142005_1 x142006_1).bind fun bt163 => (if bt163.2.2.2.2.2.2.2.1 = true then (slice_Run.l0 kj6 l1 (IntKind.u64.wrap (x2_1 - 1)) (wrap64 (x9_1 + 1)) (IntKind.u64.wrap (x10_1 + 1)) bt163.1 bt163.2.1 bt163.2.2.1 bt163.2.2.2.1 bt163.2.2.2.2.1 bt163.2.2.2.2.2.1 bt163.2.2.2.2.2.2.1) else (slice_Run.l0 kj6 l1 (IntKind.u64.wrap (x2_1 - 1)) x9_1 (IntKind.u64.wrap (x10_1 + 1)) bt163.1 bt163.2.1 bt163.2.2.1 bt163.2.2.2.1 bt163.2.2.2.2.1 bt163.2.2.2.2.2.1 bt163.2.2.2.2.2.2.1))) else (some (x9_1, x10_1, x142000_1, x142001_1, x142002_1, x142003_1, x142004_1, x142005_1, x142006_1)))) = some (r1, r2, r3, r4, r5, r6, r7, r8, r9) := H
            have A10 := Aside0.mk A100
            clear A100
            by_cases c11 : t144 = 5
            · rw [if_pos c11] at H
              have c11b0 : (t144 == 5) = true := beq_iff_eq.mpr c11
              have c11b1 : (t144 != 5) = false := bne_eq_false_iff_eq.mpr c11
              clear c11
              replace H := Option.bind_eq_some_iff.mp H
              obtain ⟨⟨t145, t146, t147, t148, t149, t150, t151, t152⟩, A120, H⟩ := H
              replace H : (if x9_1 ≥ (l1.length : Int) then (slice_Run.j2 kj6 l1 x2_1 x9_1 x10_1 true x142000_1 x142001_1 x142002_1 x142003_1 x142004_1 x142005_1 x142006_1 t145 t146 t147 t148 t149 t150 t151) else (slice_Run.j2 kj6 l1 x2_1 x9_1 x10_1 (t152 != 0) x142000_1 x142001_1 x142002_1 x142003_1 x142004_1 x142005_1 x142006_1 t145 t146 t147 t148 t149 t150 t151)) = some (r1, r2, r3, r4, r5, r6, r7, r8, r9) := H
              have A12 := Aside0.mk A120
              clear A120
              have HC13 := Aside0.mk H
              clear H
              have hnb14 := NB141_142.out
              have hnc14 := NB142_141.out
              have hcz15_0 : wc.cell? ⟨gb141, 0, none⟩ = some (.bool x142000_1) := (blk_cell BK141.out 0).trans rfl
              have hcz15_1 : wc.cell? ⟨gb141, 1, none⟩ = some (.int .i64 x142001_1) := (blk_cell BK141.out 1).trans rfl
              have hcz15_2 : wc.cell? ⟨gb141, 2, none⟩ = some (.int .i64 x142002_1) := (blk_cell BK141.out 2).trans rfl
              have hcz15_3 : wc.cell? ⟨gb141, 3, none⟩ = some (.int .u64 x142003_1) := (blk_cell BK141.out 3).trans rfl
              have hcz15_4 : wc.cell? ⟨gb141, 4, none⟩ = some (.int .u64 x142004_1) := (blk_cell BK141.out 4).trans rfl
              have hcz15_5 : wc.cell? ⟨gb141, 5, none⟩ = some (.bool x142005_1) := (blk_cell BK141.out 5).trans rfl
              have hcz15_6 : wc.cell? ⟨gb141, 6, none⟩ = some (.int .u64 x142006_1) := (blk_cell BK141.out 6).trans rfl
              have hfz15_0 := blk_frozen BK141.out 0
              have hfz15_1 := blk_frozen BK141.out 1
              have hfz15_2 := blk_frozen BK141.out 2
              have hfz15_3 := blk_frozen BK141.out 3
              have hfz15_4 := blk_frozen BK141.out 4
              have hfz15_5 := blk_frozen BK141.out 5
              have hfz15_6 := blk_frozen BK141.out 6
              go_upto_region 9 with (first | ((with_reducible refine gate_callee (f := 24) rfl ?_); refine goesL_ (some 29) rfl rfl Try.func24 (by kernel_rfl) rfl #[.agg #[.bool x142000_1, .int .i64 x142001_1, .int .i64 x142002_1, .int .u64 x142003_1, .int .u64 x142004_1, .bool x142005_1, .int .u64 x142006_1], .int .u64 x11_6, .int .u64 x2_1] rfl (by (try simp only [List.map_toArray, List.map_cons, List.map_nil]); first | done | rfl | (simp only [List.length_drop, List.length_take]; rfl)) ?_; (with_reducible refine (slice_Decide.calls x142000_1 x142001_1 x142002_1 x142003_1 x142004_1 x142005_1 x142006_1 x11_6 x2_1 t144 _ A10.out).mono ?_); rintro e w16 ⟨rfl, hb⟩; refine ⟨_, rfl, ?_⟩; have n0_ := Aside0.mk (blk_below (g := gb141) (o := .cells #[.bool x142000_1, .int .i64 x142001_1, .int .i64 x142002_1, .int .u64 x142003_1, .int .u64 x142004_1, .bool x142005_1, .int .u64 x142006_1] 28 (0, 0)) (by (with_reducible repeat (first | refine blk_drewN ?_ _ | refine blk_drew ?_ | refine blk_alloc ?_ _)); exact BK141.out) hb); have n1_ := Aside0.mk (blk_below (g := gb142) (o := .cells #[.bool false, .int .i64 0, .int .i64 0, .int .u64 0, .int .u64 0, .bool false, .int .u64 0] 28 (0, 0)) (by (with_reducible repeat (first | refine blk_drewN ?_ _ | refine blk_drew ?_ | refine blk_alloc ?_ _)); exact BK142.out) hb); have n2_ := Aside0.mk (below_step (by repeat (first | (with_reducible first | exact HB.out | apply below_alloc | apply pw_below_drewN | apply below_drew1 | refine below_set ?_ GE141.out | refine below_set ?_ GE142.out) | exact HB.out)) hb); clear BK141; clear BK142; clear HB; have BK141 := n0_; have BK142 := n1_; have HB := n2_; clear n0_ n1_ n2_; (try clear hb); (try clear hb2); (try clear hk); (try clear hi); have hcz17_0 : w16.cell? ⟨gb141, 0, none⟩ = some (.bool x142000_1) := (blk_cell BK141.out 0).trans rfl; have hcz17_1 : w16.cell? ⟨gb141, 1, none⟩ = some (.int .i64 x142001_1) := (blk_cell BK141.out 1).trans rfl; have hcz17_2 : w16.cell? ⟨gb141, 2, none⟩ = some (.int .i64 x142002_1) := (blk_cell BK141.out 2).trans rfl; have hcz17_3 : w16.cell? ⟨gb141, 3, none⟩ = some (.int .u64 x142003_1) := (blk_cell BK141.out 3).trans rfl; have hcz17_4 : w16.cell? ⟨gb141, 4, none⟩ = some (.int .u64 x142004_1) := (blk_cell BK141.out 4).trans rfl; have hcz17_5 : w16.cell? ⟨gb141, 5, none⟩ = some (.bool x142005_1) := (blk_cell BK141.out 5).trans rfl; have hcz17_6 : w16.cell? ⟨gb141, 6, none⟩ = some (.int .u64 x142006_1) := (blk_cell BK141.out 6).trans rfl; have hfz17_0 := blk_frozen BK141.out 0; have hfz17_1 := blk_frozen BK141.out 1; have hfz17_2 := blk_frozen BK141.out 2; have hfz17_3 := blk_frozen BK141.out 3; have hfz17_4 := blk_frozen BK141.out 4; have hfz17_5 := blk_frozen BK141.out 5; have hfz17_6 := blk_frozen BK141.out 6) | ((with_reducible refine gate_callee (f := 16) rfl ?_); refine goesL_ (some 35) rfl rfl Try.func16 (by kernel_rfl) rfl #[.agg #[.bool x142000_1, .int .i64 x142001_1, .int .i64 x142002_1, .int .u64 x142003_1, .int .u64 x142004_1, .bool x142005_1, .int .u64 x142006_1], .int .u64 x11_6] rfl (by (try simp only [List.map_toArray, List.map_cons, List.map_nil]); first | done | rfl | (simp only [List.length_drop, List.length_take]; rfl)) ?_; (with_reducible refine (slice_Begin.calls kj6 x142000_1 x142001_1 x142002_1 x142003_1 x142004_1 x142005_1 x142006_1 x11_6 t145 t146 t147 t148 t149 t150 t151 t152 _ A12.out).mono ?_); rintro e w18 ⟨rfl, hb⟩; refine ⟨_, rfl, ?_⟩; have n0_ := Aside0.mk (blk_below (g := gb141) (o := .cells #[.bool x142000_1, .int .i64 x142001_1, .int .i64 x142002_1, .int .u64 x142003_1, .int .u64 x142004_1, .bool x142005_1, .int .u64 x142006_1] 28 (0, 0)) (by (with_reducible repeat (first | refine blk_drewN ?_ _ | refine blk_drew ?_ | refine blk_alloc ?_ _)); exact BK141.out) hb); have n1_ := Aside0.mk (blk_below (g := gb142) (o := .cells #[.bool false, .int .i64 0, .int .i64 0, .int .u64 0, .int .u64 0, .bool false, .int .u64 0] 28 (0, 0)) (by (with_reducible repeat (first | refine blk_drewN ?_ _ | refine blk_drew ?_ | refine blk_alloc ?_ _)); exact BK142.out) hb); have n2_ := Aside0.mk (below_step (by repeat (first | (with_reducible first | exact HB.out | apply below_alloc | apply pw_below_drewN | apply below_drew1 | refine below_set ?_ GE141.out | refine below_set ?_ GE142.out) | exact HB.out)) hb); clear BK141; clear BK142; clear HB; have BK141 := n0_; have BK142 := n1_; have HB := n2_; clear n0_ n1_ n2_; (try clear hb); (try clear hb2); (try clear hk); (try clear hi)) | ((with_reducible refine gate_dst (N := 13) rfl ?_); refine box_event ?hg (N := 13) ?hd (cs := #[.bool false, .int .i64 0, .int .i64 0, .int .u64 0, .int .u64 0, .bool false, .int .u64 0]) (t := 28) ?hr ?_; (case hd => rfl); (case hg => rfl); (case hr => first | (go_simp; done) | (go_simp; rfl)); intro gb153 hg w19 hbox hb; have n0_ := Aside0.mk (blk_below (g := gb141) (o := .cells #[.bool x142000_1, .int .i64 x142001_1, .int .i64 x142002_1, .int .u64 x142003_1, .int .u64 x142004_1, .bool x142005_1, .int .u64 x142006_1] 28 (0, 0)) (by (with_reducible repeat (first | refine blk_drewN ?_ _ | refine blk_drew ?_ | refine blk_alloc ?_ _)); exact BK141.out) hb); have n1_ := Aside0.mk (blk_below (g := gb142) (o := .cells #[.bool false, .int .i64 0, .int .i64 0, .int .u64 0, .int .u64 0, .bool false, .int .u64 0] 28 (0, 0)) (by (with_reducible repeat (first | refine blk_drewN ?_ _ | refine blk_drew ?_ | refine blk_alloc ?_ _)); exact BK142.out) hb); have n2_ := Aside0.mk (below_step (by repeat (first | (with_reducible first | exact HB.out | apply below_alloc | apply pw_below_drewN | apply below_drew1 | refine below_set ?_ GE141.out | refine below_set ?_ GE142.out) | exact HB.out)) hb); have n3_ := Aside0.mk (hbox); have n4_ := Aside0.mk ((by rw [hg]; exact (below_size (by repeat (first | (with_reducible first | exact HB.out | apply below_alloc | apply pw_below_drewN | apply below_drew1 | refine below_set ?_ GE141.out | refine below_set ?_ GE142.out) | exact HB.out))) : w.heap.size ≤ gb153)); have n5_ := Aside0.mk ((by rw [hg]; exact (below_size (by repeat (first | (with_reducible first | exact HB.out | apply below_alloc | apply pw_below_drewN | apply below_drew1 | refine below_set ?_ GE141.out | refine below_set ?_ GE142.out) | exact HB.out))) : w.heap.size ≤ gb153)); have n6_ := Aside0.mk ((by rw [hg]; exact Nat.ne_of_lt (blk_lt (g := gb141) (o := .cells #[.bool x142000_1, .int .i64 x142001_1, .int .i64 x142002_1, .int .u64 x142003_1, .int .u64 x142004_1, .bool x142005_1, .int .u64 x142006_1] 28 (0, 0)) (by (with_reducible repeat (first | refine blk_drewN ?_ _ | refine blk_drew ?_ | refine blk_alloc ?_ _)); exact BK141.out)) : gb141 ≠ gb153)); have n7_ := Aside0.mk ((by rw [hg]; exact Nat.ne_of_gt (blk_lt (g := gb141) (o := .cells #[.bool x142000_1, .int .i64 x142001_1, .int .i64 x142002_1, .int .u64 x142003_1, .int .u64 x142004_1, .bool x142005_1, .int .u64 x142006_1] 28 (0, 0)) (by (with_reducible repeat (first | refine blk_drewN ?_ _ | refine blk_drew ?_ | refine blk_alloc ?_ _)); exact BK141.out)) : gb153 ≠ gb141)); have n8_ := Aside0.mk ((by rw [hg]; exact Nat.ne_of_lt (blk_lt (g := gb142) (o := .cells #[.bool false, .int .i64 0, .int .i64 0, .int .u64 0, .int .u64 0, .bool false, .int .u64 0] 28 (0, 0)) (by (with_reducible repeat (first | refine blk_drewN ?_ _ | refine blk_drew ?_ | refine blk_alloc ?_ _)); exact BK142.out)) : gb142 ≠ gb153)); have n9_ := Aside0.mk ((by rw [hg]; exact Nat.ne_of_gt (blk_lt (g := gb142) (o := .cells #[.bool false, .int .i64 0, .int .i64 0, .int .u64 0, .int .u64 0, .bool false, .int .u64 0] 28 (0, 0)) (by (with_reducible repeat (first | refine blk_drewN ?_ _ | refine blk_drew ?_ | refine blk_alloc ?_ _)); exact BK142.out)) : gb153 ≠ gb142)); clear BK141; clear BK142; clear HB; have BK141 := n0_; have BK142 := n1_; have HB := n2_; have BK153 := n3_; have GW153 := n4_; have GE153 := n5_; have NB141_153 := n6_; have NB153_141 := n7_; have NB142_153 := n8_; have NB153_142 := n9_; clear n0_ n1_ n2_ n3_ n4_ n5_ n6_ n7_ n8_ n9_; clear hb hbox hg; have hnb20 := NB153_141.out; have hnc20 := NB141_153.out; have hnb21 := NB153_142.out; have hnc21 := NB142_153.out; have hcz22_0 : w19.cell? ⟨gb153, 0, none⟩ = some (.bool false) := (blk_cell BK153.out 0).trans rfl; have hcz22_1 : w19.cell? ⟨gb153, 1, none⟩ = some (.int .i64 0) := (blk_cell BK153.out 1).trans rfl; have hcz22_2 : w19.cell? ⟨gb153, 2, none⟩ = some (.int .i64 0) := (blk_cell BK153.out 2).trans rfl; have hcz22_3 : w19.cell? ⟨gb153, 3, none⟩ = some (.int .u64 0) := (blk_cell BK153.out 3).trans rfl; have hcz22_4 : w19.cell? ⟨gb153, 4, none⟩ = some (.int .u64 0) := (blk_cell BK153.out 4).trans rfl; have hcz22_5 : w19.cell? ⟨gb153, 5, none⟩ = some (.bool false) := (blk_cell BK153.out 5).trans rfl; have hcz22_6 : w19.cell? ⟨gb153, 6, none⟩ = some (.int .u64 0) := (blk_cell BK153.out 6).trans rfl; have hfz22_0 := blk_frozen BK153.out 0; have hfz22_1 := blk_frozen BK153.out 1; have hfz22_2 := blk_frozen BK153.out 2; have hfz22_3 := blk_frozen BK153.out 3; have hfz22_4 := blk_frozen BK153.out 4; have hfz22_5 := blk_frozen BK153.out 5; have hfz22_6 := blk_frozen BK153.out 6))
              (try simp only [Act.put, List.setIfInBounds_toArray, List.set_cons_zero, List.set_cons_succ])
              go_cut [45] (fun v45 wc => ∃ (kq : Nat) (x45_12 : Bool), v45 = .bool x45_12 ∧ Aside0 (slice_Run.j2 kq l1 x2_1 x9_1 x10_1 x45_12 x142000_1 x142001_1 x142002_1 x142003_1 x142004_1 x142005_1 x142006_1 t145 t146 t147 t148 t149 t150 t151 = some (r1, r2, r3, r4, r5, r6, r7, r8, r9)) ∧ Aside0 (kq ≤ kj6) ∧ Aside0 (wc.heap[gb141]? = some (.cells #[.bool x142000_1, .int .i64 x142001_1, .int .i64 x142002_1, .int .u64 x142003_1, .int .u64 x142004_1, .bool x142005_1, .int .u64 x142006_1] 28 (0, 0))) ∧ Aside0 (wc.heap[gb142]? = some (.cells #[.bool false, .int .i64 0, .int .i64 0, .int .u64 0, .int .u64 0, .bool false, .int .u64 0] 28 (0, 0))) ∧ Aside0 (wc.heap[gb153]? = some (.cells #[.bool t145, .int .i64 t146, .int .i64 t147, .int .u64 t148, .int .u64 t149, .bool t150, .int .u64 t151] 28 (0, 0))) ∧ Aside0 (Below w.heap.size w wc))
              case first =>
                have H := HC13.out
                clear HC13
                by_cases c23 : x9_1 ≥ (l1.length : Int)
                · rw [if_pos c23] at H
                  have c23b0 : decide ((l1.length : Int) ≤ x9_1) = true := decide_eq_true c23
                  clear c23
                  (first | rw [c23b0] | (simp only [i64_w, i32_w]; rw [c23b0]) | skip)
                  have H' := Aside0.mk H
                  clear H
                  go_wp2
                  go_meet
                  case rel => exact ⟨_, (true), (by first | rfl | (simp; done) | (simp [*]; done)), H', ⟨by have := HK1.out; have := HJ6.out; first | omega | exact Nat.le_refl _⟩, ⟨by (with_reducible repeat (first | refine blk_drewN ?_ _ | refine blk_drew ?_ | refine blk_alloc ?_ _)); refine blk_far ?_ NB141_153.out _; (with_reducible repeat (first | refine blk_drewN ?_ _ | refine blk_drew ?_ | refine blk_alloc ?_ _)); refine blk_far ?_ NB141_153.out _; (with_reducible repeat (first | refine blk_drewN ?_ _ | refine blk_drew ?_ | refine blk_alloc ?_ _)); refine blk_far ?_ NB141_153.out _; (with_reducible repeat (first | refine blk_drewN ?_ _ | refine blk_drew ?_ | refine blk_alloc ?_ _)); refine blk_far ?_ NB141_153.out _; (with_reducible repeat (first | refine blk_drewN ?_ _ | refine blk_drew ?_ | refine blk_alloc ?_ _)); refine blk_far ?_ NB141_153.out _; (with_reducible repeat (first | refine blk_drewN ?_ _ | refine blk_drew ?_ | refine blk_alloc ?_ _)); refine blk_far ?_ NB141_153.out _; (with_reducible repeat (first | refine blk_drewN ?_ _ | refine blk_drew ?_ | refine blk_alloc ?_ _)); refine blk_far ?_ NB141_153.out _; (with_reducible repeat (first | refine blk_drewN ?_ _ | refine blk_drew ?_ | refine blk_alloc ?_ _)); exact BK141.out⟩, ⟨by (with_reducible repeat (first | refine blk_drewN ?_ _ | refine blk_drew ?_ | refine blk_alloc ?_ _)); refine blk_far ?_ NB142_153.out _; (with_reducible repeat (first | refine blk_drewN ?_ _ | refine blk_drew ?_ | refine blk_alloc ?_ _)); refine blk_far ?_ NB142_153.out _; (with_reducible repeat (first | refine blk_drewN ?_ _ | refine blk_drew ?_ | refine blk_alloc ?_ _)); refine blk_far ?_ NB142_153.out _; (with_reducible repeat (first | refine blk_drewN ?_ _ | refine blk_drew ?_ | refine blk_alloc ?_ _)); refine blk_far ?_ NB142_153.out _; (with_reducible repeat (first | refine blk_drewN ?_ _ | refine blk_drew ?_ | refine blk_alloc ?_ _)); refine blk_far ?_ NB142_153.out _; (with_reducible repeat (first | refine blk_drewN ?_ _ | refine blk_drew ?_ | refine blk_alloc ?_ _)); refine blk_far ?_ NB142_153.out _; (with_reducible repeat (first | refine blk_drewN ?_ _ | refine blk_drew ?_ | refine blk_alloc ?_ _)); refine blk_far ?_ NB142_153.out _; (with_reducible repeat (first | refine blk_drewN ?_ _ | refine blk_drew ?_ | refine blk_alloc ?_ _)); exact BK142.out⟩, ⟨by (with_reducible repeat (first | refine blk_drewN ?_ _ | refine blk_drew ?_ | refine blk_alloc ?_ _)); refine blk_put (cs := #[.bool t145, .int .i64 t146, .int .i64 t147, .int .u64 t148, .int .u64 t149, .bool t150, .int .u64 0]) ?_ 6 _ rfl; (with_reducible repeat (first | refine blk_drewN ?_ _ | refine blk_drew ?_ | refine blk_alloc ?_ _)); refine blk_put (cs := #[.bool t145, .int .i64 t146, .int .i64 t147, .int .u64 t148, .int .u64 t149, .bool false, .int .u64 0]) ?_ 5 _ rfl; (with_reducible repeat (first | refine blk_drewN ?_ _ | refine blk_drew ?_ | refine blk_alloc ?_ _)); refine blk_put (cs := #[.bool t145, .int .i64 t146, .int .i64 t147, .int .u64 t148, .int .u64 0, .bool false, .int .u64 0]) ?_ 4 _ rfl; (with_reducible repeat (first | refine blk_drewN ?_ _ | refine blk_drew ?_ | refine blk_alloc ?_ _)); refine blk_put (cs := #[.bool t145, .int .i64 t146, .int .i64 t147, .int .u64 0, .int .u64 0, .bool false, .int .u64 0]) ?_ 3 _ rfl; (with_reducible repeat (first | refine blk_drewN ?_ _ | refine blk_drew ?_ | refine blk_alloc ?_ _)); refine blk_put (cs := #[.bool t145, .int .i64 t146, .int .i64 0, .int .u64 0, .int .u64 0, .bool false, .int .u64 0]) ?_ 2 _ rfl; (with_reducible repeat (first | refine blk_drewN ?_ _ | refine blk_drew ?_ | refine blk_alloc ?_ _)); refine blk_put (cs := #[.bool t145, .int .i64 0, .int .i64 0, .int .u64 0, .int .u64 0, .bool false, .int .u64 0]) ?_ 1 _ rfl; (with_reducible repeat (first | refine blk_drewN ?_ _ | refine blk_drew ?_ | refine blk_alloc ?_ _)); refine blk_put (cs := #[.bool false, .int .i64 0, .int .i64 0, .int .u64 0, .int .u64 0, .bool false, .int .u64 0]) ?_ 0 _ rfl; (with_reducible repeat (first | refine blk_drewN ?_ _ | refine blk_drew ?_ | refine blk_alloc ?_ _)); exact BK153.out⟩, ⟨by repeat (first | (with_reducible first | exact HB.out | apply below_alloc | apply pw_below_drewN | apply below_drew1 | refine below_set ?_ GE141.out | refine below_set ?_ GE142.out | refine below_set ?_ GE153.out) | exact HB.out)⟩⟩
                · rw [if_neg c23] at H
                  have c23b0 : decide ((l1.length : Int) ≤ x9_1) = false := decide_eq_false c23
                  clear c23
                  (first | rw [c23b0] | (simp only [i64_w, i32_w]; rw [c23b0]) | skip)
                  have H' := Aside0.mk H
                  clear H
                  go_wp2
                  go_meet
                  case rel => exact ⟨_, ((t152 != 0)), (by first | rfl | (simp; done) | (simp [*]; done)), H', ⟨by have := HK1.out; have := HJ6.out; first | omega | exact Nat.le_refl _⟩, ⟨by (with_reducible repeat (first | refine blk_drewN ?_ _ | refine blk_drew ?_ | refine blk_alloc ?_ _)); refine blk_far ?_ NB141_153.out _; (with_reducible repeat (first | refine blk_drewN ?_ _ | refine blk_drew ?_ | refine blk_alloc ?_ _)); refine blk_far ?_ NB141_153.out _; (with_reducible repeat (first | refine blk_drewN ?_ _ | refine blk_drew ?_ | refine blk_alloc ?_ _)); refine blk_far ?_ NB141_153.out _; (with_reducible repeat (first | refine blk_drewN ?_ _ | refine blk_drew ?_ | refine blk_alloc ?_ _)); refine blk_far ?_ NB141_153.out _; (with_reducible repeat (first | refine blk_drewN ?_ _ | refine blk_drew ?_ | refine blk_alloc ?_ _)); refine blk_far ?_ NB141_153.out _; (with_reducible repeat (first | refine blk_drewN ?_ _ | refine blk_drew ?_ | refine blk_alloc ?_ _)); refine blk_far ?_ NB141_153.out _; (with_reducible repeat (first | refine blk_drewN ?_ _ | refine blk_drew ?_ | refine blk_alloc ?_ _)); refine blk_far ?_ NB141_153.out _; (with_reducible repeat (first | refine blk_drewN ?_ _ | refine blk_drew ?_ | refine blk_alloc ?_ _)); exact BK141.out⟩, ⟨by (with_reducible repeat (first | refine blk_drewN ?_ _ | refine blk_drew ?_ | refine blk_alloc ?_ _)); refine blk_far ?_ NB142_153.out _; (with_reducible repeat (first | refine blk_drewN ?_ _ | refine blk_drew ?_ | refine blk_alloc ?_ _)); refine blk_far ?_ NB142_153.out _; (with_reducible repeat (first | refine blk_drewN ?_ _ | refine blk_drew ?_ | refine blk_alloc ?_ _)); refine blk_far ?_ NB142_153.out _; (with_reducible repeat (first | refine blk_drewN ?_ _ | refine blk_drew ?_ | refine blk_alloc ?_ _)); refine blk_far ?_ NB142_153.out _; (with_reducible repeat (first | refine blk_drewN ?_ _ | refine blk_drew ?_ | refine blk_alloc ?_ _)); refine blk_far ?_ NB142_153.out _; (with_reducible repeat (first | refine blk_drewN ?_ _ | refine blk_drew ?_ | refine blk_alloc ?_ _)); refine blk_far ?_ NB142_153.out _; (with_reducible repeat (first | refine blk_drewN ?_ _ | refine blk_drew ?_ | refine blk_alloc ?_ _)); refine blk_far ?_ NB142_153.out _; (with_reducible repeat (first | refine blk_drewN ?_ _ | refine blk_drew ?_ | refine blk_alloc ?_ _)); exact BK142.out⟩, ⟨by (with_reducible repeat (first | refine blk_drewN ?_ _ | refine blk_drew ?_ | refine blk_alloc ?_ _)); refine blk_put (cs := #[.bool t145, .int .i64 t146, .int .i64 t147, .int .u64 t148, .int .u64 t149, .bool t150, .int .u64 0]) ?_ 6 _ rfl; (with_reducible repeat (first | refine blk_drewN ?_ _ | refine blk_drew ?_ | refine blk_alloc ?_ _)); refine blk_put (cs := #[.bool t145, .int .i64 t146, .int .i64 t147, .int .u64 t148, .int .u64 t149, .bool false, .int .u64 0]) ?_ 5 _ rfl; (with_reducible repeat (first | refine blk_drewN ?_ _ | refine blk_drew ?_ | refine blk_alloc ?_ _)); refine blk_put (cs := #[.bool t145, .int .i64 t146, .int .i64 t147, .int .u64 t148, .int .u64 0, .bool false, .int .u64 0]) ?_ 4 _ rfl; (with_reducible repeat (first | refine blk_drewN ?_ _ | refine blk_drew ?_ | refine blk_alloc ?_ _)); refine blk_put (cs := #[.bool t145, .int .i64 t146, .int .i64 t147, .int .u64 0, .int .u64 0, .bool false, .int .u64 0]) ?_ 3 _ rfl; (with_reducible repeat (first | refine blk_drewN ?_ _ | refine blk_drew ?_ | refine blk_alloc ?_ _)); refine blk_put (cs := #[.bool t145, .int .i64 t146, .int .i64 0, .int .u64 0, .int .u64 0, .bool false, .int .u64 0]) ?_ 2 _ rfl; (with_reducible repeat (first | refine blk_drewN ?_ _ | refine blk_drew ?_ | refine blk_alloc ?_ _)); refine blk_put (cs := #[.bool t145, .int .i64 0, .int .i64 0, .int .u64 0, .int .u64 0, .bool false, .int .u64 0]) ?_ 1 _ rfl; (with_reducible repeat (first | refine blk_drewN ?_ _ | refine blk_drew ?_ | refine blk_alloc ?_ _)); refine blk_put (cs := #[.bool false, .int .i64 0, .int .i64 0, .int .u64 0, .int .u64 0, .bool false, .int .u64 0]) ?_ 0 _ rfl; (with_reducible repeat (first | refine blk_drewN ?_ _ | refine blk_drew ?_ | refine blk_alloc ?_ _)); exact BK153.out⟩, ⟨by repeat (first | (with_reducible first | exact HB.out | apply below_alloc | apply pw_below_drewN | apply below_drew1 | refine below_set ?_ GE141.out | refine below_set ?_ GE142.out | refine below_set ?_ GE153.out) | exact HB.out)⟩⟩
              case rest =>
                clear HC13
                try clear c1
                try clear p1
                try clear q1
                try clear hx1
                try clear c2
                try clear p2
                try clear c6
                try clear c6b0
                try clear p6
                try clear c8
                try clear c8b0
                try clear c9
                try clear c9b0
                try clear c11
                try clear c11b0
                try clear c11b1
                try clear c14
                try clear p14
                try clear q14
                try clear hx14
                try clear c16
                try clear c20
                try clear c21
                try clear c23
                try clear c23b0
                try clear hcz15_0
                try clear hcz15_1
                try clear hcz15_2
                try clear hcz15_3
                try clear hcz15_4
                try clear hcz15_5
                try clear hcz15_6
                try clear hcz17_0
                try clear hcz17_1
                try clear hcz17_2
                try clear hcz17_3
                try clear hcz17_4
                try clear hcz17_5
                try clear hcz17_6
                try clear hcz22_0
                try clear hcz22_1
                try clear hcz22_2
                try clear hcz22_3
                try clear hcz22_4
                try clear hcz22_5
                try clear hcz22_6
                try clear hfz15_0
                try clear hfz15_1
                try clear hfz15_2
                try clear hfz15_3
                try clear hfz15_4
                try clear hfz15_5
                try clear hfz15_6
                try clear hfz17_0
                try clear hfz17_1
                try clear hfz17_2
                try clear hfz17_3
                try clear hfz17_4
                try clear hfz17_5
                try clear hfz17_6
                try clear hfz22_0
                try clear hfz22_1
                try clear hfz22_2
                try clear hfz22_3
                try clear hfz22_4
                try clear hfz22_5
                try clear hfz22_6
                try clear hx143_0
                try clear p1
                try clear p143
                try clear p2
                try clear q1
                try clear q143
                obtain ⟨kq, x45_12, rfl, HA, HJ12, BK141, BK142, BK153, HB⟩ := hcut
                cases kq with
                | zero => exact absurd HA.out (by simp [slice_Run.j2])
                | succ kj12 =>
                  have H := HA.out
                  clear HA
                  simp only [slice_Run.j2] at H
                  by_cases c24 : x45_12 = true
                  · subst c24
                    have H1 : (some (x9_1, x10_1, x142000_1, x142001_1, x142002_1, x142003_1, x142004_1, x142005_1, x142006_1)) = some (r1, r2, r3, r4, r5, r6, r7, r8, r9) := by rw [if_pos rfl] at H; exact H
                    clear H
                    have H := H1
                    clear H1
                    simp only [Option.some.injEq, Prod.mk.injEq] at H
                    obtain ⟨rfl, rfl, rfl, rfl, rfl, rfl, rfl, rfl, rfl⟩ := H
                    try go_wp2
                    have n0_ := Aside0.mk (blk_drew BK141.out)
                    have n1_ := Aside0.mk (blk_drew BK142.out)
                    have n2_ := Aside0.mk (blk_drew BK153.out)
                    have n3_ := Aside0.mk (below_drew1 HB.out)
                    clear BK141
                    clear BK142
                    clear BK153
                    clear HB
                    have BK141 := n0_
                    have BK142 := n1_
                    have BK153 := n2_
                    have HB := n3_
                    clear n0_ n1_ n2_ n3_
                    refine start_ (n := 6) (S := fun w' => w'.cell? ⟨gb141, 0, none⟩ = some (.bool x142000_1) ∧ w'.cell? ⟨gb141, 1, none⟩ = some (.int .i64 x142001_1) ∧ w'.cell? ⟨gb141, 2, none⟩ = some (.int .i64 x142002_1) ∧ w'.cell? ⟨gb141, 3, none⟩ = some (.int .u64 x142003_1) ∧ w'.cell? ⟨gb141, 4, none⟩ = some (.int .u64 x142004_1) ∧ w'.cell? ⟨gb141, 5, none⟩ = some (.bool x142005_1) ∧ w'.cell? ⟨gb141, 6, none⟩ = some (.int .u64 x142006_1)) (ds := []) #[false, false, false, false, false, false] (by kernel_rfl) rfl rfl ⟨(blk_cell BK141.out 0).trans rfl, (blk_cell BK141.out 1).trans rfl, (blk_cell BK141.out 2).trans rfl, (blk_cell BK141.out 3).trans rfl, (blk_cell BK141.out 4).trans rfl, (blk_cell BK141.out 5).trans rfl, (blk_cell BK141.out 6).trans rfl⟩ (fun hHeld => ?_)
                    generalize wc.drew = w25 at BK141 BK142 BK153 HB hHeld ⊢
                    refine pure_ (i := 0) (N := some 62) (v := ?_) (a' := ?_) #[true, false, false, false, false, false] rfl rfl (by kernel_rfl) (fun _ _ _ h => h) (Or.inl ⟨by rfl, ?_⟩) ?_ ?_
                    rotate_left
                    · intro w'
                      go_simp
                      with_reducible rfl
                    rotate_left
                    · simp only [Act.put, List.setIfInBounds_toArray, List.set_cons_zero, List.set_cons_succ, i64_w, i32_w]
                      rfl
                    refine pure_ (i := 1) (N := some 63) (v := ?_) (a' := ?_) #[true, true, false, false, false, false] rfl rfl (by kernel_rfl) (fun _ _ _ h => h) (Or.inl ⟨by rfl, ?_⟩) ?_ ?_
                    rotate_left
                    · intro w'
                      go_simp
                      with_reducible rfl
                    rotate_left
                    · simp only [Act.put, List.setIfInBounds_toArray, List.set_cons_zero, List.set_cons_succ, i64_w, i32_w]
                      rfl
                    refine pure_ (i := 3) (N := some 6) (v := ?_) (a' := ?_) #[true, true, false, true, false, false] rfl rfl (by kernel_rfl) (fun _ _ _ h => h) (Or.inl ⟨by rfl, ?_⟩) ?_ ?_
                    rotate_left
                    · intro w'
                      go_simp
                      with_reducible rfl
                    rotate_left
                    · simp only [Act.put, List.setIfInBounds_toArray, List.set_cons_zero, List.set_cons_succ, i64_w, i32_w]
                      rfl
                    refine pure_ (i := 4) (N := some 7) (v := ?_) (a' := ?_) #[true, true, false, true, true, false] rfl rfl (by kernel_rfl) (fun _ _ _ h => h) (Or.inl ⟨by rfl, ?_⟩) ?_ ?_
                    rotate_left
                    · intro w'
                      go_simp
                      with_reducible rfl
                    rotate_left
                    · simp only [Act.put, List.setIfInBounds_toArray, List.set_cons_zero, List.set_cons_succ, i64_w, i32_w]
                      rfl
                    refine take_ (i := 2) (N := some 64) (v := ?_) (a' := ?_) #[true, true, true, true, true, false] rfl rfl (by kernel_rfl) (fun _ _ _ h => h) (Or.inl ⟨by rfl, ?_⟩) hHeld ?_ ?_
                    rotate_left
                    · rintro w' ⟨s0, s1, s2, s3, s4, s5, s6⟩
                      go_simp
                      with_reducible rfl
                    rotate_left
                    · simp only [Act.put, List.setIfInBounds_toArray, List.set_cons_zero, List.set_cons_succ, i64_w, i32_w]
                      rfl
                    refine one_ (i := 5) (N := none) #[true, true, true, true, true, true] rfl rfl (by kernel_rfl) (by decide) (fun K hK => ?_)
                    have hs26 : w25.cell? ⟨gb142, 0, none⟩ = some (.bool false) := (blk_cell BK142.out 0).trans rfl
                    have hfs26 := blk_frozen BK142.out 0
                    have hns26_0 := NB141_142.out
                    have hns26_2 := NB153_142.out
                    have hms26_0 := NB142_141.out
                    have hms26_2 := NB142_153.out
                    have hs27 : w25.cell? ⟨gb142, 1, none⟩ = some (.int .i64 0) := (blk_cell BK142.out 1).trans rfl
                    have hfs27 := blk_frozen BK142.out 1
                    have hns27_0 := NB141_142.out
                    have hns27_2 := NB153_142.out
                    have hms27_0 := NB142_141.out
                    have hms27_2 := NB142_153.out
                    have hs28 : w25.cell? ⟨gb142, 2, none⟩ = some (.int .i64 0) := (blk_cell BK142.out 2).trans rfl
                    have hfs28 := blk_frozen BK142.out 2
                    have hns28_0 := NB141_142.out
                    have hns28_2 := NB153_142.out
                    have hms28_0 := NB142_141.out
                    have hms28_2 := NB142_153.out
                    have hs29 : w25.cell? ⟨gb142, 3, none⟩ = some (.int .u64 0) := (blk_cell BK142.out 3).trans rfl
                    have hfs29 := blk_frozen BK142.out 3
                    have hns29_0 := NB141_142.out
                    have hns29_2 := NB153_142.out
                    have hms29_0 := NB142_141.out
                    have hms29_2 := NB142_153.out
                    have hs30 : w25.cell? ⟨gb142, 4, none⟩ = some (.int .u64 0) := (blk_cell BK142.out 4).trans rfl
                    have hfs30 := blk_frozen BK142.out 4
                    have hns30_0 := NB141_142.out
                    have hns30_2 := NB153_142.out
                    have hms30_0 := NB142_141.out
                    have hms30_2 := NB142_153.out
                    have hs31 : w25.cell? ⟨gb142, 5, none⟩ = some (.bool false) := (blk_cell BK142.out 5).trans rfl
                    have hfs31 := blk_frozen BK142.out 5
                    have hns31_0 := NB141_142.out
                    have hns31_2 := NB153_142.out
                    have hms31_0 := NB142_141.out
                    have hms31_2 := NB142_153.out
                    have hs32 : w25.cell? ⟨gb142, 6, none⟩ = some (.int .u64 0) := (blk_cell BK142.out 6).trans rfl
                    have hfs32 := blk_frozen BK142.out 6
                    have hns32_0 := NB141_142.out
                    have hns32_2 := NB153_142.out
                    have hms32_0 := NB142_141.out
                    have hms32_2 := NB142_153.out
                    refine skip_ (w1 := ?_) (by rfl) rfl ?_ ?_
                    rotate_left
                    · go_simp
                      rfl
                    refine hK.out _ _ ⟨((cell_far (p := ⟨gb142, _, none⟩) NB141_142.out _).trans (((cell_far (p := ⟨gb142, _, none⟩) NB141_142.out _).trans (((cell_far (p := ⟨gb142, _, none⟩) NB141_142.out _).trans (((cell_far (p := ⟨gb142, _, none⟩) NB141_142.out _).trans (((cell_far (p := ⟨gb142, _, none⟩) NB141_142.out _).trans (((cell_far (p := ⟨gb142, _, none⟩) NB141_142.out _).trans (((cell_far (p := ⟨gb142, _, none⟩) NB141_142.out _).trans (hHeld.1)))))))))))))), ((cell_far (p := ⟨gb142, _, none⟩) NB141_142.out _).trans (((cell_far (p := ⟨gb142, _, none⟩) NB141_142.out _).trans (((cell_far (p := ⟨gb142, _, none⟩) NB141_142.out _).trans (((cell_far (p := ⟨gb142, _, none⟩) NB141_142.out _).trans (((cell_far (p := ⟨gb142, _, none⟩) NB141_142.out _).trans (((cell_far (p := ⟨gb142, _, none⟩) NB141_142.out _).trans (((cell_far (p := ⟨gb142, _, none⟩) NB141_142.out _).trans (hHeld.2.1)))))))))))))), ((cell_far (p := ⟨gb142, _, none⟩) NB141_142.out _).trans (((cell_far (p := ⟨gb142, _, none⟩) NB141_142.out _).trans (((cell_far (p := ⟨gb142, _, none⟩) NB141_142.out _).trans (((cell_far (p := ⟨gb142, _, none⟩) NB141_142.out _).trans (((cell_far (p := ⟨gb142, _, none⟩) NB141_142.out _).trans (((cell_far (p := ⟨gb142, _, none⟩) NB141_142.out _).trans (((cell_far (p := ⟨gb142, _, none⟩) NB141_142.out _).trans (hHeld.2.2.1)))))))))))))), ((cell_far (p := ⟨gb142, _, none⟩) NB141_142.out _).trans (((cell_far (p := ⟨gb142, _, none⟩) NB141_142.out _).trans (((cell_far (p := ⟨gb142, _, none⟩) NB141_142.out _).trans (((cell_far (p := ⟨gb142, _, none⟩) NB141_142.out _).trans (((cell_far (p := ⟨gb142, _, none⟩) NB141_142.out _).trans (((cell_far (p := ⟨gb142, _, none⟩) NB141_142.out _).trans (((cell_far (p := ⟨gb142, _, none⟩) NB141_142.out _).trans (hHeld.2.2.2.1)))))))))))))), ((cell_far (p := ⟨gb142, _, none⟩) NB141_142.out _).trans (((cell_far (p := ⟨gb142, _, none⟩) NB141_142.out _).trans (((cell_far (p := ⟨gb142, _, none⟩) NB141_142.out _).trans (((cell_far (p := ⟨gb142, _, none⟩) NB141_142.out _).trans (((cell_far (p := ⟨gb142, _, none⟩) NB141_142.out _).trans (((cell_far (p := ⟨gb142, _, none⟩) NB141_142.out _).trans (((cell_far (p := ⟨gb142, _, none⟩) NB141_142.out _).trans (hHeld.2.2.2.2.1)))))))))))))), ((cell_far (p := ⟨gb142, _, none⟩) NB141_142.out _).trans (((cell_far (p := ⟨gb142, _, none⟩) NB141_142.out _).trans (((cell_far (p := ⟨gb142, _, none⟩) NB141_142.out _).trans (((cell_far (p := ⟨gb142, _, none⟩) NB141_142.out _).trans (((cell_far (p := ⟨gb142, _, none⟩) NB141_142.out _).trans (((cell_far (p := ⟨gb142, _, none⟩) NB141_142.out _).trans (((cell_far (p := ⟨gb142, _, none⟩) NB141_142.out _).trans (hHeld.2.2.2.2.2.1)))))))))))))), ((cell_far (p := ⟨gb142, _, none⟩) NB141_142.out _).trans (((cell_far (p := ⟨gb142, _, none⟩) NB141_142.out _).trans (((cell_far (p := ⟨gb142, _, none⟩) NB141_142.out _).trans (((cell_far (p := ⟨gb142, _, none⟩) NB141_142.out _).trans (((cell_far (p := ⟨gb142, _, none⟩) NB141_142.out _).trans (((cell_far (p := ⟨gb142, _, none⟩) NB141_142.out _).trans (((cell_far (p := ⟨gb142, _, none⟩) NB141_142.out _).trans (hHeld.2.2.2.2.2.2))))))))))))))⟩ (fun hHeld => ?_)
                    clear hK K
                    refine done_ (by kernel_rfl) ?_
                    try go_wp2
                    refine bodyPost_ret (results_list (rs := [.tmp 6, .tmp 7, .cell 8 28]) rfl (by simp) (.tmp (.tmp (.cell gb142 28 #[.bool x142000_1, .int .i64 x142001_1, .int .i64 x142002_1, .int .u64 x142003_1, .int .u64 x142004_1, .bool x142005_1, .int .u64 x142006_1] (0, 0) _ rfl (by (with_reducible repeat (first | refine blk_drewN ?_ _ | refine blk_drew ?_ | refine blk_alloc ?_ _)); refine blk_put (cs := #[.bool x142000_1, .int .i64 x142001_1, .int .i64 x142002_1, .int .u64 x142003_1, .int .u64 x142004_1, .bool x142005_1, .int .u64 0]) ?_ 6 _ rfl; (with_reducible repeat (first | refine blk_drewN ?_ _ | refine blk_drew ?_ | refine blk_alloc ?_ _)); refine blk_put (cs := #[.bool x142000_1, .int .i64 x142001_1, .int .i64 x142002_1, .int .u64 x142003_1, .int .u64 x142004_1, .bool false, .int .u64 0]) ?_ 5 _ rfl; (with_reducible repeat (first | refine blk_drewN ?_ _ | refine blk_drew ?_ | refine blk_alloc ?_ _)); refine blk_put (cs := #[.bool x142000_1, .int .i64 x142001_1, .int .i64 x142002_1, .int .u64 x142003_1, .int .u64 0, .bool false, .int .u64 0]) ?_ 4 _ rfl; (with_reducible repeat (first | refine blk_drewN ?_ _ | refine blk_drew ?_ | refine blk_alloc ?_ _)); refine blk_put (cs := #[.bool x142000_1, .int .i64 x142001_1, .int .i64 x142002_1, .int .u64 0, .int .u64 0, .bool false, .int .u64 0]) ?_ 3 _ rfl; (with_reducible repeat (first | refine blk_drewN ?_ _ | refine blk_drew ?_ | refine blk_alloc ?_ _)); refine blk_put (cs := #[.bool x142000_1, .int .i64 x142001_1, .int .i64 0, .int .u64 0, .int .u64 0, .bool false, .int .u64 0]) ?_ 2 _ rfl; (with_reducible repeat (first | refine blk_drewN ?_ _ | refine blk_drew ?_ | refine blk_alloc ?_ _)); refine blk_put (cs := #[.bool x142000_1, .int .i64 0, .int .i64 0, .int .u64 0, .int .u64 0, .bool false, .int .u64 0]) ?_ 1 _ rfl; (with_reducible repeat (first | refine blk_drewN ?_ _ | refine blk_drew ?_ | refine blk_alloc ?_ _)); refine blk_put (cs := #[.bool false, .int .i64 0, .int .i64 0, .int .u64 0, .int .u64 0, .bool false, .int .u64 0]) ?_ 0 _ rfl; (with_reducible repeat (first | refine blk_drewN ?_ _ | refine blk_drew ?_ | refine blk_alloc ?_ _)); exact BK142.out) Try.underlying28 rfl (by kernel_rfl) .nil)))) rfl ?_
                    exact ⟨by first | rfl | (simp [errW_none, errW_some] <;> rfl) | (simp [*, errW_none, errW_some] <;> rfl), by repeat (first | (with_reducible first | exact HB.out | apply below_alloc | apply pw_below_drewN | apply below_drew1 | refine below_set ?_ GE141.out | refine below_set ?_ GE142.out | refine below_set ?_ GE153.out) | exact HB.out)⟩
                  · replace c24 := Bool.eq_false_iff.mpr c24
                    subst c24
                    have H1 : ((slice_Tick.f t145 t146 t147 t148 t149 t150 t151).bind fun bt154 => (if bt154.2.2.2.2.2.2.2.1 = true then (slice_Run.l0 kj12 l1 (IntKind.u64.wrap (x2_1 - 1)) (wrap64 (x9_1 + 1)) (IntKind.u64.wrap (x10_1 + 1)) bt154.1 bt154.2.1 bt154.2.2.1 bt154.2.2.2.1 bt154.2.2.2.2.1 bt154.2.2.2.2.2.1 bt154.2.2.2.2.2.2.1) else (slice_Run.l0 kj12 l1 (IntKind.u64.wrap (x2_1 - 1)) x9_1 (IntKind.u64.wrap (x10_1 + 1)) bt154.1 bt154.2.1 bt154.2.2.1 bt154.2.2.2.1 bt154.2.2.2.2.1 bt154.2.2.2.2.2.1 bt154.2.2.2.2.2.2.1))) = some (r1, r2, r3, r4, r5, r6, r7, r8, r9) := by rw [if_neg (show ¬ (false = true) by decide)] at H; exact H
                    clear H
                    have H := H1
                    clear H1
                    replace H := Option.bind_eq_some_iff.mp H
                    obtain ⟨⟨t154, t155, t156, t157, t158, t159, t160, t161, t162⟩, A330, H⟩ := H
                    replace H : (if t161 = true then (slice_Run.l0 kj12 l1 (IntKind.u64.wrap (x2_1 - 1)) (wrap64 (x9_1 + 1)) (IntKind.u64.wrap (x10_1 + 1)) t154 t155 t156 t157 t158 t159 t160) else (slice_Run.l0 kj12 l1 (IntKind.u64.wrap (x2_1 - 1)) x9_1 (IntKind.u64.wrap (x10_1 + 1)) t154 t155 t156 t157 t158 t159 t160)) = some (r1, r2, r3, r4, r5, r6, r7, r8, r9) := H
                    have A33 := Aside0.mk A330
                    clear A330
                    by_cases c34 : t161 = true
                    · subst c34
                      have H1 : (slice_Run.l0 kj12 l1 (IntKind.u64.wrap (x2_1 - 1)) (wrap64 (x9_1 + 1)) (IntKind.u64.wrap (x10_1 + 1)) t154 t155 t156 t157 t158 t159 t160) = some (r1, r2, r3, r4, r5, r6, r7, r8, r9) := by rw [if_pos rfl] at H; exact H
                      clear H
                      have H := H1
                      clear H1
                      have H' := Aside0.mk H
                      clear H
                      have hnb35 := NB153_141.out
                      have hnc35 := NB141_153.out
                      have hnb36 := NB153_142.out
                      have hnc36 := NB142_153.out
                      have hcz37_0 : wc.cell? ⟨gb153, 0, none⟩ = some (.bool t145) := (blk_cell BK153.out 0).trans rfl
                      have hcz37_1 : wc.cell? ⟨gb153, 1, none⟩ = some (.int .i64 t146) := (blk_cell BK153.out 1).trans rfl
                      have hcz37_2 : wc.cell? ⟨gb153, 2, none⟩ = some (.int .i64 t147) := (blk_cell BK153.out 2).trans rfl
                      have hcz37_3 : wc.cell? ⟨gb153, 3, none⟩ = some (.int .u64 t148) := (blk_cell BK153.out 3).trans rfl
                      have hcz37_4 : wc.cell? ⟨gb153, 4, none⟩ = some (.int .u64 t149) := (blk_cell BK153.out 4).trans rfl
                      have hcz37_5 : wc.cell? ⟨gb153, 5, none⟩ = some (.bool t150) := (blk_cell BK153.out 5).trans rfl
                      have hcz37_6 : wc.cell? ⟨gb153, 6, none⟩ = some (.int .u64 t151) := (blk_cell BK153.out 6).trans rfl
                      have hfz37_0 := blk_frozen BK153.out 0
                      have hfz37_1 := blk_frozen BK153.out 1
                      have hfz37_2 := blk_frozen BK153.out 2
                      have hfz37_3 := blk_frozen BK153.out 3
                      have hfz37_4 := blk_frozen BK153.out 4
                      have hfz37_5 := blk_frozen BK153.out 5
                      have hfz37_6 := blk_frozen BK153.out 6
                      have hnb38 := NB141_142.out
                      have hnc38 := NB142_141.out
                      have hcz39_0 : wc.cell? ⟨gb141, 0, none⟩ = some (.bool x142000_1) := (blk_cell BK141.out 0).trans rfl
                      have hcz39_1 : wc.cell? ⟨gb141, 1, none⟩ = some (.int .i64 x142001_1) := (blk_cell BK141.out 1).trans rfl
                      have hcz39_2 : wc.cell? ⟨gb141, 2, none⟩ = some (.int .i64 x142002_1) := (blk_cell BK141.out 2).trans rfl
                      have hcz39_3 : wc.cell? ⟨gb141, 3, none⟩ = some (.int .u64 x142003_1) := (blk_cell BK141.out 3).trans rfl
                      have hcz39_4 : wc.cell? ⟨gb141, 4, none⟩ = some (.int .u64 x142004_1) := (blk_cell BK141.out 4).trans rfl
                      have hcz39_5 : wc.cell? ⟨gb141, 5, none⟩ = some (.bool x142005_1) := (blk_cell BK141.out 5).trans rfl
                      have hcz39_6 : wc.cell? ⟨gb141, 6, none⟩ = some (.int .u64 x142006_1) := (blk_cell BK141.out 6).trans rfl
                      have hfz39_0 := blk_frozen BK141.out 0
                      have hfz39_1 := blk_frozen BK141.out 1
                      have hfz39_2 := blk_frozen BK141.out 2
                      have hfz39_3 := blk_frozen BK141.out 3
                      have hfz39_4 := blk_frozen BK141.out 4
                      have hfz39_5 := blk_frozen BK141.out 5
                      have hfz39_6 := blk_frozen BK141.out 6
                      go_wp2_with (first | ((with_reducible refine gate_callee (f := 18) rfl ?_); refine goesL_ (some 51) rfl rfl Try.func18 (by kernel_rfl) rfl #[.agg #[.bool t145, .int .i64 t146, .int .i64 t147, .int .u64 t148, .int .u64 t149, .bool t150, .int .u64 t151]] rfl (by (try simp only [List.map_toArray, List.map_cons, List.map_nil]); first | done | rfl | (simp only [List.length_drop, List.length_take]; rfl)) ?_; (with_reducible refine (slice_Tick.calls t145 t146 t147 t148 t149 t150 t151 t154 t155 t156 t157 t158 t159 t160 true t162 _ A33.out).mono ?_); rintro e w40 ⟨rfl, hb⟩; refine ⟨_, rfl, ?_⟩; have n0_ := Aside0.mk (blk_below (g := gb141) (o := .cells #[.bool t145, .int .i64 t146, .int .i64 t147, .int .u64 t148, .int .u64 t149, .bool t150, .int .u64 t151] 28 (0, 0)) (by (with_reducible repeat (first | refine blk_drewN ?_ _ | refine blk_drew ?_ | refine blk_alloc ?_ _)); refine blk_put (cs := #[.bool t145, .int .i64 t146, .int .i64 t147, .int .u64 t148, .int .u64 t149, .bool t150, .int .u64 x142006_1]) ?_ 6 _ rfl; (with_reducible repeat (first | refine blk_drewN ?_ _ | refine blk_drew ?_ | refine blk_alloc ?_ _)); refine blk_put (cs := #[.bool t145, .int .i64 t146, .int .i64 t147, .int .u64 t148, .int .u64 t149, .bool x142005_1, .int .u64 x142006_1]) ?_ 5 _ rfl; (with_reducible repeat (first | refine blk_drewN ?_ _ | refine blk_drew ?_ | refine blk_alloc ?_ _)); refine blk_put (cs := #[.bool t145, .int .i64 t146, .int .i64 t147, .int .u64 t148, .int .u64 x142004_1, .bool x142005_1, .int .u64 x142006_1]) ?_ 4 _ rfl; (with_reducible repeat (first | refine blk_drewN ?_ _ | refine blk_drew ?_ | refine blk_alloc ?_ _)); refine blk_put (cs := #[.bool t145, .int .i64 t146, .int .i64 t147, .int .u64 x142003_1, .int .u64 x142004_1, .bool x142005_1, .int .u64 x142006_1]) ?_ 3 _ rfl; (with_reducible repeat (first | refine blk_drewN ?_ _ | refine blk_drew ?_ | refine blk_alloc ?_ _)); refine blk_put (cs := #[.bool t145, .int .i64 t146, .int .i64 x142002_1, .int .u64 x142003_1, .int .u64 x142004_1, .bool x142005_1, .int .u64 x142006_1]) ?_ 2 _ rfl; (with_reducible repeat (first | refine blk_drewN ?_ _ | refine blk_drew ?_ | refine blk_alloc ?_ _)); refine blk_put (cs := #[.bool t145, .int .i64 x142001_1, .int .i64 x142002_1, .int .u64 x142003_1, .int .u64 x142004_1, .bool x142005_1, .int .u64 x142006_1]) ?_ 1 _ rfl; (with_reducible repeat (first | refine blk_drewN ?_ _ | refine blk_drew ?_ | refine blk_alloc ?_ _)); refine blk_put (cs := #[.bool x142000_1, .int .i64 x142001_1, .int .i64 x142002_1, .int .u64 x142003_1, .int .u64 x142004_1, .bool x142005_1, .int .u64 x142006_1]) ?_ 0 _ rfl; (with_reducible repeat (first | refine blk_drewN ?_ _ | refine blk_drew ?_ | refine blk_alloc ?_ _)); exact BK141.out) hb); have n1_ := Aside0.mk (blk_below (g := gb142) (o := .cells #[.bool false, .int .i64 0, .int .i64 0, .int .u64 0, .int .u64 0, .bool false, .int .u64 0] 28 (0, 0)) (by (with_reducible repeat (first | refine blk_drewN ?_ _ | refine blk_drew ?_ | refine blk_alloc ?_ _)); refine blk_far ?_ NB142_141.out _; (with_reducible repeat (first | refine blk_drewN ?_ _ | refine blk_drew ?_ | refine blk_alloc ?_ _)); refine blk_far ?_ NB142_141.out _; (with_reducible repeat (first | refine blk_drewN ?_ _ | refine blk_drew ?_ | refine blk_alloc ?_ _)); refine blk_far ?_ NB142_141.out _; (with_reducible repeat (first | refine blk_drewN ?_ _ | refine blk_drew ?_ | refine blk_alloc ?_ _)); refine blk_far ?_ NB142_141.out _; (with_reducible repeat (first | refine blk_drewN ?_ _ | refine blk_drew ?_ | refine blk_alloc ?_ _)); refine blk_far ?_ NB142_141.out _; (with_reducible repeat (first | refine blk_drewN ?_ _ | refine blk_drew ?_ | refine blk_alloc ?_ _)); refine blk_far ?_ NB142_141.out _; (with_reducible repeat (first | refine blk_drewN ?_ _ | refine blk_drew ?_ | refine blk_alloc ?_ _)); refine blk_far ?_ NB142_141.out _; (with_reducible repeat (first | refine blk_drewN ?_ _ | refine blk_drew ?_ | refine blk_alloc ?_ _)); exact BK142.out) hb); have n2_ := Aside0.mk (blk_below (g := gb153) (o := .cells #[.bool t145, .int .i64 t146, .int .i64 t147, .int .u64 t148, .int .u64 t149, .bool t150, .int .u64 t151] 28 (0, 0)) (by (with_reducible repeat (first | refine blk_drewN ?_ _ | refine blk_drew ?_ | refine blk_alloc ?_ _)); refine blk_far ?_ NB153_141.out _; (with_reducible repeat (first | refine blk_drewN ?_ _ | refine blk_drew ?_ | refine blk_alloc ?_ _)); refine blk_far ?_ NB153_141.out _; (with_reducible repeat (first | refine blk_drewN ?_ _ | refine blk_drew ?_ | refine blk_alloc ?_ _)); refine blk_far ?_ NB153_141.out _; (with_reducible repeat (first | refine blk_drewN ?_ _ | refine blk_drew ?_ | refine blk_alloc ?_ _)); refine blk_far ?_ NB153_141.out _; (with_reducible repeat (first | refine blk_drewN ?_ _ | refine blk_drew ?_ | refine blk_alloc ?_ _)); refine blk_far ?_ NB153_141.out _; (with_reducible repeat (first | refine blk_drewN ?_ _ | refine blk_drew ?_ | refine blk_alloc ?_ _)); refine blk_far ?_ NB153_141.out _; (with_reducible repeat (first | refine blk_drewN ?_ _ | refine blk_drew ?_ | refine blk_alloc ?_ _)); refine blk_far ?_ NB153_141.out _; (with_reducible repeat (first | refine blk_drewN ?_ _ | refine blk_drew ?_ | refine blk_alloc ?_ _)); exact BK153.out) hb); have n3_ := Aside0.mk (below_step (by repeat (first | (with_reducible first | exact HB.out | apply below_alloc | apply pw_below_drewN | apply below_drew1 | refine below_set ?_ GE141.out | refine below_set ?_ GE142.out | refine below_set ?_ GE153.out) | exact HB.out)) hb); clear BK141; clear BK142; clear BK153; clear HB; have BK141 := n0_; have BK142 := n1_; have BK153 := n2_; have HB := n3_; clear n0_ n1_ n2_ n3_; (try clear hb); (try clear hb2); (try clear hk); (try clear hi); have hcz41_0 : w40.cell? ⟨gb141, 0, none⟩ = some (.bool t145) := (blk_cell BK141.out 0).trans rfl; have hcz41_1 : w40.cell? ⟨gb141, 1, none⟩ = some (.int .i64 t146) := (blk_cell BK141.out 1).trans rfl; have hcz41_2 : w40.cell? ⟨gb141, 2, none⟩ = some (.int .i64 t147) := (blk_cell BK141.out 2).trans rfl; have hcz41_3 : w40.cell? ⟨gb141, 3, none⟩ = some (.int .u64 t148) := (blk_cell BK141.out 3).trans rfl; have hcz41_4 : w40.cell? ⟨gb141, 4, none⟩ = some (.int .u64 t149) := (blk_cell BK141.out 4).trans rfl; have hcz41_5 : w40.cell? ⟨gb141, 5, none⟩ = some (.bool t150) := (blk_cell BK141.out 5).trans rfl; have hcz41_6 : w40.cell? ⟨gb141, 6, none⟩ = some (.int .u64 t151) := (blk_cell BK141.out 6).trans rfl; have hfz41_0 := blk_frozen BK141.out 0; have hfz41_1 := blk_frozen BK141.out 1; have hfz41_2 := blk_frozen BK141.out 2; have hfz41_3 := blk_frozen BK141.out 3; have hfz41_4 := blk_frozen BK141.out 4; have hfz41_5 := blk_frozen BK141.out 5; have hfz41_6 := blk_frozen BK141.out 6))
                      go_roundg kj12
                      case measure => have := HK1.out; have := HJ6.out; have := HJ12.out; omega
                      case rel => exact ⟨(IntKind.u64.wrap (x2_1 - 1)), (wrap64 (x9_1 + 1)), (IntKind.u64.wrap (x10_1 + 1)), (t154), (t155), (t156), (t157), (t158), (t159), (t160), (by first | rfl | (simp; done) | (simp [*]; done)), (by first | rfl | (simp; done) | (simp [*]; done)), (by first | rfl | (simp; done) | (simp [*]; done)), H', ⟨by have := HK1.out; have := HJ6.out; have := HJ12.out; omega⟩, ⟨by (with_reducible repeat (first | refine blk_drewN ?_ _ | refine blk_drew ?_ | refine blk_alloc ?_ _)); refine blk_put (cs := #[.bool t154, .int .i64 t155, .int .i64 t156, .int .u64 t157, .int .u64 t158, .bool t159, .int .u64 t151]) ?_ 6 _ rfl; (with_reducible repeat (first | refine blk_drewN ?_ _ | refine blk_drew ?_ | refine blk_alloc ?_ _)); refine blk_put (cs := #[.bool t154, .int .i64 t155, .int .i64 t156, .int .u64 t157, .int .u64 t158, .bool t150, .int .u64 t151]) ?_ 5 _ rfl; (with_reducible repeat (first | refine blk_drewN ?_ _ | refine blk_drew ?_ | refine blk_alloc ?_ _)); refine blk_put (cs := #[.bool t154, .int .i64 t155, .int .i64 t156, .int .u64 t157, .int .u64 t149, .bool t150, .int .u64 t151]) ?_ 4 _ rfl; (with_reducible repeat (first | refine blk_drewN ?_ _ | refine blk_drew ?_ | refine blk_alloc ?_ _)); refine blk_put (cs := #[.bool t154, .int .i64 t155, .int .i64 t156, .int .u64 t148, .int .u64 t149, .bool t150, .int .u64 t151]) ?_ 3 _ rfl; (with_reducible repeat (first | refine blk_drewN ?_ _ | refine blk_drew ?_ | refine blk_alloc ?_ _)); refine blk_put (cs := #[.bool t154, .int .i64 t155, .int .i64 t147, .int .u64 t148, .int .u64 t149, .bool t150, .int .u64 t151]) ?_ 2 _ rfl; (with_reducible repeat (first | refine blk_drewN ?_ _ | refine blk_drew ?_ | refine blk_alloc ?_ _)); refine blk_put (cs := #[.bool t154, .int .i64 t146, .int .i64 t147, .int .u64 t148, .int .u64 t149, .bool t150, .int .u64 t151]) ?_ 1 _ rfl; (with_reducible repeat (first | refine blk_drewN ?_ _ | refine blk_drew ?_ | refine blk_alloc ?_ _)); refine blk_put (cs := #[.bool t145, .int .i64 t146, .int .i64 t147, .int .u64 t148, .int .u64 t149, .bool t150, .int .u64 t151]) ?_ 0 _ rfl; (with_reducible repeat (first | refine blk_drewN ?_ _ | refine blk_drew ?_ | refine blk_alloc ?_ _)); exact BK141.out⟩, ⟨by (with_reducible repeat (first | refine blk_drewN ?_ _ | refine blk_drew ?_ | refine blk_alloc ?_ _)); refine blk_far ?_ NB142_141.out _; (with_reducible repeat (first | refine blk_drewN ?_ _ | refine blk_drew ?_ | refine blk_alloc ?_ _)); refine blk_far ?_ NB142_141.out _; (with_reducible repeat (first | refine blk_drewN ?_ _ | refine blk_drew ?_ | refine blk_alloc ?_ _)); refine blk_far ?_ NB142_141.out _; (with_reducible repeat (first | refine blk_drewN ?_ _ | refine blk_drew ?_ | refine blk_alloc ?_ _)); refine blk_far ?_ NB142_141.out _; (with_reducible repeat (first | refine blk_drewN ?_ _ | refine blk_drew ?_ | refine blk_alloc ?_ _)); refine blk_far ?_ NB142_141.out _; (with_reducible repeat (first | refine blk_drewN ?_ _ | refine blk_drew ?_ | refine blk_alloc ?_ _)); refine blk_far ?_ NB142_141.out _; (with_reducible repeat (first | refine blk_drewN ?_ _ | refine blk_drew ?_ | refine blk_alloc ?_ _)); refine blk_far ?_ NB142_141.out _; (with_reducible repeat (first | refine blk_drewN ?_ _ | refine blk_drew ?_ | refine blk_alloc ?_ _)); exact BK142.out⟩, ⟨by repeat (first | (with_reducible first | exact HB.out | apply below_alloc | apply pw_below_drewN | apply below_drew1 | refine below_set ?_ GE141.out | refine below_set ?_ GE142.out | refine below_set ?_ GE153.out) | exact HB.out)⟩⟩
                    · replace c34 := Bool.eq_false_iff.mpr c34
                      subst c34
                      have H1 : (slice_Run.l0 kj12 l1 (IntKind.u64.wrap (x2_1 - 1)) x9_1 (IntKind.u64.wrap (x10_1 + 1)) t154 t155 t156 t157 t158 t159 t160) = some (r1, r2, r3, r4, r5, r6, r7, r8, r9) := by rw [if_neg (show ¬ (false = true) by decide)] at H; exact H
                      clear H
                      have H := H1
                      clear H1
                      have H' := Aside0.mk H
                      clear H
                      have hnb42 := NB153_141.out
                      have hnc42 := NB141_153.out
                      have hnb43 := NB153_142.out
                      have hnc43 := NB142_153.out
                      have hcz44_0 : wc.cell? ⟨gb153, 0, none⟩ = some (.bool t145) := (blk_cell BK153.out 0).trans rfl
                      have hcz44_1 : wc.cell? ⟨gb153, 1, none⟩ = some (.int .i64 t146) := (blk_cell BK153.out 1).trans rfl
                      have hcz44_2 : wc.cell? ⟨gb153, 2, none⟩ = some (.int .i64 t147) := (blk_cell BK153.out 2).trans rfl
                      have hcz44_3 : wc.cell? ⟨gb153, 3, none⟩ = some (.int .u64 t148) := (blk_cell BK153.out 3).trans rfl
                      have hcz44_4 : wc.cell? ⟨gb153, 4, none⟩ = some (.int .u64 t149) := (blk_cell BK153.out 4).trans rfl
                      have hcz44_5 : wc.cell? ⟨gb153, 5, none⟩ = some (.bool t150) := (blk_cell BK153.out 5).trans rfl
                      have hcz44_6 : wc.cell? ⟨gb153, 6, none⟩ = some (.int .u64 t151) := (blk_cell BK153.out 6).trans rfl
                      have hfz44_0 := blk_frozen BK153.out 0
                      have hfz44_1 := blk_frozen BK153.out 1
                      have hfz44_2 := blk_frozen BK153.out 2
                      have hfz44_3 := blk_frozen BK153.out 3
                      have hfz44_4 := blk_frozen BK153.out 4
                      have hfz44_5 := blk_frozen BK153.out 5
                      have hfz44_6 := blk_frozen BK153.out 6
                      have hnb45 := NB141_142.out
                      have hnc45 := NB142_141.out
                      have hcz46_0 : wc.cell? ⟨gb141, 0, none⟩ = some (.bool x142000_1) := (blk_cell BK141.out 0).trans rfl
                      have hcz46_1 : wc.cell? ⟨gb141, 1, none⟩ = some (.int .i64 x142001_1) := (blk_cell BK141.out 1).trans rfl
                      have hcz46_2 : wc.cell? ⟨gb141, 2, none⟩ = some (.int .i64 x142002_1) := (blk_cell BK141.out 2).trans rfl
                      have hcz46_3 : wc.cell? ⟨gb141, 3, none⟩ = some (.int .u64 x142003_1) := (blk_cell BK141.out 3).trans rfl
                      have hcz46_4 : wc.cell? ⟨gb141, 4, none⟩ = some (.int .u64 x142004_1) := (blk_cell BK141.out 4).trans rfl
                      have hcz46_5 : wc.cell? ⟨gb141, 5, none⟩ = some (.bool x142005_1) := (blk_cell BK141.out 5).trans rfl
                      have hcz46_6 : wc.cell? ⟨gb141, 6, none⟩ = some (.int .u64 x142006_1) := (blk_cell BK141.out 6).trans rfl
                      have hfz46_0 := blk_frozen BK141.out 0
                      have hfz46_1 := blk_frozen BK141.out 1
                      have hfz46_2 := blk_frozen BK141.out 2
                      have hfz46_3 := blk_frozen BK141.out 3
                      have hfz46_4 := blk_frozen BK141.out 4
                      have hfz46_5 := blk_frozen BK141.out 5
                      have hfz46_6 := blk_frozen BK141.out 6
                      go_wp2_with (first | ((with_reducible refine gate_callee (f := 18) rfl ?_); refine goesL_ (some 51) rfl rfl Try.func18 (by kernel_rfl) rfl #[.agg #[.bool t145, .int .i64 t146, .int .i64 t147, .int .u64 t148, .int .u64 t149, .bool t150, .int .u64 t151]] rfl (by (try simp only [List.map_toArray, List.map_cons, List.map_nil]); first | done | rfl | (simp only [List.length_drop, List.length_take]; rfl)) ?_; (with_reducible refine (slice_Tick.calls t145 t146 t147 t148 t149 t150 t151 t154 t155 t156 t157 t158 t159 t160 false t162 _ A33.out).mono ?_); rintro e w47 ⟨rfl, hb⟩; refine ⟨_, rfl, ?_⟩; have n0_ := Aside0.mk (blk_below (g := gb141) (o := .cells #[.bool t145, .int .i64 t146, .int .i64 t147, .int .u64 t148, .int .u64 t149, .bool t150, .int .u64 t151] 28 (0, 0)) (by (with_reducible repeat (first | refine blk_drewN ?_ _ | refine blk_drew ?_ | refine blk_alloc ?_ _)); refine blk_put (cs := #[.bool t145, .int .i64 t146, .int .i64 t147, .int .u64 t148, .int .u64 t149, .bool t150, .int .u64 x142006_1]) ?_ 6 _ rfl; (with_reducible repeat (first | refine blk_drewN ?_ _ | refine blk_drew ?_ | refine blk_alloc ?_ _)); refine blk_put (cs := #[.bool t145, .int .i64 t146, .int .i64 t147, .int .u64 t148, .int .u64 t149, .bool x142005_1, .int .u64 x142006_1]) ?_ 5 _ rfl; (with_reducible repeat (first | refine blk_drewN ?_ _ | refine blk_drew ?_ | refine blk_alloc ?_ _)); refine blk_put (cs := #[.bool t145, .int .i64 t146, .int .i64 t147, .int .u64 t148, .int .u64 x142004_1, .bool x142005_1, .int .u64 x142006_1]) ?_ 4 _ rfl; (with_reducible repeat (first | refine blk_drewN ?_ _ | refine blk_drew ?_ | refine blk_alloc ?_ _)); refine blk_put (cs := #[.bool t145, .int .i64 t146, .int .i64 t147, .int .u64 x142003_1, .int .u64 x142004_1, .bool x142005_1, .int .u64 x142006_1]) ?_ 3 _ rfl; (with_reducible repeat (first | refine blk_drewN ?_ _ | refine blk_drew ?_ | refine blk_alloc ?_ _)); refine blk_put (cs := #[.bool t145, .int .i64 t146, .int .i64 x142002_1, .int .u64 x142003_1, .int .u64 x142004_1, .bool x142005_1, .int .u64 x142006_1]) ?_ 2 _ rfl; (with_reducible repeat (first | refine blk_drewN ?_ _ | refine blk_drew ?_ | refine blk_alloc ?_ _)); refine blk_put (cs := #[.bool t145, .int .i64 x142001_1, .int .i64 x142002_1, .int .u64 x142003_1, .int .u64 x142004_1, .bool x142005_1, .int .u64 x142006_1]) ?_ 1 _ rfl; (with_reducible repeat (first | refine blk_drewN ?_ _ | refine blk_drew ?_ | refine blk_alloc ?_ _)); refine blk_put (cs := #[.bool x142000_1, .int .i64 x142001_1, .int .i64 x142002_1, .int .u64 x142003_1, .int .u64 x142004_1, .bool x142005_1, .int .u64 x142006_1]) ?_ 0 _ rfl; (with_reducible repeat (first | refine blk_drewN ?_ _ | refine blk_drew ?_ | refine blk_alloc ?_ _)); exact BK141.out) hb); have n1_ := Aside0.mk (blk_below (g := gb142) (o := .cells #[.bool false, .int .i64 0, .int .i64 0, .int .u64 0, .int .u64 0, .bool false, .int .u64 0] 28 (0, 0)) (by (with_reducible repeat (first | refine blk_drewN ?_ _ | refine blk_drew ?_ | refine blk_alloc ?_ _)); refine blk_far ?_ NB142_141.out _; (with_reducible repeat (first | refine blk_drewN ?_ _ | refine blk_drew ?_ | refine blk_alloc ?_ _)); refine blk_far ?_ NB142_141.out _; (with_reducible repeat (first | refine blk_drewN ?_ _ | refine blk_drew ?_ | refine blk_alloc ?_ _)); refine blk_far ?_ NB142_141.out _; (with_reducible repeat (first | refine blk_drewN ?_ _ | refine blk_drew ?_ | refine blk_alloc ?_ _)); refine blk_far ?_ NB142_141.out _; (with_reducible repeat (first | refine blk_drewN ?_ _ | refine blk_drew ?_ | refine blk_alloc ?_ _)); refine blk_far ?_ NB142_141.out _; (with_reducible repeat (first | refine blk_drewN ?_ _ | refine blk_drew ?_ | refine blk_alloc ?_ _)); refine blk_far ?_ NB142_141.out _; (with_reducible repeat (first | refine blk_drewN ?_ _ | refine blk_drew ?_ | refine blk_alloc ?_ _)); refine blk_far ?_ NB142_141.out _; (with_reducible repeat (first | refine blk_drewN ?_ _ | refine blk_drew ?_ | refine blk_alloc ?_ _)); exact BK142.out) hb); have n2_ := Aside0.mk (blk_below (g := gb153) (o := .cells #[.bool t145, .int .i64 t146, .int .i64 t147, .int .u64 t148, .int .u64 t149, .bool t150, .int .u64 t151] 28 (0, 0)) (by (with_reducible repeat (first | refine blk_drewN ?_ _ | refine blk_drew ?_ | refine blk_alloc ?_ _)); refine blk_far ?_ NB153_141.out _; (with_reducible repeat (first | refine blk_drewN ?_ _ | refine blk_drew ?_ | refine blk_alloc ?_ _)); refine blk_far ?_ NB153_141.out _; (with_reducible repeat (first | refine blk_drewN ?_ _ | refine blk_drew ?_ | refine blk_alloc ?_ _)); refine blk_far ?_ NB153_141.out _; (with_reducible repeat (first | refine blk_drewN ?_ _ | refine blk_drew ?_ | refine blk_alloc ?_ _)); refine blk_far ?_ NB153_141.out _; (with_reducible repeat (first | refine blk_drewN ?_ _ | refine blk_drew ?_ | refine blk_alloc ?_ _)); refine blk_far ?_ NB153_141.out _; (with_reducible repeat (first | refine blk_drewN ?_ _ | refine blk_drew ?_ | refine blk_alloc ?_ _)); refine blk_far ?_ NB153_141.out _; (with_reducible repeat (first | refine blk_drewN ?_ _ | refine blk_drew ?_ | refine blk_alloc ?_ _)); refine blk_far ?_ NB153_141.out _; (with_reducible repeat (first | refine blk_drewN ?_ _ | refine blk_drew ?_ | refine blk_alloc ?_ _)); exact BK153.out) hb); have n3_ := Aside0.mk (below_step (by repeat (first | (with_reducible first | exact HB.out | apply below_alloc | apply pw_below_drewN | apply below_drew1 | refine below_set ?_ GE141.out | refine below_set ?_ GE142.out | refine below_set ?_ GE153.out) | exact HB.out)) hb); clear BK141; clear BK142; clear BK153; clear HB; have BK141 := n0_; have BK142 := n1_; have BK153 := n2_; have HB := n3_; clear n0_ n1_ n2_ n3_; (try clear hb); (try clear hb2); (try clear hk); (try clear hi); have hcz48_0 : w47.cell? ⟨gb141, 0, none⟩ = some (.bool t145) := (blk_cell BK141.out 0).trans rfl; have hcz48_1 : w47.cell? ⟨gb141, 1, none⟩ = some (.int .i64 t146) := (blk_cell BK141.out 1).trans rfl; have hcz48_2 : w47.cell? ⟨gb141, 2, none⟩ = some (.int .i64 t147) := (blk_cell BK141.out 2).trans rfl; have hcz48_3 : w47.cell? ⟨gb141, 3, none⟩ = some (.int .u64 t148) := (blk_cell BK141.out 3).trans rfl; have hcz48_4 : w47.cell? ⟨gb141, 4, none⟩ = some (.int .u64 t149) := (blk_cell BK141.out 4).trans rfl; have hcz48_5 : w47.cell? ⟨gb141, 5, none⟩ = some (.bool t150) := (blk_cell BK141.out 5).trans rfl; have hcz48_6 : w47.cell? ⟨gb141, 6, none⟩ = some (.int .u64 t151) := (blk_cell BK141.out 6).trans rfl; have hfz48_0 := blk_frozen BK141.out 0; have hfz48_1 := blk_frozen BK141.out 1; have hfz48_2 := blk_frozen BK141.out 2; have hfz48_3 := blk_frozen BK141.out 3; have hfz48_4 := blk_frozen BK141.out 4; have hfz48_5 := blk_frozen BK141.out 5; have hfz48_6 := blk_frozen BK141.out 6))
                      go_roundg kj12
                      case measure => have := HK1.out; have := HJ6.out; have := HJ12.out; omega
                      case rel => exact ⟨(IntKind.u64.wrap (x2_1 - 1)), (x9_1), (IntKind.u64.wrap (x10_1 + 1)), (t154), (t155), (t156), (t157), (t158), (t159), (t160), (by first | rfl | (simp; done) | (simp [*]; done)), (by first | rfl | (simp; done) | (simp [*]; done)), (by first | rfl | (simp; done) | (simp [*]; done)), H', ⟨by have := HK1.out; have := HJ6.out; have := HJ12.out; omega⟩, ⟨by (with_reducible repeat (first | refine blk_drewN ?_ _ | refine blk_drew ?_ | refine blk_alloc ?_ _)); refine blk_put (cs := #[.bool t154, .int .i64 t155, .int .i64 t156, .int .u64 t157, .int .u64 t158, .bool t159, .int .u64 t151]) ?_ 6 _ rfl; (with_reducible repeat (first | refine blk_drewN ?_ _ | refine blk_drew ?_ | refine blk_alloc ?_ _)); refine blk_put (cs := #[.bool t154, .int .i64 t155, .int .i64 t156, .int .u64 t157, .int .u64 t158, .bool t150, .int .u64 t151]) ?_ 5 _ rfl; (with_reducible repeat (first | refine blk_drewN ?_ _ | refine blk_drew ?_ | refine blk_alloc ?_ _)); refine blk_put (cs := #[.bool t154, .int .i64 t155, .int .i64 t156, .int .u64 t157, .int .u64 t149, .bool t150, .int .u64 t151]) ?_ 4 _ rfl; (with_reducible repeat (first | refine blk_drewN ?_ _ | refine blk_drew ?_ | refine blk_alloc ?_ _)); refine blk_put (cs := #[.bool t154, .int .i64 t155, .int .i64 t156, .int .u64 t148, .int .u64 t149, .bool t150, .int .u64 t151]) ?_ 3 _ rfl; (with_reducible repeat (first | refine blk_drewN ?_ _ | refine blk_drew ?_ | refine blk_alloc ?_ _)); refine blk_put (cs := #[.bool t154, .int .i64 t155, .int .i64 t147, .int .u64 t148, .int .u64 t149, .bool t150, .int .u64 t151]) ?_ 2 _ rfl; (with_reducible repeat (first | refine blk_drewN ?_ _ | refine blk_drew ?_ | refine blk_alloc ?_ _)); refine blk_put (cs := #[.bool t154, .int .i64 t146, .int .i64 t147, .int .u64 t148, .int .u64 t149, .bool t150, .int .u64 t151]) ?_ 1 _ rfl; (with_reducible repeat (first | refine blk_drewN ?_ _ | refine blk_drew ?_ | refine blk_alloc ?_ _)); refine blk_put (cs := #[.bool t145, .int .i64 t146, .int .i64 t147, .int .u64 t148, .int .u64 t149, .bool t150, .int .u64 t151]) ?_ 0 _ rfl; (with_reducible repeat (first | refine blk_drewN ?_ _ | refine blk_drew ?_ | refine blk_alloc ?_ _)); exact BK141.out⟩, ⟨by (with_reducible repeat (first | refine blk_drewN ?_ _ | refine blk_drew ?_ | refine blk_alloc ?_ _)); refine blk_far ?_ NB142_141.out _; (with_reducible repeat (first | refine blk_drewN ?_ _ | refine blk_drew ?_ | refine blk_alloc ?_ _)); refine blk_far ?_ NB142_141.out _; (with_reducible repeat (first | refine blk_drewN ?_ _ | refine blk_drew ?_ | refine blk_alloc ?_ _)); refine blk_far ?_ NB142_141.out _; (with_reducible repeat (first | refine blk_drewN ?_ _ | refine blk_drew ?_ | refine blk_alloc ?_ _)); refine blk_far ?_ NB142_141.out _; (with_reducible repeat (first | refine blk_drewN ?_ _ | refine blk_drew ?_ | refine blk_alloc ?_ _)); refine blk_far ?_ NB142_141.out _; (with_reducible repeat (first | refine blk_drewN ?_ _ | refine blk_drew ?_ | refine blk_alloc ?_ _)); refine blk_far ?_ NB142_141.out _; (with_reducible repeat (first | refine blk_drewN ?_ _ | refine blk_drew ?_ | refine blk_alloc ?_ _)); refine blk_far ?_ NB142_141.out _; (with_reducible repeat (first | refine blk_drewN ?_ _ | refine blk_drew ?_ | refine blk_alloc ?_ _)); exact BK142.out⟩, ⟨by repeat (first | (with_reducible first | exact HB.out | apply below_alloc | apply pw_below_drewN | apply below_drew1 | refine below_set ?_ GE141.out | refine below_set ?_ GE142.out | refine below_set ?_ GE153.out) | exact HB.out)⟩⟩
            · rw [if_neg c11] at H
              have c11b0 : (t144 == 5) = false := beq_eq_false_iff_ne.mpr c11
              have c11b1 : (t144 != 5) = true := bne_iff_ne.mpr c11
              by_cases c49 : t144 = 2
              · rw [if_pos c49] at H
                have c49b0 : (t144 == 2) = true := beq_iff_eq.mpr c49
                have c49b1 : (t144 != 2) = false := bne_eq_false_iff_eq.mpr c49
                clear c49
                replace H := Option.bind_eq_some_iff.mp H
                obtain ⟨⟨t163, t164, t165, t166, t167, t168, t169, t170, t171⟩, A500, H⟩ := H
                replace H : (if t170 = true then (slice_Run.l0 kj6 l1 (IntKind.u64.wrap (x2_1 - 1)) (wrap64 (x9_1 + 1)) (IntKind.u64.wrap (x10_1 + 1)) t163 t164 t165 t166 t167 t168 t169) else (slice_Run.l0 kj6 l1 (IntKind.u64.wrap (x2_1 - 1)) x9_1 (IntKind.u64.wrap (x10_1 + 1)) t163 t164 t165 t166 t167 t168 t169)) = some (r1, r2, r3, r4, r5, r6, r7, r8, r9) := H
                have A50 := Aside0.mk A500
                clear A500
                by_cases c51 : t170 = true
                · subst c51
                  have H1 : (slice_Run.l0 kj6 l1 (IntKind.u64.wrap (x2_1 - 1)) (wrap64 (x9_1 + 1)) (IntKind.u64.wrap (x10_1 + 1)) t163 t164 t165 t166 t167 t168 t169) = some (r1, r2, r3, r4, r5, r6, r7, r8, r9) := by rw [if_pos rfl] at H; exact H
                  clear H
                  have H := H1
                  clear H1
                  have H' := Aside0.mk H
                  clear H
                  have hnb52 := NB141_142.out
                  have hnc52 := NB142_141.out
                  have hcz53_0 : wc.cell? ⟨gb141, 0, none⟩ = some (.bool x142000_1) := (blk_cell BK141.out 0).trans rfl
                  have hcz53_1 : wc.cell? ⟨gb141, 1, none⟩ = some (.int .i64 x142001_1) := (blk_cell BK141.out 1).trans rfl
                  have hcz53_2 : wc.cell? ⟨gb141, 2, none⟩ = some (.int .i64 x142002_1) := (blk_cell BK141.out 2).trans rfl
                  have hcz53_3 : wc.cell? ⟨gb141, 3, none⟩ = some (.int .u64 x142003_1) := (blk_cell BK141.out 3).trans rfl
                  have hcz53_4 : wc.cell? ⟨gb141, 4, none⟩ = some (.int .u64 x142004_1) := (blk_cell BK141.out 4).trans rfl
                  have hcz53_5 : wc.cell? ⟨gb141, 5, none⟩ = some (.bool x142005_1) := (blk_cell BK141.out 5).trans rfl
                  have hcz53_6 : wc.cell? ⟨gb141, 6, none⟩ = some (.int .u64 x142006_1) := (blk_cell BK141.out 6).trans rfl
                  have hfz53_0 := blk_frozen BK141.out 0
                  have hfz53_1 := blk_frozen BK141.out 1
                  have hfz53_2 := blk_frozen BK141.out 2
                  have hfz53_3 := blk_frozen BK141.out 3
                  have hfz53_4 := blk_frozen BK141.out 4
                  have hfz53_5 := blk_frozen BK141.out 5
                  have hfz53_6 := blk_frozen BK141.out 6
                  go_wp2_with (first | ((with_reducible refine gate_callee (f := 24) rfl ?_); refine goesL_ (some 29) rfl rfl Try.func24 (by kernel_rfl) rfl #[.agg #[.bool x142000_1, .int .i64 x142001_1, .int .i64 x142002_1, .int .u64 x142003_1, .int .u64 x142004_1, .bool x142005_1, .int .u64 x142006_1], .int .u64 x11_6, .int .u64 x2_1] rfl (by (try simp only [List.map_toArray, List.map_cons, List.map_nil]); first | done | rfl | (simp only [List.length_drop, List.length_take]; rfl)) ?_; (with_reducible refine (slice_Decide.calls x142000_1 x142001_1 x142002_1 x142003_1 x142004_1 x142005_1 x142006_1 x11_6 x2_1 t144 _ A10.out).mono ?_); rintro e w54 ⟨rfl, hb⟩; refine ⟨_, rfl, ?_⟩; have n0_ := Aside0.mk (blk_below (g := gb141) (o := .cells #[.bool x142000_1, .int .i64 x142001_1, .int .i64 x142002_1, .int .u64 x142003_1, .int .u64 x142004_1, .bool x142005_1, .int .u64 x142006_1] 28 (0, 0)) (by (with_reducible repeat (first | refine blk_drewN ?_ _ | refine blk_drew ?_ | refine blk_alloc ?_ _)); exact BK141.out) hb); have n1_ := Aside0.mk (blk_below (g := gb142) (o := .cells #[.bool false, .int .i64 0, .int .i64 0, .int .u64 0, .int .u64 0, .bool false, .int .u64 0] 28 (0, 0)) (by (with_reducible repeat (first | refine blk_drewN ?_ _ | refine blk_drew ?_ | refine blk_alloc ?_ _)); exact BK142.out) hb); have n2_ := Aside0.mk (below_step (by repeat (first | (with_reducible first | exact HB.out | apply below_alloc | apply pw_below_drewN | apply below_drew1 | refine below_set ?_ GE141.out | refine below_set ?_ GE142.out) | exact HB.out)) hb); clear BK141; clear BK142; clear HB; have BK141 := n0_; have BK142 := n1_; have HB := n2_; clear n0_ n1_ n2_; (try clear hb); (try clear hb2); (try clear hk); (try clear hi); have hcz55_0 : w54.cell? ⟨gb141, 0, none⟩ = some (.bool x142000_1) := (blk_cell BK141.out 0).trans rfl; have hcz55_1 : w54.cell? ⟨gb141, 1, none⟩ = some (.int .i64 x142001_1) := (blk_cell BK141.out 1).trans rfl; have hcz55_2 : w54.cell? ⟨gb141, 2, none⟩ = some (.int .i64 x142002_1) := (blk_cell BK141.out 2).trans rfl; have hcz55_3 : w54.cell? ⟨gb141, 3, none⟩ = some (.int .u64 x142003_1) := (blk_cell BK141.out 3).trans rfl; have hcz55_4 : w54.cell? ⟨gb141, 4, none⟩ = some (.int .u64 x142004_1) := (blk_cell BK141.out 4).trans rfl; have hcz55_5 : w54.cell? ⟨gb141, 5, none⟩ = some (.bool x142005_1) := (blk_cell BK141.out 5).trans rfl; have hcz55_6 : w54.cell? ⟨gb141, 6, none⟩ = some (.int .u64 x142006_1) := (blk_cell BK141.out 6).trans rfl; have hfz55_0 := blk_frozen BK141.out 0; have hfz55_1 := blk_frozen BK141.out 1; have hfz55_2 := blk_frozen BK141.out 2; have hfz55_3 := blk_frozen BK141.out 3; have hfz55_4 := blk_frozen BK141.out 4; have hfz55_5 := blk_frozen BK141.out 5; have hfz55_6 := blk_frozen BK141.out 6) | ((with_reducible refine gate_callee (f := 18) rfl ?_); refine goesL_ (some 51) rfl rfl Try.func18 (by kernel_rfl) rfl #[.agg #[.bool x142000_1, .int .i64 x142001_1, .int .i64 x142002_1, .int .u64 x142003_1, .int .u64 x142004_1, .bool x142005_1, .int .u64 x142006_1]] rfl (by (try simp only [List.map_toArray, List.map_cons, List.map_nil]); first | done | rfl | (simp only [List.length_drop, List.length_take]; rfl)) ?_; (with_reducible refine (slice_Tick.calls x142000_1 x142001_1 x142002_1 x142003_1 x142004_1 x142005_1 x142006_1 t163 t164 t165 t166 t167 t168 t169 true t171 _ A50.out).mono ?_); rintro e w56 ⟨rfl, hb⟩; refine ⟨_, rfl, ?_⟩; have n0_ := Aside0.mk (blk_below (g := gb141) (o := .cells #[.bool x142000_1, .int .i64 x142001_1, .int .i64 x142002_1, .int .u64 x142003_1, .int .u64 x142004_1, .bool x142005_1, .int .u64 x142006_1] 28 (0, 0)) (by (with_reducible repeat (first | refine blk_drewN ?_ _ | refine blk_drew ?_ | refine blk_alloc ?_ _)); exact BK141.out) hb); have n1_ := Aside0.mk (blk_below (g := gb142) (o := .cells #[.bool false, .int .i64 0, .int .i64 0, .int .u64 0, .int .u64 0, .bool false, .int .u64 0] 28 (0, 0)) (by (with_reducible repeat (first | refine blk_drewN ?_ _ | refine blk_drew ?_ | refine blk_alloc ?_ _)); exact BK142.out) hb); have n2_ := Aside0.mk (below_step (by repeat (first | (with_reducible first | exact HB.out | apply below_alloc | apply pw_below_drewN | apply below_drew1 | refine below_set ?_ GE141.out | refine below_set ?_ GE142.out) | exact HB.out)) hb); clear BK141; clear BK142; clear HB; have BK141 := n0_; have BK142 := n1_; have HB := n2_; clear n0_ n1_ n2_; (try clear hb); (try clear hb2); (try clear hk); (try clear hi); have hcz57_0 : w56.cell? ⟨gb141, 0, none⟩ = some (.bool x142000_1) := (blk_cell BK141.out 0).trans rfl; have hcz57_1 : w56.cell? ⟨gb141, 1, none⟩ = some (.int .i64 x142001_1) := (blk_cell BK141.out 1).trans rfl; have hcz57_2 : w56.cell? ⟨gb141, 2, none⟩ = some (.int .i64 x142002_1) := (blk_cell BK141.out 2).trans rfl; have hcz57_3 : w56.cell? ⟨gb141, 3, none⟩ = some (.int .u64 x142003_1) := (blk_cell BK141.out 3).trans rfl; have hcz57_4 : w56.cell? ⟨gb141, 4, none⟩ = some (.int .u64 x142004_1) := (blk_cell BK141.out 4).trans rfl; have hcz57_5 : w56.cell? ⟨gb141, 5, none⟩ = some (.bool x142005_1) := (blk_cell BK141.out 5).trans rfl; have hcz57_6 : w56.cell? ⟨gb141, 6, none⟩ = some (.int .u64 x142006_1) := (blk_cell BK141.out 6).trans rfl; have hfz57_0 := blk_frozen BK141.out 0; have hfz57_1 := blk_frozen BK141.out 1; have hfz57_2 := blk_frozen BK141.out 2; have hfz57_3 := blk_frozen BK141.out 3; have hfz57_4 := blk_frozen BK141.out 4; have hfz57_5 := blk_frozen BK141.out 5; have hfz57_6 := blk_frozen BK141.out 6))
                  go_roundg kj6
                  case measure => have := HK1.out; have := HJ6.out; omega
                  case rel => exact ⟨(IntKind.u64.wrap (x2_1 - 1)), (wrap64 (x9_1 + 1)), (IntKind.u64.wrap (x10_1 + 1)), (t163), (t164), (t165), (t166), (t167), (t168), (t169), (by first | rfl | (simp; done) | (simp [*]; done)), (by first | rfl | (simp; done) | (simp [*]; done)), (by first | rfl | (simp; done) | (simp [*]; done)), H', ⟨by have := HK1.out; have := HJ6.out; omega⟩, ⟨by (with_reducible repeat (first | refine blk_drewN ?_ _ | refine blk_drew ?_ | refine blk_alloc ?_ _)); refine blk_put (cs := #[.bool t163, .int .i64 t164, .int .i64 t165, .int .u64 t166, .int .u64 t167, .bool t168, .int .u64 x142006_1]) ?_ 6 _ rfl; (with_reducible repeat (first | refine blk_drewN ?_ _ | refine blk_drew ?_ | refine blk_alloc ?_ _)); refine blk_put (cs := #[.bool t163, .int .i64 t164, .int .i64 t165, .int .u64 t166, .int .u64 t167, .bool x142005_1, .int .u64 x142006_1]) ?_ 5 _ rfl; (with_reducible repeat (first | refine blk_drewN ?_ _ | refine blk_drew ?_ | refine blk_alloc ?_ _)); refine blk_put (cs := #[.bool t163, .int .i64 t164, .int .i64 t165, .int .u64 t166, .int .u64 x142004_1, .bool x142005_1, .int .u64 x142006_1]) ?_ 4 _ rfl; (with_reducible repeat (first | refine blk_drewN ?_ _ | refine blk_drew ?_ | refine blk_alloc ?_ _)); refine blk_put (cs := #[.bool t163, .int .i64 t164, .int .i64 t165, .int .u64 x142003_1, .int .u64 x142004_1, .bool x142005_1, .int .u64 x142006_1]) ?_ 3 _ rfl; (with_reducible repeat (first | refine blk_drewN ?_ _ | refine blk_drew ?_ | refine blk_alloc ?_ _)); refine blk_put (cs := #[.bool t163, .int .i64 t164, .int .i64 x142002_1, .int .u64 x142003_1, .int .u64 x142004_1, .bool x142005_1, .int .u64 x142006_1]) ?_ 2 _ rfl; (with_reducible repeat (first | refine blk_drewN ?_ _ | refine blk_drew ?_ | refine blk_alloc ?_ _)); refine blk_put (cs := #[.bool t163, .int .i64 x142001_1, .int .i64 x142002_1, .int .u64 x142003_1, .int .u64 x142004_1, .bool x142005_1, .int .u64 x142006_1]) ?_ 1 _ rfl; (with_reducible repeat (first | refine blk_drewN ?_ _ | refine blk_drew ?_ | refine blk_alloc ?_ _)); refine blk_put (cs := #[.bool x142000_1, .int .i64 x142001_1, .int .i64 x142002_1, .int .u64 x142003_1, .int .u64 x142004_1, .bool x142005_1, .int .u64 x142006_1]) ?_ 0 _ rfl; (with_reducible repeat (first | refine blk_drewN ?_ _ | refine blk_drew ?_ | refine blk_alloc ?_ _)); exact BK141.out⟩, ⟨by (with_reducible repeat (first | refine blk_drewN ?_ _ | refine blk_drew ?_ | refine blk_alloc ?_ _)); refine blk_far ?_ NB142_141.out _; (with_reducible repeat (first | refine blk_drewN ?_ _ | refine blk_drew ?_ | refine blk_alloc ?_ _)); refine blk_far ?_ NB142_141.out _; (with_reducible repeat (first | refine blk_drewN ?_ _ | refine blk_drew ?_ | refine blk_alloc ?_ _)); refine blk_far ?_ NB142_141.out _; (with_reducible repeat (first | refine blk_drewN ?_ _ | refine blk_drew ?_ | refine blk_alloc ?_ _)); refine blk_far ?_ NB142_141.out _; (with_reducible repeat (first | refine blk_drewN ?_ _ | refine blk_drew ?_ | refine blk_alloc ?_ _)); refine blk_far ?_ NB142_141.out _; (with_reducible repeat (first | refine blk_drewN ?_ _ | refine blk_drew ?_ | refine blk_alloc ?_ _)); refine blk_far ?_ NB142_141.out _; (with_reducible repeat (first | refine blk_drewN ?_ _ | refine blk_drew ?_ | refine blk_alloc ?_ _)); refine blk_far ?_ NB142_141.out _; (with_reducible repeat (first | refine blk_drewN ?_ _ | refine blk_drew ?_ | refine blk_alloc ?_ _)); exact BK142.out⟩, ⟨by repeat (first | (with_reducible first | exact HB.out | apply below_alloc | apply pw_below_drewN | apply below_drew1 | refine below_set ?_ GE141.out | refine below_set ?_ GE142.out) | exact HB.out)⟩⟩
                · replace c51 := Bool.eq_false_iff.mpr c51
                  subst c51
                  have H1 : (slice_Run.l0 kj6 l1 (IntKind.u64.wrap (x2_1 - 1)) x9_1 (IntKind.u64.wrap (x10_1 + 1)) t163 t164 t165 t166 t167 t168 t169) = some (r1, r2, r3, r4, r5, r6, r7, r8, r9) := by rw [if_neg (show ¬ (false = true) by decide)] at H; exact H
                  clear H
                  have H := H1
                  clear H1
                  have H' := Aside0.mk H
                  clear H
                  have hnb58 := NB141_142.out
                  have hnc58 := NB142_141.out
                  have hcz59_0 : wc.cell? ⟨gb141, 0, none⟩ = some (.bool x142000_1) := (blk_cell BK141.out 0).trans rfl
                  have hcz59_1 : wc.cell? ⟨gb141, 1, none⟩ = some (.int .i64 x142001_1) := (blk_cell BK141.out 1).trans rfl
                  have hcz59_2 : wc.cell? ⟨gb141, 2, none⟩ = some (.int .i64 x142002_1) := (blk_cell BK141.out 2).trans rfl
                  have hcz59_3 : wc.cell? ⟨gb141, 3, none⟩ = some (.int .u64 x142003_1) := (blk_cell BK141.out 3).trans rfl
                  have hcz59_4 : wc.cell? ⟨gb141, 4, none⟩ = some (.int .u64 x142004_1) := (blk_cell BK141.out 4).trans rfl
                  have hcz59_5 : wc.cell? ⟨gb141, 5, none⟩ = some (.bool x142005_1) := (blk_cell BK141.out 5).trans rfl
                  have hcz59_6 : wc.cell? ⟨gb141, 6, none⟩ = some (.int .u64 x142006_1) := (blk_cell BK141.out 6).trans rfl
                  have hfz59_0 := blk_frozen BK141.out 0
                  have hfz59_1 := blk_frozen BK141.out 1
                  have hfz59_2 := blk_frozen BK141.out 2
                  have hfz59_3 := blk_frozen BK141.out 3
                  have hfz59_4 := blk_frozen BK141.out 4
                  have hfz59_5 := blk_frozen BK141.out 5
                  have hfz59_6 := blk_frozen BK141.out 6
                  go_wp2_with (first | ((with_reducible refine gate_callee (f := 24) rfl ?_); refine goesL_ (some 29) rfl rfl Try.func24 (by kernel_rfl) rfl #[.agg #[.bool x142000_1, .int .i64 x142001_1, .int .i64 x142002_1, .int .u64 x142003_1, .int .u64 x142004_1, .bool x142005_1, .int .u64 x142006_1], .int .u64 x11_6, .int .u64 x2_1] rfl (by (try simp only [List.map_toArray, List.map_cons, List.map_nil]); first | done | rfl | (simp only [List.length_drop, List.length_take]; rfl)) ?_; (with_reducible refine (slice_Decide.calls x142000_1 x142001_1 x142002_1 x142003_1 x142004_1 x142005_1 x142006_1 x11_6 x2_1 t144 _ A10.out).mono ?_); rintro e w60 ⟨rfl, hb⟩; refine ⟨_, rfl, ?_⟩; have n0_ := Aside0.mk (blk_below (g := gb141) (o := .cells #[.bool x142000_1, .int .i64 x142001_1, .int .i64 x142002_1, .int .u64 x142003_1, .int .u64 x142004_1, .bool x142005_1, .int .u64 x142006_1] 28 (0, 0)) (by (with_reducible repeat (first | refine blk_drewN ?_ _ | refine blk_drew ?_ | refine blk_alloc ?_ _)); exact BK141.out) hb); have n1_ := Aside0.mk (blk_below (g := gb142) (o := .cells #[.bool false, .int .i64 0, .int .i64 0, .int .u64 0, .int .u64 0, .bool false, .int .u64 0] 28 (0, 0)) (by (with_reducible repeat (first | refine blk_drewN ?_ _ | refine blk_drew ?_ | refine blk_alloc ?_ _)); exact BK142.out) hb); have n2_ := Aside0.mk (below_step (by repeat (first | (with_reducible first | exact HB.out | apply below_alloc | apply pw_below_drewN | apply below_drew1 | refine below_set ?_ GE141.out | refine below_set ?_ GE142.out) | exact HB.out)) hb); clear BK141; clear BK142; clear HB; have BK141 := n0_; have BK142 := n1_; have HB := n2_; clear n0_ n1_ n2_; (try clear hb); (try clear hb2); (try clear hk); (try clear hi); have hcz61_0 : w60.cell? ⟨gb141, 0, none⟩ = some (.bool x142000_1) := (blk_cell BK141.out 0).trans rfl; have hcz61_1 : w60.cell? ⟨gb141, 1, none⟩ = some (.int .i64 x142001_1) := (blk_cell BK141.out 1).trans rfl; have hcz61_2 : w60.cell? ⟨gb141, 2, none⟩ = some (.int .i64 x142002_1) := (blk_cell BK141.out 2).trans rfl; have hcz61_3 : w60.cell? ⟨gb141, 3, none⟩ = some (.int .u64 x142003_1) := (blk_cell BK141.out 3).trans rfl; have hcz61_4 : w60.cell? ⟨gb141, 4, none⟩ = some (.int .u64 x142004_1) := (blk_cell BK141.out 4).trans rfl; have hcz61_5 : w60.cell? ⟨gb141, 5, none⟩ = some (.bool x142005_1) := (blk_cell BK141.out 5).trans rfl; have hcz61_6 : w60.cell? ⟨gb141, 6, none⟩ = some (.int .u64 x142006_1) := (blk_cell BK141.out 6).trans rfl; have hfz61_0 := blk_frozen BK141.out 0; have hfz61_1 := blk_frozen BK141.out 1; have hfz61_2 := blk_frozen BK141.out 2; have hfz61_3 := blk_frozen BK141.out 3; have hfz61_4 := blk_frozen BK141.out 4; have hfz61_5 := blk_frozen BK141.out 5; have hfz61_6 := blk_frozen BK141.out 6) | ((with_reducible refine gate_callee (f := 18) rfl ?_); refine goesL_ (some 51) rfl rfl Try.func18 (by kernel_rfl) rfl #[.agg #[.bool x142000_1, .int .i64 x142001_1, .int .i64 x142002_1, .int .u64 x142003_1, .int .u64 x142004_1, .bool x142005_1, .int .u64 x142006_1]] rfl (by (try simp only [List.map_toArray, List.map_cons, List.map_nil]); first | done | rfl | (simp only [List.length_drop, List.length_take]; rfl)) ?_; (with_reducible refine (slice_Tick.calls x142000_1 x142001_1 x142002_1 x142003_1 x142004_1 x142005_1 x142006_1 t163 t164 t165 t166 t167 t168 t169 false t171 _ A50.out).mono ?_); rintro e w62 ⟨rfl, hb⟩; refine ⟨_, rfl, ?_⟩; have n0_ := Aside0.mk (blk_below (g := gb141) (o := .cells #[.bool x142000_1, .int .i64 x142001_1, .int .i64 x142002_1, .int .u64 x142003_1, .int .u64 x142004_1, .bool x142005_1, .int .u64 x142006_1] 28 (0, 0)) (by (with_reducible repeat (first | refine blk_drewN ?_ _ | refine blk_drew ?_ | refine blk_alloc ?_ _)); exact BK141.out) hb); have n1_ := Aside0.mk (blk_below (g := gb142) (o := .cells #[.bool false, .int .i64 0, .int .i64 0, .int .u64 0, .int .u64 0, .bool false, .int .u64 0] 28 (0, 0)) (by (with_reducible repeat (first | refine blk_drewN ?_ _ | refine blk_drew ?_ | refine blk_alloc ?_ _)); exact BK142.out) hb); have n2_ := Aside0.mk (below_step (by repeat (first | (with_reducible first | exact HB.out | apply below_alloc | apply pw_below_drewN | apply below_drew1 | refine below_set ?_ GE141.out | refine below_set ?_ GE142.out) | exact HB.out)) hb); clear BK141; clear BK142; clear HB; have BK141 := n0_; have BK142 := n1_; have HB := n2_; clear n0_ n1_ n2_; (try clear hb); (try clear hb2); (try clear hk); (try clear hi); have hcz63_0 : w62.cell? ⟨gb141, 0, none⟩ = some (.bool x142000_1) := (blk_cell BK141.out 0).trans rfl; have hcz63_1 : w62.cell? ⟨gb141, 1, none⟩ = some (.int .i64 x142001_1) := (blk_cell BK141.out 1).trans rfl; have hcz63_2 : w62.cell? ⟨gb141, 2, none⟩ = some (.int .i64 x142002_1) := (blk_cell BK141.out 2).trans rfl; have hcz63_3 : w62.cell? ⟨gb141, 3, none⟩ = some (.int .u64 x142003_1) := (blk_cell BK141.out 3).trans rfl; have hcz63_4 : w62.cell? ⟨gb141, 4, none⟩ = some (.int .u64 x142004_1) := (blk_cell BK141.out 4).trans rfl; have hcz63_5 : w62.cell? ⟨gb141, 5, none⟩ = some (.bool x142005_1) := (blk_cell BK141.out 5).trans rfl; have hcz63_6 : w62.cell? ⟨gb141, 6, none⟩ = some (.int .u64 x142006_1) := (blk_cell BK141.out 6).trans rfl; have hfz63_0 := blk_frozen BK141.out 0; have hfz63_1 := blk_frozen BK141.out 1; have hfz63_2 := blk_frozen BK141.out 2; have hfz63_3 := blk_frozen BK141.out 3; have hfz63_4 := blk_frozen BK141.out 4; have hfz63_5 := blk_frozen BK141.out 5; have hfz63_6 := blk_frozen BK141.out 6))
                  go_roundg kj6
                  case measure => have := HK1.out; have := HJ6.out; omega
                  case rel => exact ⟨(IntKind.u64.wrap (x2_1 - 1)), (x9_1), (IntKind.u64.wrap (x10_1 + 1)), (t163), (t164), (t165), (t166), (t167), (t168), (t169), (by first | rfl | (simp; done) | (simp [*]; done)), (by first | rfl | (simp; done) | (simp [*]; done)), (by first | rfl | (simp; done) | (simp [*]; done)), H', ⟨by have := HK1.out; have := HJ6.out; omega⟩, ⟨by (with_reducible repeat (first | refine blk_drewN ?_ _ | refine blk_drew ?_ | refine blk_alloc ?_ _)); refine blk_put (cs := #[.bool t163, .int .i64 t164, .int .i64 t165, .int .u64 t166, .int .u64 t167, .bool t168, .int .u64 x142006_1]) ?_ 6 _ rfl; (with_reducible repeat (first | refine blk_drewN ?_ _ | refine blk_drew ?_ | refine blk_alloc ?_ _)); refine blk_put (cs := #[.bool t163, .int .i64 t164, .int .i64 t165, .int .u64 t166, .int .u64 t167, .bool x142005_1, .int .u64 x142006_1]) ?_ 5 _ rfl; (with_reducible repeat (first | refine blk_drewN ?_ _ | refine blk_drew ?_ | refine blk_alloc ?_ _)); refine blk_put (cs := #[.bool t163, .int .i64 t164, .int .i64 t165, .int .u64 t166, .int .u64 x142004_1, .bool x142005_1, .int .u64 x142006_1]) ?_ 4 _ rfl; (with_reducible repeat (first | refine blk_drewN ?_ _ | refine blk_drew ?_ | refine blk_alloc ?_ _)); refine blk_put (cs := #[.bool t163, .int .i64 t164, .int .i64 t165, .int .u64 x142003_1, .int .u64 x142004_1, .bool x142005_1, .int .u64 x142006_1]) ?_ 3 _ rfl; (with_reducible repeat (first | refine blk_drewN ?_ _ | refine blk_drew ?_ | refine blk_alloc ?_ _)); refine blk_put (cs := #[.bool t163, .int .i64 t164, .int .i64 x142002_1, .int .u64 x142003_1, .int .u64 x142004_1, .bool x142005_1, .int .u64 x142006_1]) ?_ 2 _ rfl; (with_reducible repeat (first | refine blk_drewN ?_ _ | refine blk_drew ?_ | refine blk_alloc ?_ _)); refine blk_put (cs := #[.bool t163, .int .i64 x142001_1, .int .i64 x142002_1, .int .u64 x142003_1, .int .u64 x142004_1, .bool x142005_1, .int .u64 x142006_1]) ?_ 1 _ rfl; (with_reducible repeat (first | refine blk_drewN ?_ _ | refine blk_drew ?_ | refine blk_alloc ?_ _)); refine blk_put (cs := #[.bool x142000_1, .int .i64 x142001_1, .int .i64 x142002_1, .int .u64 x142003_1, .int .u64 x142004_1, .bool x142005_1, .int .u64 x142006_1]) ?_ 0 _ rfl; (with_reducible repeat (first | refine blk_drewN ?_ _ | refine blk_drew ?_ | refine blk_alloc ?_ _)); exact BK141.out⟩, ⟨by (with_reducible repeat (first | refine blk_drewN ?_ _ | refine blk_drew ?_ | refine blk_alloc ?_ _)); refine blk_far ?_ NB142_141.out _; (with_reducible repeat (first | refine blk_drewN ?_ _ | refine blk_drew ?_ | refine blk_alloc ?_ _)); refine blk_far ?_ NB142_141.out _; (with_reducible repeat (first | refine blk_drewN ?_ _ | refine blk_drew ?_ | refine blk_alloc ?_ _)); refine blk_far ?_ NB142_141.out _; (with_reducible repeat (first | refine blk_drewN ?_ _ | refine blk_drew ?_ | refine blk_alloc ?_ _)); refine blk_far ?_ NB142_141.out _; (with_reducible repeat (first | refine blk_drewN ?_ _ | refine blk_drew ?_ | refine blk_alloc ?_ _)); refine blk_far ?_ NB142_141.out _; (with_reducible repeat (first | refine blk_drewN ?_ _ | refine blk_drew ?_ | refine blk_alloc ?_ _)); refine blk_far ?_ NB142_141.out _; (with_reducible repeat (first | refine blk_drewN ?_ _ | refine blk_drew ?_ | refine blk_alloc ?_ _)); refine blk_far ?_ NB142_141.out _; (with_reducible repeat (first | refine blk_drewN ?_ _ | refine blk_drew ?_ | refine blk_alloc ?_ _)); exact BK142.out⟩, ⟨by repeat (first | (with_reducible first | exact HB.out | apply below_alloc | apply pw_below_drewN | apply below_drew1 | refine below_set ?_ GE141.out | refine below_set ?_ GE142.out) | exact HB.out)⟩⟩
              · rw [if_neg c49] at H
                have c49b0 : (t144 == 2) = false := beq_eq_false_iff_ne.mpr c49
                have c49b1 : (t144 != 2) = true := bne_iff_ne.mpr c49
                simp only [Option.some.injEq, Prod.mk.injEq] at H
                obtain ⟨rfl, rfl, rfl, rfl, rfl, rfl, rfl, rfl, rfl⟩ := H
                have hnb64 := NB141_142.out
                have hnc64 := NB142_141.out
                have hcz65_0 : wc.cell? ⟨gb141, 0, none⟩ = some (.bool x142000_1) := (blk_cell BK141.out 0).trans rfl
                have hcz65_1 : wc.cell? ⟨gb141, 1, none⟩ = some (.int .i64 x142001_1) := (blk_cell BK141.out 1).trans rfl
                have hcz65_2 : wc.cell? ⟨gb141, 2, none⟩ = some (.int .i64 x142002_1) := (blk_cell BK141.out 2).trans rfl
                have hcz65_3 : wc.cell? ⟨gb141, 3, none⟩ = some (.int .u64 x142003_1) := (blk_cell BK141.out 3).trans rfl
                have hcz65_4 : wc.cell? ⟨gb141, 4, none⟩ = some (.int .u64 x142004_1) := (blk_cell BK141.out 4).trans rfl
                have hcz65_5 : wc.cell? ⟨gb141, 5, none⟩ = some (.bool x142005_1) := (blk_cell BK141.out 5).trans rfl
                have hcz65_6 : wc.cell? ⟨gb141, 6, none⟩ = some (.int .u64 x142006_1) := (blk_cell BK141.out 6).trans rfl
                have hfz65_0 := blk_frozen BK141.out 0
                have hfz65_1 := blk_frozen BK141.out 1
                have hfz65_2 := blk_frozen BK141.out 2
                have hfz65_3 := blk_frozen BK141.out 3
                have hfz65_4 := blk_frozen BK141.out 4
                have hfz65_5 := blk_frozen BK141.out 5
                have hfz65_6 := blk_frozen BK141.out 6
                try go_wp2_with (first | ((with_reducible refine gate_callee (f := 24) rfl ?_); refine goesL_ (some 29) rfl rfl Try.func24 (by kernel_rfl) rfl #[.agg #[.bool x142000_1, .int .i64 x142001_1, .int .i64 x142002_1, .int .u64 x142003_1, .int .u64 x142004_1, .bool x142005_1, .int .u64 x142006_1], .int .u64 x11_6, .int .u64 x2_1] rfl (by (try simp only [List.map_toArray, List.map_cons, List.map_nil]); first | done | rfl | (simp only [List.length_drop, List.length_take]; rfl)) ?_; (with_reducible refine (slice_Decide.calls x142000_1 x142001_1 x142002_1 x142003_1 x142004_1 x142005_1 x142006_1 x11_6 x2_1 t144 _ A10.out).mono ?_); rintro e w66 ⟨rfl, hb⟩; refine ⟨_, rfl, ?_⟩; have n0_ := Aside0.mk (blk_below (g := gb141) (o := .cells #[.bool x142000_1, .int .i64 x142001_1, .int .i64 x142002_1, .int .u64 x142003_1, .int .u64 x142004_1, .bool x142005_1, .int .u64 x142006_1] 28 (0, 0)) (by (with_reducible repeat (first | refine blk_drewN ?_ _ | refine blk_drew ?_ | refine blk_alloc ?_ _)); exact BK141.out) hb); have n1_ := Aside0.mk (blk_below (g := gb142) (o := .cells #[.bool false, .int .i64 0, .int .i64 0, .int .u64 0, .int .u64 0, .bool false, .int .u64 0] 28 (0, 0)) (by (with_reducible repeat (first | refine blk_drewN ?_ _ | refine blk_drew ?_ | refine blk_alloc ?_ _)); exact BK142.out) hb); have n2_ := Aside0.mk (below_step (by repeat (first | (with_reducible first | exact HB.out | apply below_alloc | apply pw_below_drewN | apply below_drew1 | refine below_set ?_ GE141.out | refine below_set ?_ GE142.out) | exact HB.out)) hb); clear BK141; clear BK142; clear HB; have BK141 := n0_; have BK142 := n1_; have HB := n2_; clear n0_ n1_ n2_; (try clear hb); (try clear hb2); (try clear hk); (try clear hi)))
                have n0_ := Aside0.mk (blk_drew BK141.out)
                have n1_ := Aside0.mk (blk_drew BK142.out)
                have n2_ := Aside0.mk (below_drew1 HB.out)
                clear BK141
                clear BK142
                clear HB
                have BK141 := n0_
                have BK142 := n1_
                have HB := n2_
                clear n0_ n1_ n2_
                refine start_ (n := 6) (S := fun w' => w'.cell? ⟨gb141, 0, none⟩ = some (.bool x142000_1) ∧ w'.cell? ⟨gb141, 1, none⟩ = some (.int .i64 x142001_1) ∧ w'.cell? ⟨gb141, 2, none⟩ = some (.int .i64 x142002_1) ∧ w'.cell? ⟨gb141, 3, none⟩ = some (.int .u64 x142003_1) ∧ w'.cell? ⟨gb141, 4, none⟩ = some (.int .u64 x142004_1) ∧ w'.cell? ⟨gb141, 5, none⟩ = some (.bool x142005_1) ∧ w'.cell? ⟨gb141, 6, none⟩ = some (.int .u64 x142006_1)) (ds := []) #[false, false, false, false, false, false] (by kernel_rfl) rfl rfl ⟨(blk_cell BK141.out 0).trans rfl, (blk_cell BK141.out 1).trans rfl, (blk_cell BK141.out 2).trans rfl, (blk_cell BK141.out 3).trans rfl, (blk_cell BK141.out 4).trans rfl, (blk_cell BK141.out 5).trans rfl, (blk_cell BK141.out 6).trans rfl⟩ (fun hHeld => ?_)
                generalize w66.drew = w67 at BK141 BK142 HB hHeld ⊢
                refine pure_ (i := 0) (N := some 62) (v := ?_) (a' := ?_) #[true, false, false, false, false, false] rfl rfl (by kernel_rfl) (fun _ _ _ h => h) (Or.inl ⟨by rfl, ?_⟩) ?_ ?_
                rotate_left
                · intro w'
                  go_simp
                  with_reducible rfl
                rotate_left
                · simp only [Act.put, List.setIfInBounds_toArray, List.set_cons_zero, List.set_cons_succ, i64_w, i32_w]
                  rfl
                refine pure_ (i := 1) (N := some 63) (v := ?_) (a' := ?_) #[true, true, false, false, false, false] rfl rfl (by kernel_rfl) (fun _ _ _ h => h) (Or.inl ⟨by rfl, ?_⟩) ?_ ?_
                rotate_left
                · intro w'
                  go_simp
                  with_reducible rfl
                rotate_left
                · simp only [Act.put, List.setIfInBounds_toArray, List.set_cons_zero, List.set_cons_succ, i64_w, i32_w]
                  rfl
                refine pure_ (i := 3) (N := some 6) (v := ?_) (a' := ?_) #[true, true, false, true, false, false] rfl rfl (by kernel_rfl) (fun _ _ _ h => h) (Or.inl ⟨by rfl, ?_⟩) ?_ ?_
                rotate_left
                · intro w'
                  go_simp
                  with_reducible rfl
                rotate_left
                · simp only [Act.put, List.setIfInBounds_toArray, List.set_cons_zero, List.set_cons_succ, i64_w, i32_w]
                  rfl
                refine pure_ (i := 4) (N := some 7) (v := ?_) (a' := ?_) #[true, true, false, true, true, false] rfl rfl (by kernel_rfl) (fun _ _ _ h => h) (Or.inl ⟨by rfl, ?_⟩) ?_ ?_
                rotate_left
                · intro w'
                  go_simp
                  with_reducible rfl
                rotate_left
                · simp only [Act.put, List.setIfInBounds_toArray, List.set_cons_zero, List.set_cons_succ, i64_w, i32_w]
                  rfl
                refine take_ (i := 2) (N := some 64) (v := ?_) (a' := ?_) #[true, true, true, true, true, false] rfl rfl (by kernel_rfl) (fun _ _ _ h => h) (Or.inl ⟨by rfl, ?_⟩) hHeld ?_ ?_
                rotate_left
                · rintro w' ⟨s0, s1, s2, s3, s4, s5, s6⟩
                  go_simp
                  with_reducible rfl
                rotate_left
                · simp only [Act.put, List.setIfInBounds_toArray, List.set_cons_zero, List.set_cons_succ, i64_w, i32_w]
                  rfl
                refine one_ (i := 5) (N := none) #[true, true, true, true, true, true] rfl rfl (by kernel_rfl) (by decide) (fun K hK => ?_)
                have hs68 : w67.cell? ⟨gb142, 0, none⟩ = some (.bool false) := (blk_cell BK142.out 0).trans rfl
                have hfs68 := blk_frozen BK142.out 0
                have hns68_0 := NB141_142.out
                have hms68_0 := NB142_141.out
                have hs69 : w67.cell? ⟨gb142, 1, none⟩ = some (.int .i64 0) := (blk_cell BK142.out 1).trans rfl
                have hfs69 := blk_frozen BK142.out 1
                have hns69_0 := NB141_142.out
                have hms69_0 := NB142_141.out
                have hs70 : w67.cell? ⟨gb142, 2, none⟩ = some (.int .i64 0) := (blk_cell BK142.out 2).trans rfl
                have hfs70 := blk_frozen BK142.out 2
                have hns70_0 := NB141_142.out
                have hms70_0 := NB142_141.out
                have hs71 : w67.cell? ⟨gb142, 3, none⟩ = some (.int .u64 0) := (blk_cell BK142.out 3).trans rfl
                have hfs71 := blk_frozen BK142.out 3
                have hns71_0 := NB141_142.out
                have hms71_0 := NB142_141.out
                have hs72 : w67.cell? ⟨gb142, 4, none⟩ = some (.int .u64 0) := (blk_cell BK142.out 4).trans rfl
                have hfs72 := blk_frozen BK142.out 4
                have hns72_0 := NB141_142.out
                have hms72_0 := NB142_141.out
                have hs73 : w67.cell? ⟨gb142, 5, none⟩ = some (.bool false) := (blk_cell BK142.out 5).trans rfl
                have hfs73 := blk_frozen BK142.out 5
                have hns73_0 := NB141_142.out
                have hms73_0 := NB142_141.out
                have hs74 : w67.cell? ⟨gb142, 6, none⟩ = some (.int .u64 0) := (blk_cell BK142.out 6).trans rfl
                have hfs74 := blk_frozen BK142.out 6
                have hns74_0 := NB141_142.out
                have hms74_0 := NB142_141.out
                refine skip_ (w1 := ?_) (by rfl) rfl ?_ ?_
                rotate_left
                · go_simp
                  rfl
                refine hK.out _ _ ⟨((cell_far (p := ⟨gb142, _, none⟩) NB141_142.out _).trans (((cell_far (p := ⟨gb142, _, none⟩) NB141_142.out _).trans (((cell_far (p := ⟨gb142, _, none⟩) NB141_142.out _).trans (((cell_far (p := ⟨gb142, _, none⟩) NB141_142.out _).trans (((cell_far (p := ⟨gb142, _, none⟩) NB141_142.out _).trans (((cell_far (p := ⟨gb142, _, none⟩) NB141_142.out _).trans (((cell_far (p := ⟨gb142, _, none⟩) NB141_142.out _).trans (hHeld.1)))))))))))))), ((cell_far (p := ⟨gb142, _, none⟩) NB141_142.out _).trans (((cell_far (p := ⟨gb142, _, none⟩) NB141_142.out _).trans (((cell_far (p := ⟨gb142, _, none⟩) NB141_142.out _).trans (((cell_far (p := ⟨gb142, _, none⟩) NB141_142.out _).trans (((cell_far (p := ⟨gb142, _, none⟩) NB141_142.out _).trans (((cell_far (p := ⟨gb142, _, none⟩) NB141_142.out _).trans (((cell_far (p := ⟨gb142, _, none⟩) NB141_142.out _).trans (hHeld.2.1)))))))))))))), ((cell_far (p := ⟨gb142, _, none⟩) NB141_142.out _).trans (((cell_far (p := ⟨gb142, _, none⟩) NB141_142.out _).trans (((cell_far (p := ⟨gb142, _, none⟩) NB141_142.out _).trans (((cell_far (p := ⟨gb142, _, none⟩) NB141_142.out _).trans (((cell_far (p := ⟨gb142, _, none⟩) NB141_142.out _).trans (((cell_far (p := ⟨gb142, _, none⟩) NB141_142.out _).trans (((cell_far (p := ⟨gb142, _, none⟩) NB141_142.out _).trans (hHeld.2.2.1)))))))))))))), ((cell_far (p := ⟨gb142, _, none⟩) NB141_142.out _).trans (((cell_far (p := ⟨gb142, _, none⟩) NB141_142.out _).trans (((cell_far (p := ⟨gb142, _, none⟩) NB141_142.out _).trans (((cell_far (p := ⟨gb142, _, none⟩) NB141_142.out _).trans (((cell_far (p := ⟨gb142, _, none⟩) NB141_142.out _).trans (((cell_far (p := ⟨gb142, _, none⟩) NB141_142.out _).trans (((cell_far (p := ⟨gb142, _, none⟩) NB141_142.out _).trans (hHeld.2.2.2.1)))))))))))))), ((cell_far (p := ⟨gb142, _, none⟩) NB141_142.out _).trans (((cell_far (p := ⟨gb142, _, none⟩) NB141_142.out _).trans (((cell_far (p := ⟨gb142, _, none⟩) NB141_142.out _).trans (((cell_far (p := ⟨gb142, _, none⟩) NB141_142.out _).trans (((cell_far (p := ⟨gb142, _, none⟩) NB141_142.out _).trans (((cell_far (p := ⟨gb142, _, none⟩) NB141_142.out _).trans (((cell_far (p := ⟨gb142, _, none⟩) NB141_142.out _).trans (hHeld.2.2.2.2.1)))))))))))))), ((cell_far (p := ⟨gb142, _, none⟩) NB141_142.out _).trans (((cell_far (p := ⟨gb142, _, none⟩) NB141_142.out _).trans (((cell_far (p := ⟨gb142, _, none⟩) NB141_142.out _).trans (((cell_far (p := ⟨gb142, _, none⟩) NB141_142.out _).trans (((cell_far (p := ⟨gb142, _, none⟩) NB141_142.out _).trans (((cell_far (p := ⟨gb142, _, none⟩) NB141_142.out _).trans (((cell_far (p := ⟨gb142, _, none⟩) NB141_142.out _).trans (hHeld.2.2.2.2.2.1)))))))))))))), ((cell_far (p := ⟨gb142, _, none⟩) NB141_142.out _).trans (((cell_far (p := ⟨gb142, _, none⟩) NB141_142.out _).trans (((cell_far (p := ⟨gb142, _, none⟩) NB141_142.out _).trans (((cell_far (p := ⟨gb142, _, none⟩) NB141_142.out _).trans (((cell_far (p := ⟨gb142, _, none⟩) NB141_142.out _).trans (((cell_far (p := ⟨gb142, _, none⟩) NB141_142.out _).trans (((cell_far (p := ⟨gb142, _, none⟩) NB141_142.out _).trans (hHeld.2.2.2.2.2.2))))))))))))))⟩ (fun hHeld => ?_)
                clear hK K
                refine done_ (by kernel_rfl) ?_
                try go_wp2
                refine bodyPost_ret (results_list (rs := [.tmp 6, .tmp 7, .cell 8 28]) rfl (by simp) (.tmp (.tmp (.cell gb142 28 #[.bool x142000_1, .int .i64 x142001_1, .int .i64 x142002_1, .int .u64 x142003_1, .int .u64 x142004_1, .bool x142005_1, .int .u64 x142006_1] (0, 0) _ rfl (by (with_reducible repeat (first | refine blk_drewN ?_ _ | refine blk_drew ?_ | refine blk_alloc ?_ _)); refine blk_put (cs := #[.bool x142000_1, .int .i64 x142001_1, .int .i64 x142002_1, .int .u64 x142003_1, .int .u64 x142004_1, .bool x142005_1, .int .u64 0]) ?_ 6 _ rfl; (with_reducible repeat (first | refine blk_drewN ?_ _ | refine blk_drew ?_ | refine blk_alloc ?_ _)); refine blk_put (cs := #[.bool x142000_1, .int .i64 x142001_1, .int .i64 x142002_1, .int .u64 x142003_1, .int .u64 x142004_1, .bool false, .int .u64 0]) ?_ 5 _ rfl; (with_reducible repeat (first | refine blk_drewN ?_ _ | refine blk_drew ?_ | refine blk_alloc ?_ _)); refine blk_put (cs := #[.bool x142000_1, .int .i64 x142001_1, .int .i64 x142002_1, .int .u64 x142003_1, .int .u64 0, .bool false, .int .u64 0]) ?_ 4 _ rfl; (with_reducible repeat (first | refine blk_drewN ?_ _ | refine blk_drew ?_ | refine blk_alloc ?_ _)); refine blk_put (cs := #[.bool x142000_1, .int .i64 x142001_1, .int .i64 x142002_1, .int .u64 0, .int .u64 0, .bool false, .int .u64 0]) ?_ 3 _ rfl; (with_reducible repeat (first | refine blk_drewN ?_ _ | refine blk_drew ?_ | refine blk_alloc ?_ _)); refine blk_put (cs := #[.bool x142000_1, .int .i64 x142001_1, .int .i64 0, .int .u64 0, .int .u64 0, .bool false, .int .u64 0]) ?_ 2 _ rfl; (with_reducible repeat (first | refine blk_drewN ?_ _ | refine blk_drew ?_ | refine blk_alloc ?_ _)); refine blk_put (cs := #[.bool x142000_1, .int .i64 0, .int .i64 0, .int .u64 0, .int .u64 0, .bool false, .int .u64 0]) ?_ 1 _ rfl; (with_reducible repeat (first | refine blk_drewN ?_ _ | refine blk_drew ?_ | refine blk_alloc ?_ _)); refine blk_put (cs := #[.bool false, .int .i64 0, .int .i64 0, .int .u64 0, .int .u64 0, .bool false, .int .u64 0]) ?_ 0 _ rfl; (with_reducible repeat (first | refine blk_drewN ?_ _ | refine blk_drew ?_ | refine blk_alloc ?_ _)); exact BK142.out) Try.underlying28 rfl (by kernel_rfl) .nil)))) rfl ?_
                exact ⟨by first | rfl | (simp [errW_none, errW_some] <;> rfl) | (simp [*, errW_none, errW_some] <;> rfl), by repeat (first | (with_reducible first | exact HB.out | apply below_alloc | apply pw_below_drewN | apply below_drew1 | refine below_set ?_ GE141.out | refine below_set ?_ GE142.out) | exact HB.out)⟩
      · rw [if_neg c6] at H
        have c6b0 : decide (0 < x2_1) = false := decide_eq_false c6
        clear c6
        simp only [Option.some.injEq, Prod.mk.injEq] at H
        obtain ⟨rfl, rfl, rfl, rfl, rfl, rfl, rfl, rfl, rfl⟩ := H
        try go_wp2
        have n0_ := Aside0.mk (blk_drew BK141.out)
        have n1_ := Aside0.mk (blk_drew BK142.out)
        have n2_ := Aside0.mk (below_drew1 HB.out)
        clear BK141
        clear BK142
        clear HB
        have BK141 := n0_
        have BK142 := n1_
        have HB := n2_
        clear n0_ n1_ n2_
        refine start_ (n := 6) (S := fun w' => w'.cell? ⟨gb141, 0, none⟩ = some (.bool x142000_1) ∧ w'.cell? ⟨gb141, 1, none⟩ = some (.int .i64 x142001_1) ∧ w'.cell? ⟨gb141, 2, none⟩ = some (.int .i64 x142002_1) ∧ w'.cell? ⟨gb141, 3, none⟩ = some (.int .u64 x142003_1) ∧ w'.cell? ⟨gb141, 4, none⟩ = some (.int .u64 x142004_1) ∧ w'.cell? ⟨gb141, 5, none⟩ = some (.bool x142005_1) ∧ w'.cell? ⟨gb141, 6, none⟩ = some (.int .u64 x142006_1)) (ds := []) #[false, false, false, false, false, false] (by kernel_rfl) rfl rfl ⟨(blk_cell BK141.out 0).trans rfl, (blk_cell BK141.out 1).trans rfl, (blk_cell BK141.out 2).trans rfl, (blk_cell BK141.out 3).trans rfl, (blk_cell BK141.out 4).trans rfl, (blk_cell BK141.out 5).trans rfl, (blk_cell BK141.out 6).trans rfl⟩ (fun hHeld => ?_)
        generalize wr.drew = w75 at BK141 BK142 HB hHeld ⊢
        refine pure_ (i := 0) (N := some 62) (v := ?_) (a' := ?_) #[true, false, false, false, false, false] rfl rfl (by kernel_rfl) (fun _ _ _ h => h) (Or.inl ⟨by rfl, ?_⟩) ?_ ?_
        rotate_left
        · intro w'
          go_simp
          with_reducible rfl
        rotate_left
        · simp only [Act.put, List.setIfInBounds_toArray, List.set_cons_zero, List.set_cons_succ, i64_w, i32_w]
          rfl
        refine pure_ (i := 1) (N := some 63) (v := ?_) (a' := ?_) #[true, true, false, false, false, false] rfl rfl (by kernel_rfl) (fun _ _ _ h => h) (Or.inl ⟨by rfl, ?_⟩) ?_ ?_
        rotate_left
        · intro w'
          go_simp
          with_reducible rfl
        rotate_left
        · simp only [Act.put, List.setIfInBounds_toArray, List.set_cons_zero, List.set_cons_succ, i64_w, i32_w]
          rfl
        refine pure_ (i := 3) (N := some 6) (v := ?_) (a' := ?_) #[true, true, false, true, false, false] rfl rfl (by kernel_rfl) (fun _ _ _ h => h) (Or.inl ⟨by rfl, ?_⟩) ?_ ?_
        rotate_left
        · intro w'
          go_simp
          with_reducible rfl
        rotate_left
        · simp only [Act.put, List.setIfInBounds_toArray, List.set_cons_zero, List.set_cons_succ, i64_w, i32_w]
          rfl
        refine pure_ (i := 4) (N := some 7) (v := ?_) (a' := ?_) #[true, true, false, true, true, false] rfl rfl (by kernel_rfl) (fun _ _ _ h => h) (Or.inl ⟨by rfl, ?_⟩) ?_ ?_
        rotate_left
        · intro w'
          go_simp
          with_reducible rfl
        rotate_left
        · simp only [Act.put, List.setIfInBounds_toArray, List.set_cons_zero, List.set_cons_succ, i64_w, i32_w]
          rfl
        refine take_ (i := 2) (N := some 64) (v := ?_) (a' := ?_) #[true, true, true, true, true, false] rfl rfl (by kernel_rfl) (fun _ _ _ h => h) (Or.inl ⟨by rfl, ?_⟩) hHeld ?_ ?_
        rotate_left
        · rintro w' ⟨s0, s1, s2, s3, s4, s5, s6⟩
          go_simp
          with_reducible rfl
        rotate_left
        · simp only [Act.put, List.setIfInBounds_toArray, List.set_cons_zero, List.set_cons_succ, i64_w, i32_w]
          rfl
        refine one_ (i := 5) (N := none) #[true, true, true, true, true, true] rfl rfl (by kernel_rfl) (by decide) (fun K hK => ?_)
        have hs76 : w75.cell? ⟨gb142, 0, none⟩ = some (.bool false) := (blk_cell BK142.out 0).trans rfl
        have hfs76 := blk_frozen BK142.out 0
        have hns76_0 := NB141_142.out
        have hms76_0 := NB142_141.out
        have hs77 : w75.cell? ⟨gb142, 1, none⟩ = some (.int .i64 0) := (blk_cell BK142.out 1).trans rfl
        have hfs77 := blk_frozen BK142.out 1
        have hns77_0 := NB141_142.out
        have hms77_0 := NB142_141.out
        have hs78 : w75.cell? ⟨gb142, 2, none⟩ = some (.int .i64 0) := (blk_cell BK142.out 2).trans rfl
        have hfs78 := blk_frozen BK142.out 2
        have hns78_0 := NB141_142.out
        have hms78_0 := NB142_141.out
        have hs79 : w75.cell? ⟨gb142, 3, none⟩ = some (.int .u64 0) := (blk_cell BK142.out 3).trans rfl
        have hfs79 := blk_frozen BK142.out 3
        have hns79_0 := NB141_142.out
        have hms79_0 := NB142_141.out
        have hs80 : w75.cell? ⟨gb142, 4, none⟩ = some (.int .u64 0) := (blk_cell BK142.out 4).trans rfl
        have hfs80 := blk_frozen BK142.out 4
        have hns80_0 := NB141_142.out
        have hms80_0 := NB142_141.out
        have hs81 : w75.cell? ⟨gb142, 5, none⟩ = some (.bool false) := (blk_cell BK142.out 5).trans rfl
        have hfs81 := blk_frozen BK142.out 5
        have hns81_0 := NB141_142.out
        have hms81_0 := NB142_141.out
        have hs82 : w75.cell? ⟨gb142, 6, none⟩ = some (.int .u64 0) := (blk_cell BK142.out 6).trans rfl
        have hfs82 := blk_frozen BK142.out 6
        have hns82_0 := NB141_142.out
        have hms82_0 := NB142_141.out
        refine skip_ (w1 := ?_) (by rfl) rfl ?_ ?_
        rotate_left
        · go_simp
          rfl
        refine hK.out _ _ ⟨((cell_far (p := ⟨gb142, _, none⟩) NB141_142.out _).trans (((cell_far (p := ⟨gb142, _, none⟩) NB141_142.out _).trans (((cell_far (p := ⟨gb142, _, none⟩) NB141_142.out _).trans (((cell_far (p := ⟨gb142, _, none⟩) NB141_142.out _).trans (((cell_far (p := ⟨gb142, _, none⟩) NB141_142.out _).trans (((cell_far (p := ⟨gb142, _, none⟩) NB141_142.out _).trans (((cell_far (p := ⟨gb142, _, none⟩) NB141_142.out _).trans (hHeld.1)))))))))))))), ((cell_far (p := ⟨gb142, _, none⟩) NB141_142.out _).trans (((cell_far (p := ⟨gb142, _, none⟩) NB141_142.out _).trans (((cell_far (p := ⟨gb142, _, none⟩) NB141_142.out _).trans (((cell_far (p := ⟨gb142, _, none⟩) NB141_142.out _).trans (((cell_far (p := ⟨gb142, _, none⟩) NB141_142.out _).trans (((cell_far (p := ⟨gb142, _, none⟩) NB141_142.out _).trans (((cell_far (p := ⟨gb142, _, none⟩) NB141_142.out _).trans (hHeld.2.1)))))))))))))), ((cell_far (p := ⟨gb142, _, none⟩) NB141_142.out _).trans (((cell_far (p := ⟨gb142, _, none⟩) NB141_142.out _).trans (((cell_far (p := ⟨gb142, _, none⟩) NB141_142.out _).trans (((cell_far (p := ⟨gb142, _, none⟩) NB141_142.out _).trans (((cell_far (p := ⟨gb142, _, none⟩) NB141_142.out _).trans (((cell_far (p := ⟨gb142, _, none⟩) NB141_142.out _).trans (((cell_far (p := ⟨gb142, _, none⟩) NB141_142.out _).trans (hHeld.2.2.1)))))))))))))), ((cell_far (p := ⟨gb142, _, none⟩) NB141_142.out _).trans (((cell_far (p := ⟨gb142, _, none⟩) NB141_142.out _).trans (((cell_far (p := ⟨gb142, _, none⟩) NB141_142.out _).trans (((cell_far (p := ⟨gb142, _, none⟩) NB141_142.out _).trans (((cell_far (p := ⟨gb142, _, none⟩) NB141_142.out _).trans (((cell_far (p := ⟨gb142, _, none⟩) NB141_142.out _).trans (((cell_far (p := ⟨gb142, _, none⟩) NB141_142.out _).trans (hHeld.2.2.2.1)))))))))))))), ((cell_far (p := ⟨gb142, _, none⟩) NB141_142.out _).trans (((cell_far (p := ⟨gb142, _, none⟩) NB141_142.out _).trans (((cell_far (p := ⟨gb142, _, none⟩) NB141_142.out _).trans (((cell_far (p := ⟨gb142, _, none⟩) NB141_142.out _).trans (((cell_far (p := ⟨gb142, _, none⟩) NB141_142.out _).trans (((cell_far (p := ⟨gb142, _, none⟩) NB141_142.out _).trans (((cell_far (p := ⟨gb142, _, none⟩) NB141_142.out _).trans (hHeld.2.2.2.2.1)))))))))))))), ((cell_far (p := ⟨gb142, _, none⟩) NB141_142.out _).trans (((cell_far (p := ⟨gb142, _, none⟩) NB141_142.out _).trans (((cell_far (p := ⟨gb142, _, none⟩) NB141_142.out _).trans (((cell_far (p := ⟨gb142, _, none⟩) NB141_142.out _).trans (((cell_far (p := ⟨gb142, _, none⟩) NB141_142.out _).trans (((cell_far (p := ⟨gb142, _, none⟩) NB141_142.out _).trans (((cell_far (p := ⟨gb142, _, none⟩) NB141_142.out _).trans (hHeld.2.2.2.2.2.1)))))))))))))), ((cell_far (p := ⟨gb142, _, none⟩) NB141_142.out _).trans (((cell_far (p := ⟨gb142, _, none⟩) NB141_142.out _).trans (((cell_far (p := ⟨gb142, _, none⟩) NB141_142.out _).trans (((cell_far (p := ⟨gb142, _, none⟩) NB141_142.out _).trans (((cell_far (p := ⟨gb142, _, none⟩) NB141_142.out _).trans (((cell_far (p := ⟨gb142, _, none⟩) NB141_142.out _).trans (((cell_far (p := ⟨gb142, _, none⟩) NB141_142.out _).trans (hHeld.2.2.2.2.2.2))))))))))))))⟩ (fun hHeld => ?_)
        clear hK K
        refine done_ (by kernel_rfl) ?_
        try go_wp2
        refine bodyPost_ret (results_list (rs := [.tmp 6, .tmp 7, .cell 8 28]) rfl (by simp) (.tmp (.tmp (.cell gb142 28 #[.bool x142000_1, .int .i64 x142001_1, .int .i64 x142002_1, .int .u64 x142003_1, .int .u64 x142004_1, .bool x142005_1, .int .u64 x142006_1] (0, 0) _ rfl (by (with_reducible repeat (first | refine blk_drewN ?_ _ | refine blk_drew ?_ | refine blk_alloc ?_ _)); refine blk_put (cs := #[.bool x142000_1, .int .i64 x142001_1, .int .i64 x142002_1, .int .u64 x142003_1, .int .u64 x142004_1, .bool x142005_1, .int .u64 0]) ?_ 6 _ rfl; (with_reducible repeat (first | refine blk_drewN ?_ _ | refine blk_drew ?_ | refine blk_alloc ?_ _)); refine blk_put (cs := #[.bool x142000_1, .int .i64 x142001_1, .int .i64 x142002_1, .int .u64 x142003_1, .int .u64 x142004_1, .bool false, .int .u64 0]) ?_ 5 _ rfl; (with_reducible repeat (first | refine blk_drewN ?_ _ | refine blk_drew ?_ | refine blk_alloc ?_ _)); refine blk_put (cs := #[.bool x142000_1, .int .i64 x142001_1, .int .i64 x142002_1, .int .u64 x142003_1, .int .u64 0, .bool false, .int .u64 0]) ?_ 4 _ rfl; (with_reducible repeat (first | refine blk_drewN ?_ _ | refine blk_drew ?_ | refine blk_alloc ?_ _)); refine blk_put (cs := #[.bool x142000_1, .int .i64 x142001_1, .int .i64 x142002_1, .int .u64 0, .int .u64 0, .bool false, .int .u64 0]) ?_ 3 _ rfl; (with_reducible repeat (first | refine blk_drewN ?_ _ | refine blk_drew ?_ | refine blk_alloc ?_ _)); refine blk_put (cs := #[.bool x142000_1, .int .i64 x142001_1, .int .i64 0, .int .u64 0, .int .u64 0, .bool false, .int .u64 0]) ?_ 2 _ rfl; (with_reducible repeat (first | refine blk_drewN ?_ _ | refine blk_drew ?_ | refine blk_alloc ?_ _)); refine blk_put (cs := #[.bool x142000_1, .int .i64 0, .int .i64 0, .int .u64 0, .int .u64 0, .bool false, .int .u64 0]) ?_ 1 _ rfl; (with_reducible repeat (first | refine blk_drewN ?_ _ | refine blk_drew ?_ | refine blk_alloc ?_ _)); refine blk_put (cs := #[.bool false, .int .i64 0, .int .i64 0, .int .u64 0, .int .u64 0, .bool false, .int .u64 0]) ?_ 0 _ rfl; (with_reducible repeat (first | refine blk_drewN ?_ _ | refine blk_drew ?_ | refine blk_alloc ?_ _)); exact BK142.out) Try.underlying28 rfl (by kernel_rfl) .nil)))) rfl ?_
        exact ⟨by first | rfl | (simp [errW_none, errW_some] <;> rfl) | (simp [*, errW_none, errW_some] <;> rfl), by repeat (first | (with_reducible first | exact HB.out | apply below_alloc | apply pw_below_drewN | apply below_drew1 | refine below_set ?_ GE141.out | refine below_set ?_ GE142.out) | exact HB.out)⟩

end Go.Proofs.Ytdmfoeokfmgglaa.PSliceSplit
