/- The Go functions that the law reaches, as Lean functions, and that the code comes to their answers. Laid by this session's own program; no condition. -/
import Derived.Test.YtdmfoeokfmgglaaPSliceRunsx0
import Derived.Test.YtdmfoeokfmgglaaPSliceRunsx1
import Derived.Test.YtdmfoeokfmgglaaPSliceRunsx2
import Derived.Test.YtdmfoeokfmgglaaPSliceRunsx3
import Derived.Test.YtdmfoeokfmgglaaPSliceRunsx4
namespace Go.Proofs.Ytdmfoeokfmgglaa.PSliceRuns
open Go.RowKit Go.Proofs.YtdmfoeokfmgglaaW.PrintWords Go.Proofs.YtdmfoeokfmgglaaW.PrintLast Go.Proofs.YtdmfoeokfmgglaaW.PrintMore
attribute [local go_sem] max2_int min2_int max_two min_two max_three min_three max_four min_four   -- for this text's walks alone
set_option linter.unusedVariables false
set_option linter.unusedSimpArgs false

attribute [local go_sem high] eqA28
/-! ### rotaref22_Run: function 28 -/
mutual
def rotaref22_Run.l0 : Nat → List Int → Int → Int → Int → Bool → Int → Int → Int → Int → Bool → Int → Option (Int × Int × Bool × Int × Int × Int × Int × Bool × Int)
  | 0, _, _, _, _, _, _, _, _, _, _, _ => none
  | k + 1, x1, x2, x9, x10, x179000, x179001, x179002, x179003, x179004, x179005, x179006 => if x10 < x2 then (if x9 < (x1.length : Int) then (if 0 ≤ x9 then (rotaref22_Run.j1 k x1 x2 x9 x10 (rd x1 x9) x179000 x179001 x179002 x179003 x179004 x179005 x179006) else (none)) else (rotaref22_Run.j1 k x1 x2 x9 x10 0 x179000 x179001 x179002 x179003 x179004 x179005 x179006)) else (some (x9, x10, x179000, x179001, x179002, x179003, x179004, x179005, x179006))
def rotaref22_Run.j1 : Nat → List Int → Int → Int → Int → Int → Bool → Int → Int → Int → Int → Bool → Int → Option (Int × Int × Bool × Int × Int × Int × Int × Bool × Int)
  | 0, _, _, _, _, _, _, _, _, _, _, _, _ => none
  | k + 1, x1, x2, x9, x10, x11, x179000, x179001, x179002, x179003, x179004, x179005, x179006 => (rotaref22_Decide.f x179000 x179001 x179002 x179003 x179004 x179005 x179006 x11 (IntKind.u64.wrap (x2 - x10))).bind fun t181 => (if t181 = 5 then (if x9 < (x1.length : Int) then ((rotaref22_costs.f x11).bind fun t182 => (rotaref22_Run.j2 k x1 x2 x9 x10 x11 t181 t182 x179000 x179001 x179002 x179003 x179004 x179005 x179006)) else (rotaref22_Run.j2 k x1 x2 x9 x10 x11 t181 false x179000 x179001 x179002 x179003 x179004 x179005 x179006)) else (rotaref22_Run.j2 k x1 x2 x9 x10 x11 t181 false x179000 x179001 x179002 x179003 x179004 x179005 x179006))
def rotaref22_Run.j2 : Nat → List Int → Int → Int → Int → Int → Int → Bool → Bool → Int → Int → Int → Int → Bool → Int → Option (Int × Int × Bool × Int × Int × Int × Int × Bool × Int)
  | 0, _, _, _, _, _, _, _, _, _, _, _, _, _, _ => none
  | k + 1, x1, x2, x9, x10, x11, x12, x42, x179000, x179001, x179002, x179003, x179004, x179005, x179006 => if x42 = true then ((rotaref22_Begin.f x179000 x179001 x179002 x179003 x179004 x179005 x179006 x11).bind fun bt183 => (rotaref22_Run.j3 k x1 x2 x9 x10 2 bt183.1 bt183.2.1 bt183.2.2.1 bt183.2.2.2.1 bt183.2.2.2.2.1 bt183.2.2.2.2.2.1 bt183.2.2.2.2.2.2.1)) else (rotaref22_Run.j3 k x1 x2 x9 x10 x12 x179000 x179001 x179002 x179003 x179004 x179005 x179006)
def rotaref22_Run.j3 : Nat → List Int → Int → Int → Int → Int → Bool → Int → Int → Int → Int → Bool → Int → Option (Int × Int × Bool × Int × Int × Int × Int × Bool × Int)
  | 0, _, _, _, _, _, _, _, _, _, _, _, _ => none
  | k + 1, x1, x2, x9, x10, x12, x179000, x179001, x179002, x179003, x179004, x179005, x179006 => if x12 = 2 then ((rotaref22_Tick.f x179000 x179001 x179002 x179003 x179004 x179005 x179006).bind fun bt191 => (if bt191.2.2.2.2.2.2.2.1 = true then (rotaref22_Run.l0 k x1 x2 (wrap64 (x9 + 1)) (IntKind.u64.wrap (x10 + 1)) bt191.1 bt191.2.1 bt191.2.2.1 bt191.2.2.2.1 bt191.2.2.2.2.1 bt191.2.2.2.2.2.1 bt191.2.2.2.2.2.2.1) else (rotaref22_Run.l0 k x1 x2 x9 (IntKind.u64.wrap (x10 + 1)) bt191.1 bt191.2.1 bt191.2.2.1 bt191.2.2.2.1 bt191.2.2.2.2.1 bt191.2.2.2.2.2.1 bt191.2.2.2.2.2.2.1))) else (some (x9, x10, x179000, x179001, x179002, x179003, x179004, x179005, x179006))
end
def rotaref22_Run.f (k : Nat) (a0_0 : Bool) (a0_1 : Int) (a0_2 : Int) (a0_3 : Int) (a0_4 : Int) (a0_5 : Bool) (a0_6 : Int) (l1 : List Int) (a2 : Int) : Option (Int × Int × Bool × Int × Int × Int × Int × Bool × Int) := rotaref22_Run.l0 k l1 a2 0 0 a0_0 a0_1 a0_2 a0_3 a0_4 a0_5 a0_6
theorem rotaref22_Run.mono_l : ∀ k, (∀ y0 y1 y2 y3 y4 y5 y6 y7 y8 y9 y10, LeO (rotaref22_Run.l0 k y0 y1 y2 y3 y4 y5 y6 y7 y8 y9 y10) (rotaref22_Run.l0 (k + 1) y0 y1 y2 y3 y4 y5 y6 y7 y8 y9 y10)) ∧ (∀ y0 y1 y2 y3 y4 y5 y6 y7 y8 y9 y10 y11, LeO (rotaref22_Run.j1 k y0 y1 y2 y3 y4 y5 y6 y7 y8 y9 y10 y11) (rotaref22_Run.j1 (k + 1) y0 y1 y2 y3 y4 y5 y6 y7 y8 y9 y10 y11)) ∧ (∀ y0 y1 y2 y3 y4 y5 y6 y7 y8 y9 y10 y11 y12 y13, LeO (rotaref22_Run.j2 k y0 y1 y2 y3 y4 y5 y6 y7 y8 y9 y10 y11 y12 y13) (rotaref22_Run.j2 (k + 1) y0 y1 y2 y3 y4 y5 y6 y7 y8 y9 y10 y11 y12 y13)) ∧ (∀ y0 y1 y2 y3 y4 y5 y6 y7 y8 y9 y10 y11, LeO (rotaref22_Run.j3 k y0 y1 y2 y3 y4 y5 y6 y7 y8 y9 y10 y11) (rotaref22_Run.j3 (k + 1) y0 y1 y2 y3 y4 y5 y6 y7 y8 y9 y10 y11))
  | 0 => ⟨fun _ _ _ _ _ _ _ _ _ _ _ r h => by simp [rotaref22_Run.l0] at h, fun _ _ _ _ _ _ _ _ _ _ _ _ r h => by simp [rotaref22_Run.j1] at h, fun _ _ _ _ _ _ _ _ _ _ _ _ _ _ r h => by simp [rotaref22_Run.j2] at h, fun _ _ _ _ _ _ _ _ _ _ _ _ r h => by simp [rotaref22_Run.j3] at h⟩
  | k + 1 => by
    obtain ⟨ih0, ih1, ih2, ih3⟩ := rotaref22_Run.mono_l k
    refine ⟨?_, ?_, ?_, ?_⟩
    · intro y0 y1 y2 y3 y4 y5 y6 y7 y8 y9 y10
      unfold rotaref22_Run.l0
      repeat' first
      | (with_reducible exact ih0 _ _ _ _ _ _ _ _ _ _ _)
      | (with_reducible exact ih1 _ _ _ _ _ _ _ _ _ _ _ _)
      | (with_reducible exact ih2 _ _ _ _ _ _ _ _ _ _ _ _ _ _)
      | (with_reducible exact ih3 _ _ _ _ _ _ _ _ _ _ _ _)
      | (with_reducible exact LeO.refl _)
      | (with_reducible exact LeO.none _)
      | (with_reducible refine LeO.ite ?_ ?_)
      | (with_reducible refine LeO.bind ?_ (fun _ => ?_))
      | exact ih0 _ _ _ _ _ _ _ _ _ _ _
      | exact ih1 _ _ _ _ _ _ _ _ _ _ _ _
      | exact ih2 _ _ _ _ _ _ _ _ _ _ _ _ _ _
      | exact ih3 _ _ _ _ _ _ _ _ _ _ _ _
      | exact LeO.none _
      | refine LeO.ite ?_ ?_
      | refine LeO.bind ?_ (fun _ => ?_)
    · intro y0 y1 y2 y3 y4 y5 y6 y7 y8 y9 y10 y11
      unfold rotaref22_Run.j1
      repeat' first
      | (with_reducible exact ih0 _ _ _ _ _ _ _ _ _ _ _)
      | (with_reducible exact ih1 _ _ _ _ _ _ _ _ _ _ _ _)
      | (with_reducible exact ih2 _ _ _ _ _ _ _ _ _ _ _ _ _ _)
      | (with_reducible exact ih3 _ _ _ _ _ _ _ _ _ _ _ _)
      | (with_reducible exact LeO.refl _)
      | (with_reducible exact LeO.none _)
      | (with_reducible refine LeO.ite ?_ ?_)
      | (with_reducible refine LeO.bind ?_ (fun _ => ?_))
      | exact ih0 _ _ _ _ _ _ _ _ _ _ _
      | exact ih1 _ _ _ _ _ _ _ _ _ _ _ _
      | exact ih2 _ _ _ _ _ _ _ _ _ _ _ _ _ _
      | exact ih3 _ _ _ _ _ _ _ _ _ _ _ _
      | exact LeO.none _
      | refine LeO.ite ?_ ?_
      | refine LeO.bind ?_ (fun _ => ?_)
    · intro y0 y1 y2 y3 y4 y5 y6 y7 y8 y9 y10 y11 y12 y13
      unfold rotaref22_Run.j2
      repeat' first
      | (with_reducible exact ih0 _ _ _ _ _ _ _ _ _ _ _)
      | (with_reducible exact ih1 _ _ _ _ _ _ _ _ _ _ _ _)
      | (with_reducible exact ih2 _ _ _ _ _ _ _ _ _ _ _ _ _ _)
      | (with_reducible exact ih3 _ _ _ _ _ _ _ _ _ _ _ _)
      | (with_reducible exact LeO.refl _)
      | (with_reducible exact LeO.none _)
      | (with_reducible refine LeO.ite ?_ ?_)
      | (with_reducible refine LeO.bind ?_ (fun _ => ?_))
      | exact ih0 _ _ _ _ _ _ _ _ _ _ _
      | exact ih1 _ _ _ _ _ _ _ _ _ _ _ _
      | exact ih2 _ _ _ _ _ _ _ _ _ _ _ _ _ _
      | exact ih3 _ _ _ _ _ _ _ _ _ _ _ _
      | exact LeO.none _
      | refine LeO.ite ?_ ?_
      | refine LeO.bind ?_ (fun _ => ?_)
    · intro y0 y1 y2 y3 y4 y5 y6 y7 y8 y9 y10 y11
      unfold rotaref22_Run.j3
      repeat' first
      | (with_reducible exact ih0 _ _ _ _ _ _ _ _ _ _ _)
      | (with_reducible exact ih1 _ _ _ _ _ _ _ _ _ _ _ _)
      | (with_reducible exact ih2 _ _ _ _ _ _ _ _ _ _ _ _ _ _)
      | (with_reducible exact ih3 _ _ _ _ _ _ _ _ _ _ _ _)
      | (with_reducible exact LeO.refl _)
      | (with_reducible exact LeO.none _)
      | (with_reducible refine LeO.ite ?_ ?_)
      | (with_reducible refine LeO.bind ?_ (fun _ => ?_))
      | exact ih0 _ _ _ _ _ _ _ _ _ _ _
      | exact ih1 _ _ _ _ _ _ _ _ _ _ _ _
      | exact ih2 _ _ _ _ _ _ _ _ _ _ _ _ _ _
      | exact ih3 _ _ _ _ _ _ _ _ _ _ _ _
      | exact LeO.none _
      | refine LeO.ite ?_ ?_
      | refine LeO.bind ?_ (fun _ => ?_)
theorem rotaref22_Run.mono : ∀ a0 a1 a2 a3 a4 a5 a6 a7 a8 k, LeO (rotaref22_Run.f k a0 a1 a2 a3 a4 a5 a6 a7 a8) (rotaref22_Run.f (k + 1) a0 a1 a2 a3 a4 a5 a6 a7 a8) := by
  intro a0 a1 a2 a3 a4 a5 a6 a7 a8 k
  obtain ⟨ih0, ih1, ih2, ih3⟩ := rotaref22_Run.mono_l k
  unfold rotaref22_Run.f
  repeat' first
      | (with_reducible exact ih0 _ _ _ _ _ _ _ _ _ _ _)
      | (with_reducible exact ih1 _ _ _ _ _ _ _ _ _ _ _ _)
      | (with_reducible exact ih2 _ _ _ _ _ _ _ _ _ _ _ _ _ _)
      | (with_reducible exact ih3 _ _ _ _ _ _ _ _ _ _ _ _)
      | (with_reducible exact LeO.refl _)
      | (with_reducible exact LeO.none _)
      | (with_reducible refine LeO.ite ?_ ?_)
      | (with_reducible refine LeO.bind ?_ (fun _ => ?_))
      | exact ih0 _ _ _ _ _ _ _ _ _ _ _
      | exact ih1 _ _ _ _ _ _ _ _ _ _ _ _
      | exact ih2 _ _ _ _ _ _ _ _ _ _ _ _ _ _
      | exact ih3 _ _ _ _ _ _ _ _ _ _ _ _
      | exact LeO.none _
      | refine LeO.ite ?_ ?_
      | refine LeO.bind ?_ (fun _ => ?_)
set_option maxHeartbeats 8000000 in
set_option maxRecDepth 100000 in
theorem rotaref22_Run.calls (k : Nat) (a0_0 : Bool) (a0_1 : Int) (a0_2 : Int) (a0_3 : Int) (a0_4 : Int) (a0_5 : Bool) (a0_6 : Int) (A1 : Option Addr) (c1 : Nat) (l1 : List Int) (a2 : Int) (r1 : Int) (r2 : Int) (r3 : Bool) (r4 : Int) (r5 : Int) (r6 : Int) (r7 : Int) (r8 : Bool) (r9 : Int) (w : World) (hr1 : Kd.C (Kd.int .u64) w A1 l1.length l1) (hc1 : l1.length ≤ c1) (h : rotaref22_Run.f k a0_0 a0_1 a0_2 a0_3 a0_4 a0_5 a0_6 l1 a2 = some (r1, r2, r3, r4, r5, r6, r7, r8, r9)) :
    Calls Try.prog 28 #[.agg #[.bool a0_0, .int .i64 a0_1, .int .i64 a0_2, .int .u64 a0_3, .int .u64 a0_4, .bool a0_5, .int .u64 a0_6], .slice A1 l1.length c1, .int .u64 a2] w fun e w' => e = .returned (.tuple #[.int .i64 r1, .int .u64 r2, .agg #[.bool r3, .int .i64 r4, .int .i64 r5, .int .u64 r6, .int .u64 r7, .bool r8, .int .u64 r9]]) ∧ Below w.heap.size w w' := by
  have hu28 := Try.underlying28
  have HR1 := Aside0.mk hr1
  have HC1 := Aside0.mk hc1
  clear hr1 hc1
  have HB := Aside0.mk (Below.refl w.heap.size w)
  have H : (rotaref22_Run.l0 k l1 a2 0 0 a0_0 a0_1 a0_2 a0_3 a0_4 a0_5 a0_6) = some (r1, r2, r3, r4, r5, r6, r7, r8, r9) := h
  clear h
  have H' := Aside0.mk H
  clear H
  go_enter Try.func28, Try.ntmps28
  go_wp2_with (first | ((with_reducible refine gate_dst (N := 3) rfl ?_); (try (refine gate_guard (by rfl) ?_; dsimp only)); refine box_event ?hg (N := 3) ?hd (cs := #[.bool a0_0, .int .i64 a0_1, .int .i64 a0_2, .int .u64 a0_3, .int .u64 a0_4, .bool a0_5, .int .u64 a0_6]) (t := 28) ?hr ?_; (case hd => rfl); (case hg => rfl); (case hr => first | (go_simp; done) | (go_simp; rfl)); intro gb178 hg w4 hbox hb; have n0_ := Aside0.mk (below_step (by repeat (first | (with_reducible first | exact HB.out | apply below_alloc | apply pw_below_drewN | apply below_drew1) | exact HB.out)) hb); have n1_ := Aside0.mk (hbox); have n2_ := Aside0.mk ((by rw [hg]; exact (below_size (by repeat (first | (with_reducible first | exact HB.out | apply below_alloc | apply pw_below_drewN | apply below_drew1) | exact HB.out))) : w.heap.size ≤ gb178)); have n3_ := Aside0.mk ((by rw [hg]; exact (below_size (by repeat (first | (with_reducible first | exact HB.out | apply below_alloc | apply pw_below_drewN | apply below_drew1) | exact HB.out))) : w.heap.size ≤ gb178)); clear HB; have HB := n0_; have BK178 := n1_; have GW178 := n2_; have GE178 := n3_; clear n0_ n1_ n2_ n3_; clear hb hbox hg) | ((with_reducible refine gate_dst (N := 8) rfl ?_); (try (refine gate_guard (by rfl) ?_; dsimp only)); refine box_event ?hg (N := 8) ?hd (cs := #[.bool false, .int .i64 0, .int .i64 0, .int .u64 0, .int .u64 0, .bool false, .int .u64 0]) (t := 28) ?hr ?_; (case hd => rfl); (case hg => rfl); (case hr => first | (go_simp; done) | (go_simp; rfl)); intro gb179 hg w5 hbox hb; have n0_ := Aside0.mk (blk_below (g := gb178) (o := .cells #[.bool a0_0, .int .i64 a0_1, .int .i64 a0_2, .int .u64 a0_3, .int .u64 a0_4, .bool a0_5, .int .u64 a0_6] 28 (0, 0)) (by (with_reducible repeat (first | refine blk_drewN ?_ _ | refine blk_drew ?_ | refine blk_alloc ?_ _)); exact BK178.out) hb); have n1_ := Aside0.mk (below_step (by repeat (first | (with_reducible first | exact HB.out | apply below_alloc | apply pw_below_drewN | apply below_drew1 | refine below_set ?_ GE178.out) | exact HB.out)) hb); have n2_ := Aside0.mk (hbox); have n3_ := Aside0.mk ((by rw [hg]; exact (below_size (by repeat (first | (with_reducible first | exact HB.out | apply below_alloc | apply pw_below_drewN | apply below_drew1 | refine below_set ?_ GE178.out) | exact HB.out))) : w.heap.size ≤ gb179)); have n4_ := Aside0.mk ((by rw [hg]; exact (below_size (by repeat (first | (with_reducible first | exact HB.out | apply below_alloc | apply pw_below_drewN | apply below_drew1 | refine below_set ?_ GE178.out) | exact HB.out))) : w.heap.size ≤ gb179)); have n5_ := Aside0.mk ((by rw [hg]; exact Nat.ne_of_lt (blk_lt (g := gb178) (o := .cells #[.bool a0_0, .int .i64 a0_1, .int .i64 a0_2, .int .u64 a0_3, .int .u64 a0_4, .bool a0_5, .int .u64 a0_6] 28 (0, 0)) (by (with_reducible repeat (first | refine blk_drewN ?_ _ | refine blk_drew ?_ | refine blk_alloc ?_ _)); exact BK178.out)) : gb178 ≠ gb179)); have n6_ := Aside0.mk ((by rw [hg]; exact Nat.ne_of_gt (blk_lt (g := gb178) (o := .cells #[.bool a0_0, .int .i64 a0_1, .int .i64 a0_2, .int .u64 a0_3, .int .u64 a0_4, .bool a0_5, .int .u64 a0_6] 28 (0, 0)) (by (with_reducible repeat (first | refine blk_drewN ?_ _ | refine blk_drew ?_ | refine blk_alloc ?_ _)); exact BK178.out)) : gb179 ≠ gb178)); clear BK178; clear HB; have BK178 := n0_; have HB := n1_; have BK179 := n2_; have GW179 := n3_; have GE179 := n4_; have NB178_179 := n5_; have NB179_178 := n6_; clear n0_ n1_ n2_ n3_ n4_ n5_ n6_; clear hb hbox hg))
  go_loopg [9, 10] k (fun kq v9 v10 w' => ∃ (x9_1 : Int) (x10_1 : Int) (x179000_1 : Bool) (x179001_1 : Int) (x179002_1 : Int) (x179003_1 : Int) (x179004_1 : Int) (x179005_1 : Bool) (x179006_1 : Int) (x180000_1 : Bool) (x180001_1 : Int) (x180002_1 : Int) (x180003_1 : Int) (x180004_1 : Int) (x180005_1 : Bool) (x180006_1 : Int), v9 = .int .i64 x9_1 ∧ v10 = .int .u64 x10_1 ∧ Aside0 (rotaref22_Run.l0 kq l1 a2 x9_1 x10_1 x179000_1 x179001_1 x179002_1 x179003_1 x179004_1 x179005_1 x179006_1 = some (r1, r2, r3, r4, r5, r6, r7, r8, r9)) ∧ Aside0 (kq ≤ k) ∧ Aside0 (w'.heap[gb178]? = some (.cells #[.bool x179000_1, .int .i64 x179001_1, .int .i64 x179002_1, .int .u64 x179003_1, .int .u64 x179004_1, .bool x179005_1, .int .u64 x179006_1] 28 (0, 0))) ∧ Aside0 (w'.heap[gb179]? = some (.cells #[.bool x180000_1, .int .i64 x180001_1, .int .i64 x180002_1, .int .u64 x180003_1, .int .u64 x180004_1, .bool x180005_1, .int .u64 x180006_1] 28 (0, 0))) ∧ Aside0 (Below w.heap.size w w'))
  case atStart => exact ⟨(0), (0), (a0_0), (a0_1), (a0_2), (a0_3), (a0_4), (a0_5), (a0_6), (false), (0), (0), (0), (0), (false), (0), (by first | rfl | (simp; done) | (simp [*]; done)), (by first | rfl | (simp; done) | (simp [*]; done)), H', ⟨Nat.le_refl _⟩, ⟨by (with_reducible repeat (first | refine blk_drewN ?_ _ | refine blk_drew ?_ | refine blk_alloc ?_ _)); exact BK178.out⟩, ⟨by (with_reducible repeat (first | refine blk_drewN ?_ _ | refine blk_drew ?_ | refine blk_alloc ?_ _)); exact BK179.out⟩, ⟨by repeat (first | (with_reducible first | exact HB.out | apply below_alloc | apply pw_below_drewN | apply below_drew1 | refine below_set ?_ GE178.out | refine below_set ?_ GE179.out) | exact HB.out)⟩⟩
  case round =>
    clear H'
    try clear c1
    try clear c2
    try clear p2
    obtain ⟨x9_1, x10_1, x179000_1, x179001_1, x179002_1, x179003_1, x179004_1, x179005_1, x179006_1, x180000_1, x180001_1, x180002_1, x180003_1, x180004_1, x180005_1, x180006_1, rfl, rfl, HA, HK1, BK178, BK179, HB⟩ := hrel
    cases gk with
    | zero => exact absurd HA.out (by simp [rotaref22_Run.l0])
    | succ k1 =>
      have H := HA.out
      clear HA
      simp only [rotaref22_Run.l0] at H
      by_cases c6 : x10_1 < a2
      · rw [if_pos c6] at H
        have c6b0 : decide (x10_1 < a2) = true := decide_eq_true c6
        clear c6
        have HC7 := Aside0.mk H
        clear H
        go_upto_if 20 with (fail)
        go_cut [11] (fun v11 wc => ∃ (kq : Nat) (x11_6 : Int), v11 = .int .u64 x11_6 ∧ Aside0 (rotaref22_Run.j1 kq l1 a2 x9_1 x10_1 x11_6 x179000_1 x179001_1 x179002_1 x179003_1 x179004_1 x179005_1 x179006_1 = some (r1, r2, r3, r4, r5, r6, r7, r8, r9)) ∧ Aside0 (kq ≤ k1) ∧ Aside0 (wc.heap[gb178]? = some (.cells #[.bool x179000_1, .int .i64 x179001_1, .int .i64 x179002_1, .int .u64 x179003_1, .int .u64 x179004_1, .bool x179005_1, .int .u64 x179006_1] 28 (0, 0))) ∧ Aside0 (wc.heap[gb179]? = some (.cells #[.bool x180000_1, .int .i64 x180001_1, .int .i64 x180002_1, .int .u64 x180003_1, .int .u64 x180004_1, .bool x180005_1, .int .u64 x180006_1] 28 (0, 0))) ∧ Aside0 (Below w.heap.size w wc))
        case first =>
          have H := HC7.out
          clear HC7
          by_cases c8 : x9_1 < (l1.length : Int)
          · rw [if_pos c8] at H
            have c8b0 : decide (x9_1 < (l1.length : Int)) = true := decide_eq_true c8
            clear c8
            (first | rw [c8b0] | (simp only [i64_w, i32_w]; rw [c8b0]) | skip)
            by_cases c9 : 0 ≤ x9_1
            · rw [if_pos c9] at H
              have c9b0 : decide (0 ≤ x9_1) = true := decide_eq_true c9
              clear c9
              have H' := Aside0.mk H
              clear H
              have p180 : 0 ≤ (x9_1 : Int) := of_decide_eq_true (by first | (with_reducible assumption) | assumption)
              have q180 : x9_1 < (l1.length : Int) := of_decide_eq_true (by first | (with_reducible assumption) | assumption)
              obtain ⟨ad180, e180, hx180_0⟩ := Kd.at_int HR1.out x9_1 p180 q180
              cases e180
              replace hx180_0 := (HB.out.cell (World.block_lt_of_cell? w _ hx180_0)).trans hx180_0
              replace p180 := eq_true p180
              replace q180 := eq_true q180
              go_wp2
              go_meet
              case rel => exact ⟨_, (rd l1 x9_1), (by first | rfl | (simp; done) | (simp [*]; done)), H', ⟨by have := HK1.out; first | omega | exact Nat.le_refl _⟩, ⟨by (with_reducible repeat (first | refine blk_drewN ?_ _ | refine blk_drew ?_ | refine blk_alloc ?_ _)); exact BK178.out⟩, ⟨by (with_reducible repeat (first | refine blk_drewN ?_ _ | refine blk_drew ?_ | refine blk_alloc ?_ _)); exact BK179.out⟩, ⟨by repeat (first | (with_reducible first | exact HB.out | apply below_alloc | apply pw_below_drewN | apply below_drew1 | refine below_set ?_ GE178.out | refine below_set ?_ GE179.out) | exact HB.out)⟩⟩
            · rw [if_neg c9] at H
              exact absurd H (by simp)
          · rw [if_neg c8] at H
            have c8b0 : decide (x9_1 < (l1.length : Int)) = false := decide_eq_false c8
            clear c8
            (first | rw [c8b0] | (simp only [i64_w, i32_w]; rw [c8b0]) | skip)
            have H' := Aside0.mk H
            clear H
            go_wp2
            go_meet
            case rel => exact ⟨_, (0), (by first | rfl | (simp; done) | (simp [*]; done)), H', ⟨by have := HK1.out; first | omega | exact Nat.le_refl _⟩, ⟨by (with_reducible repeat (first | refine blk_drewN ?_ _ | refine blk_drew ?_ | refine blk_alloc ?_ _)); exact BK178.out⟩, ⟨by (with_reducible repeat (first | refine blk_drewN ?_ _ | refine blk_drew ?_ | refine blk_alloc ?_ _)); exact BK179.out⟩, ⟨by repeat (first | (with_reducible first | exact HB.out | apply below_alloc | apply pw_below_drewN | apply below_drew1 | refine below_set ?_ GE178.out | refine below_set ?_ GE179.out) | exact HB.out)⟩⟩
        case rest =>
          clear HC7
          try clear c1
          try clear p1
          try clear q1
          try clear hx1
          try clear c2
          try clear p2
          try clear c6
          try clear c6b0
          try clear c8
          try clear c8b0
          try clear c9
          try clear c9b0
          try clear hx180_0
          try clear p180
          try clear p2
          try clear q180
          obtain ⟨kq, x11_6, rfl, HA, HJ6, BK178, BK179, HB⟩ := hcut
          cases kq with
          | zero => exact absurd HA.out (by simp [rotaref22_Run.j1])
          | succ kj6 =>
            have H := HA.out
            clear HA
            simp only [rotaref22_Run.j1] at H
            replace H := Option.bind_eq_some_iff.mp H
            obtain ⟨t181, A100, H⟩ := H
            replace H : (if t181 = 5 then (if x9_1 < (l1.length : Int) then ((rotaref22_costs.f x11_6).bind fun t182 => (rotaref22_Run.j2 kj6 l1 a2 x9_1 x10_1 x11_6 t181 t182 x179000_1 x179001_1 x179002_1 x179003_1 x179004_1 x179005_1 x179006_1)) else (rotaref22_Run.j2 kj6 l1 a2 x9_1 x10_1 x11_6 t181 false x179000_1 x179001_1 x179002_1 x179003_1 x179004_1 x179005_1 x179006_1)) else (rotaref22_Run.j2 kj6 l1 a2 x9_1 x10_1 x11_6 t181 false x179000_1 x179001_1 x179002_1 x179003_1 x179004_1 x179005_1 x179006_1)) = some (r1, r2, r3, r4, r5, r6, r7, r8, r9) := H
            have A10 := Aside0.mk A100
            clear A100
            have HC11 := Aside0.mk H
            clear H
            have hnb12 := NB178_179.out
            have hnc12 := NB179_178.out
            have hcz13_0 : wc.cell? ⟨gb178, 0, none⟩ = some (.bool x179000_1) := (blk_cell BK178.out 0).trans rfl
            have hcz13_1 : wc.cell? ⟨gb178, 1, none⟩ = some (.int .i64 x179001_1) := (blk_cell BK178.out 1).trans rfl
            have hcz13_2 : wc.cell? ⟨gb178, 2, none⟩ = some (.int .i64 x179002_1) := (blk_cell BK178.out 2).trans rfl
            have hcz13_3 : wc.cell? ⟨gb178, 3, none⟩ = some (.int .u64 x179003_1) := (blk_cell BK178.out 3).trans rfl
            have hcz13_4 : wc.cell? ⟨gb178, 4, none⟩ = some (.int .u64 x179004_1) := (blk_cell BK178.out 4).trans rfl
            have hcz13_5 : wc.cell? ⟨gb178, 5, none⟩ = some (.bool x179005_1) := (blk_cell BK178.out 5).trans rfl
            have hcz13_6 : wc.cell? ⟨gb178, 6, none⟩ = some (.int .u64 x179006_1) := (blk_cell BK178.out 6).trans rfl
            have hfz13_0 := blk_frozen BK178.out 0
            have hfz13_1 := blk_frozen BK178.out 1
            have hfz13_2 := blk_frozen BK178.out 2
            have hfz13_3 := blk_frozen BK178.out 3
            have hfz13_4 := blk_frozen BK178.out 4
            have hfz13_5 := blk_frozen BK178.out 5
            have hfz13_6 := blk_frozen BK178.out 6
            go_upto_region 8 with (first | ((with_reducible refine gate_callee (f := 25) rfl ?_); refine goesL_ (some 30) rfl rfl Try.func25 (by kernel_rfl) rfl #[.agg #[.bool x179000_1, .int .i64 x179001_1, .int .i64 x179002_1, .int .u64 x179003_1, .int .u64 x179004_1, .bool x179005_1, .int .u64 x179006_1], .int .u64 x11_6, .int .u64 (IntKind.u64.wrap (a2 - x10_1))] rfl (by (try simp only [List.map_toArray, List.map_cons, List.map_nil]); first | done | rfl | (simp only [List.length_drop, List.length_take]; rfl)) ?_; (with_reducible refine (rotaref22_Decide.calls x179000_1 x179001_1 x179002_1 x179003_1 x179004_1 x179005_1 x179006_1 x11_6 (IntKind.u64.wrap (a2 - x10_1)) t181 _ A10.out).mono ?_); rintro e w14 ⟨rfl, hb⟩; refine ⟨_, rfl, ?_⟩; have n0_ := Aside0.mk (blk_below (g := gb178) (o := .cells #[.bool x179000_1, .int .i64 x179001_1, .int .i64 x179002_1, .int .u64 x179003_1, .int .u64 x179004_1, .bool x179005_1, .int .u64 x179006_1] 28 (0, 0)) (by (with_reducible repeat (first | refine blk_drewN ?_ _ | refine blk_drew ?_ | refine blk_alloc ?_ _)); exact BK178.out) hb); have n1_ := Aside0.mk (blk_below (g := gb179) (o := .cells #[.bool x180000_1, .int .i64 x180001_1, .int .i64 x180002_1, .int .u64 x180003_1, .int .u64 x180004_1, .bool x180005_1, .int .u64 x180006_1] 28 (0, 0)) (by (with_reducible repeat (first | refine blk_drewN ?_ _ | refine blk_drew ?_ | refine blk_alloc ?_ _)); exact BK179.out) hb); have n2_ := Aside0.mk (below_step (by repeat (first | (with_reducible first | exact HB.out | apply below_alloc | apply pw_below_drewN | apply below_drew1 | refine below_set ?_ GE178.out | refine below_set ?_ GE179.out) | exact HB.out)) hb); clear BK178; clear BK179; clear HB; have BK178 := n0_; have BK179 := n1_; have HB := n2_; clear n0_ n1_ n2_; (try clear hb); (try clear hb2); (try clear hk); (try clear hi)))
            (try simp only [Act.put, List.setIfInBounds_toArray, List.set_cons_zero, List.set_cons_succ])
            go_cut [42] (fun v42 wc => ∃ (kq : Nat) (x42_10 : Bool), v42 = .bool x42_10 ∧ Aside0 (rotaref22_Run.j2 kq l1 a2 x9_1 x10_1 x11_6 t181 x42_10 x179000_1 x179001_1 x179002_1 x179003_1 x179004_1 x179005_1 x179006_1 = some (r1, r2, r3, r4, r5, r6, r7, r8, r9)) ∧ Aside0 (kq ≤ kj6) ∧ Aside0 (wc.heap[gb178]? = some (.cells #[.bool x179000_1, .int .i64 x179001_1, .int .i64 x179002_1, .int .u64 x179003_1, .int .u64 x179004_1, .bool x179005_1, .int .u64 x179006_1] 28 (0, 0))) ∧ Aside0 (wc.heap[gb179]? = some (.cells #[.bool x180000_1, .int .i64 x180001_1, .int .i64 x180002_1, .int .u64 x180003_1, .int .u64 x180004_1, .bool x180005_1, .int .u64 x180006_1] 28 (0, 0))) ∧ Aside0 (Below w.heap.size w wc))
            case first =>
              have H := HC11.out
              clear HC11
              by_cases c15 : t181 = 5
              · rw [if_pos c15] at H
                have c15b0 : (t181 == 5) = true := beq_iff_eq.mpr c15
                have c15b1 : (t181 != 5) = false := bne_eq_false_iff_eq.mpr c15
                clear c15
                (first | rw [c15b0] | (simp only [i64_w, i32_w]; rw [c15b0]) | skip)
                by_cases c16 : x9_1 < (l1.length : Int)
                · rw [if_pos c16] at H
                  have c16b0 : decide (x9_1 < (l1.length : Int)) = true := decide_eq_true c16
                  clear c16
                  replace H := Option.bind_eq_some_iff.mp H
                  obtain ⟨t182, A170, H⟩ := H
                  replace H : (rotaref22_Run.j2 kj6 l1 a2 x9_1 x10_1 x11_6 t181 t182 x179000_1 x179001_1 x179002_1 x179003_1 x179004_1 x179005_1 x179006_1) = some (r1, r2, r3, r4, r5, r6, r7, r8, r9) := H
                  have A17 := Aside0.mk A170
                  clear A170
                  have H' := Aside0.mk H
                  clear H
                  go_wp2_with (first | (go_at_call 31; (with_reducible refine (rotaref22_costs.calls x11_6 t182 _ A17.out).mono ?_); rintro e w' ⟨rfl, ⟨nd, rfl⟩⟩))
                  go_meet
                  case rel => exact ⟨_, (t182), (by first | rfl | (simp; done) | (simp [*]; done)), H', ⟨by have := HK1.out; have := HJ6.out; first | omega | exact Nat.le_refl _⟩, ⟨by (with_reducible repeat (first | refine blk_drewN ?_ _ | refine blk_drew ?_ | refine blk_alloc ?_ _)); exact BK178.out⟩, ⟨by (with_reducible repeat (first | refine blk_drewN ?_ _ | refine blk_drew ?_ | refine blk_alloc ?_ _)); exact BK179.out⟩, ⟨by repeat (first | (with_reducible first | exact HB.out | apply below_alloc | apply pw_below_drewN | apply below_drew1 | refine below_set ?_ GE178.out | refine below_set ?_ GE179.out) | exact HB.out)⟩⟩
                · rw [if_neg c16] at H
                  have c16b0 : decide (x9_1 < (l1.length : Int)) = false := decide_eq_false c16
                  clear c16
                  have H' := Aside0.mk H
                  clear H
                  go_wp2
                  go_meet
                  case rel => exact ⟨_, (false), (by first | rfl | (simp; done) | (simp [*]; done)), H', ⟨by have := HK1.out; have := HJ6.out; first | omega | exact Nat.le_refl _⟩, ⟨by (with_reducible repeat (first | refine blk_drewN ?_ _ | refine blk_drew ?_ | refine blk_alloc ?_ _)); exact BK178.out⟩, ⟨by (with_reducible repeat (first | refine blk_drewN ?_ _ | refine blk_drew ?_ | refine blk_alloc ?_ _)); exact BK179.out⟩, ⟨by repeat (first | (with_reducible first | exact HB.out | apply below_alloc | apply pw_below_drewN | apply below_drew1 | refine below_set ?_ GE178.out | refine below_set ?_ GE179.out) | exact HB.out)⟩⟩
              · rw [if_neg c15] at H
                have c15b0 : (t181 == 5) = false := beq_eq_false_iff_ne.mpr c15
                have c15b1 : (t181 != 5) = true := bne_iff_ne.mpr c15
                (first | rw [c15b0] | (simp only [i64_w, i32_w]; rw [c15b0]) | skip)
                have H' := Aside0.mk H
                clear H
                go_wp2
                go_meet
                case rel => exact ⟨_, (false), (by first | rfl | (simp; done) | (simp [*]; done)), H', ⟨by have := HK1.out; have := HJ6.out; first | omega | exact Nat.le_refl _⟩, ⟨by (with_reducible repeat (first | refine blk_drewN ?_ _ | refine blk_drew ?_ | refine blk_alloc ?_ _)); exact BK178.out⟩, ⟨by (with_reducible repeat (first | refine blk_drewN ?_ _ | refine blk_drew ?_ | refine blk_alloc ?_ _)); exact BK179.out⟩, ⟨by repeat (first | (with_reducible first | exact HB.out | apply below_alloc | apply pw_below_drewN | apply below_drew1 | refine below_set ?_ GE178.out | refine below_set ?_ GE179.out) | exact HB.out)⟩⟩
            case rest =>
              clear HC11
              try clear c1
              try clear p1
              try clear q1
              try clear hx1
              try clear c2
              try clear p2
              try clear c6
              try clear c6b0
              try clear c8
              try clear c8b0
              try clear c9
              try clear c9b0
              try clear c12
              try clear c15
              try clear c15b0
              try clear c15b1
              try clear c16
              try clear c16b0
              try clear hcz13_0
              try clear hcz13_1
              try clear hcz13_2
              try clear hcz13_3
              try clear hcz13_4
              try clear hcz13_5
              try clear hcz13_6
              try clear hfz13_0
              try clear hfz13_1
              try clear hfz13_2
              try clear hfz13_3
              try clear hfz13_4
              try clear hfz13_5
              try clear hfz13_6
              try clear hx180_0
              try clear p1
              try clear p180
              try clear p2
              try clear q1
              try clear q180
              obtain ⟨kq, x42_10, rfl, HA, HJ10, BK178, BK179, HB⟩ := hcut
              cases kq with
              | zero => exact absurd HA.out (by simp [rotaref22_Run.j2])
              | succ kj10 =>
                have H := HA.out
                clear HA
                simp only [rotaref22_Run.j2] at H
                have HC18 := Aside0.mk H
                clear H
                go_upto_if 42 with (fail)
                go_cut [12] (fun v12 wc => ∃ (kq : Nat) (x12_17 : Int) (x179000_17 : Bool) (x179001_17 : Int) (x179002_17 : Int) (x179003_17 : Int) (x179004_17 : Int) (x179005_17 : Bool) (x179006_17 : Int), v12 = .int .i64 x12_17 ∧ Aside0 (rotaref22_Run.j3 kq l1 a2 x9_1 x10_1 x12_17 x179000_17 x179001_17 x179002_17 x179003_17 x179004_17 x179005_17 x179006_17 = some (r1, r2, r3, r4, r5, r6, r7, r8, r9)) ∧ Aside0 (kq ≤ kj10) ∧ Aside0 (wc.heap[gb178]? = some (.cells #[.bool x179000_17, .int .i64 x179001_17, .int .i64 x179002_17, .int .u64 x179003_17, .int .u64 x179004_17, .bool x179005_17, .int .u64 x179006_17] 28 (0, 0))) ∧ Aside0 (wc.heap[gb179]? = some (.cells #[.bool x180000_1, .int .i64 x180001_1, .int .i64 x180002_1, .int .u64 x180003_1, .int .u64 x180004_1, .bool x180005_1, .int .u64 x180006_1] 28 (0, 0))) ∧ Aside0 (Below w.heap.size w wc))
                case first =>
                  have H := HC18.out
                  clear HC18
                  by_cases c19 : x42_10 = true
                  · subst c19
                    have H1 : ((rotaref22_Begin.f x179000_1 x179001_1 x179002_1 x179003_1 x179004_1 x179005_1 x179006_1 x11_6).bind fun bt183 => (rotaref22_Run.j3 kj10 l1 a2 x9_1 x10_1 2 bt183.1 bt183.2.1 bt183.2.2.1 bt183.2.2.2.1 bt183.2.2.2.2.1 bt183.2.2.2.2.2.1 bt183.2.2.2.2.2.2.1)) = some (r1, r2, r3, r4, r5, r6, r7, r8, r9) := by rw [if_pos rfl] at H; exact H
                    clear H
                    have H := H1
                    clear H1
                    replace H := Option.bind_eq_some_iff.mp H
                    obtain ⟨⟨t183, t184, t185, t186, t187, t188, t189, t190⟩, A200, H⟩ := H
                    replace H : (rotaref22_Run.j3 kj10 l1 a2 x9_1 x10_1 2 t183 t184 t185 t186 t187 t188 t189) = some (r1, r2, r3, r4, r5, r6, r7, r8, r9) := H
                    have A20 := Aside0.mk A200
                    clear A200
                    have H' := Aside0.mk H
                    clear H
                    have hnb21 := NB178_179.out
                    have hnc21 := NB179_178.out
                    have hcz22_0 : wc.cell? ⟨gb178, 0, none⟩ = some (.bool x179000_1) := (blk_cell BK178.out 0).trans rfl
                    have hcz22_1 : wc.cell? ⟨gb178, 1, none⟩ = some (.int .i64 x179001_1) := (blk_cell BK178.out 1).trans rfl
                    have hcz22_2 : wc.cell? ⟨gb178, 2, none⟩ = some (.int .i64 x179002_1) := (blk_cell BK178.out 2).trans rfl
                    have hcz22_3 : wc.cell? ⟨gb178, 3, none⟩ = some (.int .u64 x179003_1) := (blk_cell BK178.out 3).trans rfl
                    have hcz22_4 : wc.cell? ⟨gb178, 4, none⟩ = some (.int .u64 x179004_1) := (blk_cell BK178.out 4).trans rfl
                    have hcz22_5 : wc.cell? ⟨gb178, 5, none⟩ = some (.bool x179005_1) := (blk_cell BK178.out 5).trans rfl
                    have hcz22_6 : wc.cell? ⟨gb178, 6, none⟩ = some (.int .u64 x179006_1) := (blk_cell BK178.out 6).trans rfl
                    have hfz22_0 := blk_frozen BK178.out 0
                    have hfz22_1 := blk_frozen BK178.out 1
                    have hfz22_2 := blk_frozen BK178.out 2
                    have hfz22_3 := blk_frozen BK178.out 3
                    have hfz22_4 := blk_frozen BK178.out 4
                    have hfz22_5 := blk_frozen BK178.out 5
                    have hfz22_6 := blk_frozen BK178.out 6
                    go_wp2_with (first | ((with_reducible refine gate_callee (f := 17) rfl ?_); refine goesL_ (some 46) rfl rfl Try.func17 (by kernel_rfl) rfl #[.agg #[.bool x179000_1, .int .i64 x179001_1, .int .i64 x179002_1, .int .u64 x179003_1, .int .u64 x179004_1, .bool x179005_1, .int .u64 x179006_1], .int .u64 x11_6] rfl (by (try simp only [List.map_toArray, List.map_cons, List.map_nil]); first | done | rfl | (simp only [List.length_drop, List.length_take]; rfl)) ?_; (with_reducible refine (rotaref22_Begin.calls x179000_1 x179001_1 x179002_1 x179003_1 x179004_1 x179005_1 x179006_1 x11_6 t183 t184 t185 t186 t187 t188 t189 t190 _ A20.out).mono ?_); rintro e w23 ⟨rfl, hb⟩; refine ⟨_, rfl, ?_⟩; have n0_ := Aside0.mk (blk_below (g := gb178) (o := .cells #[.bool x179000_1, .int .i64 x179001_1, .int .i64 x179002_1, .int .u64 x179003_1, .int .u64 x179004_1, .bool x179005_1, .int .u64 x179006_1] 28 (0, 0)) (by (with_reducible repeat (first | refine blk_drewN ?_ _ | refine blk_drew ?_ | refine blk_alloc ?_ _)); exact BK178.out) hb); have n1_ := Aside0.mk (blk_below (g := gb179) (o := .cells #[.bool x180000_1, .int .i64 x180001_1, .int .i64 x180002_1, .int .u64 x180003_1, .int .u64 x180004_1, .bool x180005_1, .int .u64 x180006_1] 28 (0, 0)) (by (with_reducible repeat (first | refine blk_drewN ?_ _ | refine blk_drew ?_ | refine blk_alloc ?_ _)); exact BK179.out) hb); have n2_ := Aside0.mk (below_step (by repeat (first | (with_reducible first | exact HB.out | apply below_alloc | apply pw_below_drewN | apply below_drew1 | refine below_set ?_ GE178.out | refine below_set ?_ GE179.out) | exact HB.out)) hb); clear BK178; clear BK179; clear HB; have BK178 := n0_; have BK179 := n1_; have HB := n2_; clear n0_ n1_ n2_; (try clear hb); (try clear hb2); (try clear hk); (try clear hi); have hcz24_0 : w23.cell? ⟨gb178, 0, none⟩ = some (.bool x179000_1) := (blk_cell BK178.out 0).trans rfl; have hcz24_1 : w23.cell? ⟨gb178, 1, none⟩ = some (.int .i64 x179001_1) := (blk_cell BK178.out 1).trans rfl; have hcz24_2 : w23.cell? ⟨gb178, 2, none⟩ = some (.int .i64 x179002_1) := (blk_cell BK178.out 2).trans rfl; have hcz24_3 : w23.cell? ⟨gb178, 3, none⟩ = some (.int .u64 x179003_1) := (blk_cell BK178.out 3).trans rfl; have hcz24_4 : w23.cell? ⟨gb178, 4, none⟩ = some (.int .u64 x179004_1) := (blk_cell BK178.out 4).trans rfl; have hcz24_5 : w23.cell? ⟨gb178, 5, none⟩ = some (.bool x179005_1) := (blk_cell BK178.out 5).trans rfl; have hcz24_6 : w23.cell? ⟨gb178, 6, none⟩ = some (.int .u64 x179006_1) := (blk_cell BK178.out 6).trans rfl; have hfz24_0 := blk_frozen BK178.out 0; have hfz24_1 := blk_frozen BK178.out 1; have hfz24_2 := blk_frozen BK178.out 2; have hfz24_3 := blk_frozen BK178.out 3; have hfz24_4 := blk_frozen BK178.out 4; have hfz24_5 := blk_frozen BK178.out 5; have hfz24_6 := blk_frozen BK178.out 6))
                    go_meet
                    case rel => exact ⟨_, (2), (t183), (t184), (t185), (t186), (t187), (t188), (t189), (by first | rfl | (simp; done) | (simp [*]; done)), H', ⟨by have := HK1.out; have := HJ6.out; have := HJ10.out; first | omega | exact Nat.le_refl _⟩, ⟨by (with_reducible repeat (first | refine blk_drewN ?_ _ | refine blk_drew ?_ | refine blk_alloc ?_ _)); refine blk_put (cs := #[.bool t183, .int .i64 t184, .int .i64 t185, .int .u64 t186, .int .u64 t187, .bool t188, .int .u64 x179006_1]) ?_ 6 _ rfl; (with_reducible repeat (first | refine blk_drewN ?_ _ | refine blk_drew ?_ | refine blk_alloc ?_ _)); refine blk_put (cs := #[.bool t183, .int .i64 t184, .int .i64 t185, .int .u64 t186, .int .u64 t187, .bool x179005_1, .int .u64 x179006_1]) ?_ 5 _ rfl; (with_reducible repeat (first | refine blk_drewN ?_ _ | refine blk_drew ?_ | refine blk_alloc ?_ _)); refine blk_put (cs := #[.bool t183, .int .i64 t184, .int .i64 t185, .int .u64 t186, .int .u64 x179004_1, .bool x179005_1, .int .u64 x179006_1]) ?_ 4 _ rfl; (with_reducible repeat (first | refine blk_drewN ?_ _ | refine blk_drew ?_ | refine blk_alloc ?_ _)); refine blk_put (cs := #[.bool t183, .int .i64 t184, .int .i64 t185, .int .u64 x179003_1, .int .u64 x179004_1, .bool x179005_1, .int .u64 x179006_1]) ?_ 3 _ rfl; (with_reducible repeat (first | refine blk_drewN ?_ _ | refine blk_drew ?_ | refine blk_alloc ?_ _)); refine blk_put (cs := #[.bool t183, .int .i64 t184, .int .i64 x179002_1, .int .u64 x179003_1, .int .u64 x179004_1, .bool x179005_1, .int .u64 x179006_1]) ?_ 2 _ rfl; (with_reducible repeat (first | refine blk_drewN ?_ _ | refine blk_drew ?_ | refine blk_alloc ?_ _)); refine blk_put (cs := #[.bool t183, .int .i64 x179001_1, .int .i64 x179002_1, .int .u64 x179003_1, .int .u64 x179004_1, .bool x179005_1, .int .u64 x179006_1]) ?_ 1 _ rfl; (with_reducible repeat (first | refine blk_drewN ?_ _ | refine blk_drew ?_ | refine blk_alloc ?_ _)); refine blk_put (cs := #[.bool x179000_1, .int .i64 x179001_1, .int .i64 x179002_1, .int .u64 x179003_1, .int .u64 x179004_1, .bool x179005_1, .int .u64 x179006_1]) ?_ 0 _ rfl; (with_reducible repeat (first | refine blk_drewN ?_ _ | refine blk_drew ?_ | refine blk_alloc ?_ _)); exact BK178.out⟩, ⟨by (with_reducible repeat (first | refine blk_drewN ?_ _ | refine blk_drew ?_ | refine blk_alloc ?_ _)); refine blk_far ?_ NB179_178.out _; (with_reducible repeat (first | refine blk_drewN ?_ _ | refine blk_drew ?_ | refine blk_alloc ?_ _)); refine blk_far ?_ NB179_178.out _; (with_reducible repeat (first | refine blk_drewN ?_ _ | refine blk_drew ?_ | refine blk_alloc ?_ _)); refine blk_far ?_ NB179_178.out _; (with_reducible repeat (first | refine blk_drewN ?_ _ | refine blk_drew ?_ | refine blk_alloc ?_ _)); refine blk_far ?_ NB179_178.out _; (with_reducible repeat (first | refine blk_drewN ?_ _ | refine blk_drew ?_ | refine blk_alloc ?_ _)); refine blk_far ?_ NB179_178.out _; (with_reducible repeat (first | refine blk_drewN ?_ _ | refine blk_drew ?_ | refine blk_alloc ?_ _)); refine blk_far ?_ NB179_178.out _; (with_reducible repeat (first | refine blk_drewN ?_ _ | refine blk_drew ?_ | refine blk_alloc ?_ _)); refine blk_far ?_ NB179_178.out _; (with_reducible repeat (first | refine blk_drewN ?_ _ | refine blk_drew ?_ | refine blk_alloc ?_ _)); exact BK179.out⟩, ⟨by repeat (first | (with_reducible first | exact HB.out | apply below_alloc | apply pw_below_drewN | apply below_drew1 | refine below_set ?_ GE178.out | refine below_set ?_ GE179.out) | exact HB.out)⟩⟩
                  · replace c19 := Bool.eq_false_iff.mpr c19
                    subst c19
                    have H1 : (rotaref22_Run.j3 kj10 l1 a2 x9_1 x10_1 t181 x179000_1 x179001_1 x179002_1 x179003_1 x179004_1 x179005_1 x179006_1) = some (r1, r2, r3, r4, r5, r6, r7, r8, r9) := by rw [if_neg (show ¬ (false = true) by decide)] at H; exact H
                    clear H
                    have H := H1
                    clear H1
                    have H' := Aside0.mk H
                    clear H
                    go_wp2
                    go_meet
                    case rel => exact ⟨_, (t181), (x179000_1), (x179001_1), (x179002_1), (x179003_1), (x179004_1), (x179005_1), (x179006_1), (by first | rfl | (simp; done) | (simp [*]; done)), H', ⟨by have := HK1.out; have := HJ6.out; have := HJ10.out; first | omega | exact Nat.le_refl _⟩, ⟨by (with_reducible repeat (first | refine blk_drewN ?_ _ | refine blk_drew ?_ | refine blk_alloc ?_ _)); exact BK178.out⟩, ⟨by (with_reducible repeat (first | refine blk_drewN ?_ _ | refine blk_drew ?_ | refine blk_alloc ?_ _)); exact BK179.out⟩, ⟨by repeat (first | (with_reducible first | exact HB.out | apply below_alloc | apply pw_below_drewN | apply below_drew1 | refine below_set ?_ GE178.out | refine below_set ?_ GE179.out) | exact HB.out)⟩⟩
                case rest =>
                  clear HC18
                  try clear c1
                  try clear p1
                  try clear q1
                  try clear hx1
                  try clear c2
                  try clear p2
                  try clear c6
                  try clear c6b0
                  try clear c8
                  try clear c8b0
                  try clear c9
                  try clear c9b0
                  try clear c12
                  try clear c15
                  try clear c15b0
                  try clear c15b1
                  try clear c16
                  try clear c16b0
                  try clear c17
                  try clear p18
                  try clear q18
                  try clear hx18
                  try clear c19
                  try clear c21
                  try clear hcz13_0
                  try clear hcz13_1
                  try clear hcz13_2
                  try clear hcz13_3
                  try clear hcz13_4
                  try clear hcz13_5
                  try clear hcz13_6
                  try clear hcz22_0
                  try clear hcz22_1
                  try clear hcz22_2
                  try clear hcz22_3
                  try clear hcz22_4
                  try clear hcz22_5
                  try clear hcz22_6
                  try clear hcz24_0
                  try clear hcz24_1
                  try clear hcz24_2
                  try clear hcz24_3
                  try clear hcz24_4
                  try clear hcz24_5
                  try clear hcz24_6
                  try clear hfz13_0
                  try clear hfz13_1
                  try clear hfz13_2
                  try clear hfz13_3
                  try clear hfz13_4
                  try clear hfz13_5
                  try clear hfz13_6
                  try clear hfz22_0
                  try clear hfz22_1
                  try clear hfz22_2
                  try clear hfz22_3
                  try clear hfz22_4
                  try clear hfz22_5
                  try clear hfz22_6
                  try clear hfz24_0
                  try clear hfz24_1
                  try clear hfz24_2
                  try clear hfz24_3
                  try clear hfz24_4
                  try clear hfz24_5
                  try clear hfz24_6
                  try clear hx180_0
                  try clear p1
                  try clear p180
                  try clear p2
                  try clear q1
                  try clear q180
                  obtain ⟨kq, x12_17, x179000_17, x179001_17, x179002_17, x179003_17, x179004_17, x179005_17, x179006_17, rfl, HA, HJ17, BK178, BK179, HB⟩ := hcut
                  cases kq with
                  | zero => exact absurd HA.out (by simp [rotaref22_Run.j3])
                  | succ kj17 =>
                    have H := HA.out
                    clear HA
                    simp only [rotaref22_Run.j3] at H
                    by_cases c25 : x12_17 = 2
                    · rw [if_pos c25] at H
                      have c25b0 : (x12_17 == 2) = true := beq_iff_eq.mpr c25
                      have c25b1 : (x12_17 != 2) = false := bne_eq_false_iff_eq.mpr c25
                      clear c25
                      replace H := Option.bind_eq_some_iff.mp H
                      obtain ⟨⟨t191, t192, t193, t194, t195, t196, t197, t198, t199⟩, A260, H⟩ := H
                      replace H : (if t198 = true then (rotaref22_Run.l0 kj17 l1 a2 (wrap64 (x9_1 + 1)) (IntKind.u64.wrap (x10_1 + 1)) t191 t192 t193 t194 t195 t196 t197) else (rotaref22_Run.l0 kj17 l1 a2 x9_1 (IntKind.u64.wrap (x10_1 + 1)) t191 t192 t193 t194 t195 t196 t197)) = some (r1, r2, r3, r4, r5, r6, r7, r8, r9) := H
                      have A26 := Aside0.mk A260
                      clear A260
                      by_cases c27 : t198 = true
                      · subst c27
                        have H1 : (rotaref22_Run.l0 kj17 l1 a2 (wrap64 (x9_1 + 1)) (IntKind.u64.wrap (x10_1 + 1)) t191 t192 t193 t194 t195 t196 t197) = some (r1, r2, r3, r4, r5, r6, r7, r8, r9) := by rw [if_pos rfl] at H; exact H
                        clear H
                        have H := H1
                        clear H1
                        have H' := Aside0.mk H
                        clear H
                        have hnb28 := NB178_179.out
                        have hnc28 := NB179_178.out
                        have hcz29_0 : wc.cell? ⟨gb178, 0, none⟩ = some (.bool x179000_17) := (blk_cell BK178.out 0).trans rfl
                        have hcz29_1 : wc.cell? ⟨gb178, 1, none⟩ = some (.int .i64 x179001_17) := (blk_cell BK178.out 1).trans rfl
                        have hcz29_2 : wc.cell? ⟨gb178, 2, none⟩ = some (.int .i64 x179002_17) := (blk_cell BK178.out 2).trans rfl
                        have hcz29_3 : wc.cell? ⟨gb178, 3, none⟩ = some (.int .u64 x179003_17) := (blk_cell BK178.out 3).trans rfl
                        have hcz29_4 : wc.cell? ⟨gb178, 4, none⟩ = some (.int .u64 x179004_17) := (blk_cell BK178.out 4).trans rfl
                        have hcz29_5 : wc.cell? ⟨gb178, 5, none⟩ = some (.bool x179005_17) := (blk_cell BK178.out 5).trans rfl
                        have hcz29_6 : wc.cell? ⟨gb178, 6, none⟩ = some (.int .u64 x179006_17) := (blk_cell BK178.out 6).trans rfl
                        have hfz29_0 := blk_frozen BK178.out 0
                        have hfz29_1 := blk_frozen BK178.out 1
                        have hfz29_2 := blk_frozen BK178.out 2
                        have hfz29_3 := blk_frozen BK178.out 3
                        have hfz29_4 := blk_frozen BK178.out 4
                        have hfz29_5 := blk_frozen BK178.out 5
                        have hfz29_6 := blk_frozen BK178.out 6
                        go_wp2_with (first | ((with_reducible refine gate_callee (f := 19) rfl ?_); refine goesL_ (some 56) rfl rfl Try.func19 (by kernel_rfl) rfl #[.agg #[.bool x179000_17, .int .i64 x179001_17, .int .i64 x179002_17, .int .u64 x179003_17, .int .u64 x179004_17, .bool x179005_17, .int .u64 x179006_17]] rfl (by (try simp only [List.map_toArray, List.map_cons, List.map_nil]); first | done | rfl | (simp only [List.length_drop, List.length_take]; rfl)) ?_; (with_reducible refine (rotaref22_Tick.calls x179000_17 x179001_17 x179002_17 x179003_17 x179004_17 x179005_17 x179006_17 t191 t192 t193 t194 t195 t196 t197 true t199 _ A26.out).mono ?_); rintro e w30 ⟨rfl, hb⟩; refine ⟨_, rfl, ?_⟩; have n0_ := Aside0.mk (blk_below (g := gb178) (o := .cells #[.bool x179000_17, .int .i64 x179001_17, .int .i64 x179002_17, .int .u64 x179003_17, .int .u64 x179004_17, .bool x179005_17, .int .u64 x179006_17] 28 (0, 0)) (by (with_reducible repeat (first | refine blk_drewN ?_ _ | refine blk_drew ?_ | refine blk_alloc ?_ _)); exact BK178.out) hb); have n1_ := Aside0.mk (blk_below (g := gb179) (o := .cells #[.bool x180000_1, .int .i64 x180001_1, .int .i64 x180002_1, .int .u64 x180003_1, .int .u64 x180004_1, .bool x180005_1, .int .u64 x180006_1] 28 (0, 0)) (by (with_reducible repeat (first | refine blk_drewN ?_ _ | refine blk_drew ?_ | refine blk_alloc ?_ _)); exact BK179.out) hb); have n2_ := Aside0.mk (below_step (by repeat (first | (with_reducible first | exact HB.out | apply below_alloc | apply pw_below_drewN | apply below_drew1 | refine below_set ?_ GE178.out | refine below_set ?_ GE179.out) | exact HB.out)) hb); clear BK178; clear BK179; clear HB; have BK178 := n0_; have BK179 := n1_; have HB := n2_; clear n0_ n1_ n2_; (try clear hb); (try clear hb2); (try clear hk); (try clear hi); have hcz31_0 : w30.cell? ⟨gb178, 0, none⟩ = some (.bool x179000_17) := (blk_cell BK178.out 0).trans rfl; have hcz31_1 : w30.cell? ⟨gb178, 1, none⟩ = some (.int .i64 x179001_17) := (blk_cell BK178.out 1).trans rfl; have hcz31_2 : w30.cell? ⟨gb178, 2, none⟩ = some (.int .i64 x179002_17) := (blk_cell BK178.out 2).trans rfl; have hcz31_3 : w30.cell? ⟨gb178, 3, none⟩ = some (.int .u64 x179003_17) := (blk_cell BK178.out 3).trans rfl; have hcz31_4 : w30.cell? ⟨gb178, 4, none⟩ = some (.int .u64 x179004_17) := (blk_cell BK178.out 4).trans rfl; have hcz31_5 : w30.cell? ⟨gb178, 5, none⟩ = some (.bool x179005_17) := (blk_cell BK178.out 5).trans rfl; have hcz31_6 : w30.cell? ⟨gb178, 6, none⟩ = some (.int .u64 x179006_17) := (blk_cell BK178.out 6).trans rfl; have hfz31_0 := blk_frozen BK178.out 0; have hfz31_1 := blk_frozen BK178.out 1; have hfz31_2 := blk_frozen BK178.out 2; have hfz31_3 := blk_frozen BK178.out 3; have hfz31_4 := blk_frozen BK178.out 4; have hfz31_5 := blk_frozen BK178.out 5; have hfz31_6 := blk_frozen BK178.out 6))
                        go_roundg kj17
                        case measure => have := HK1.out; have := HJ6.out; have := HJ10.out; have := HJ17.out; omega
                        case rel => exact ⟨(wrap64 (x9_1 + 1)), (IntKind.u64.wrap (x10_1 + 1)), (t191), (t192), (t193), (t194), (t195), (t196), (t197), (x180000_1), (x180001_1), (x180002_1), (x180003_1), (x180004_1), (x180005_1), (x180006_1), (by first | rfl | (simp; done) | (simp [*]; done)), (by first | rfl | (simp; done) | (simp [*]; done)), H', ⟨by have := HK1.out; have := HJ6.out; have := HJ10.out; have := HJ17.out; omega⟩, ⟨by (with_reducible repeat (first | refine blk_drewN ?_ _ | refine blk_drew ?_ | refine blk_alloc ?_ _)); refine blk_put (cs := #[.bool t191, .int .i64 t192, .int .i64 t193, .int .u64 t194, .int .u64 t195, .bool t196, .int .u64 x179006_17]) ?_ 6 _ rfl; (with_reducible repeat (first | refine blk_drewN ?_ _ | refine blk_drew ?_ | refine blk_alloc ?_ _)); refine blk_put (cs := #[.bool t191, .int .i64 t192, .int .i64 t193, .int .u64 t194, .int .u64 t195, .bool x179005_17, .int .u64 x179006_17]) ?_ 5 _ rfl; (with_reducible repeat (first | refine blk_drewN ?_ _ | refine blk_drew ?_ | refine blk_alloc ?_ _)); refine blk_put (cs := #[.bool t191, .int .i64 t192, .int .i64 t193, .int .u64 t194, .int .u64 x179004_17, .bool x179005_17, .int .u64 x179006_17]) ?_ 4 _ rfl; (with_reducible repeat (first | refine blk_drewN ?_ _ | refine blk_drew ?_ | refine blk_alloc ?_ _)); refine blk_put (cs := #[.bool t191, .int .i64 t192, .int .i64 t193, .int .u64 x179003_17, .int .u64 x179004_17, .bool x179005_17, .int .u64 x179006_17]) ?_ 3 _ rfl; (with_reducible repeat (first | refine blk_drewN ?_ _ | refine blk_drew ?_ | refine blk_alloc ?_ _)); refine blk_put (cs := #[.bool t191, .int .i64 t192, .int .i64 x179002_17, .int .u64 x179003_17, .int .u64 x179004_17, .bool x179005_17, .int .u64 x179006_17]) ?_ 2 _ rfl; (with_reducible repeat (first | refine blk_drewN ?_ _ | refine blk_drew ?_ | refine blk_alloc ?_ _)); refine blk_put (cs := #[.bool t191, .int .i64 x179001_17, .int .i64 x179002_17, .int .u64 x179003_17, .int .u64 x179004_17, .bool x179005_17, .int .u64 x179006_17]) ?_ 1 _ rfl; (with_reducible repeat (first | refine blk_drewN ?_ _ | refine blk_drew ?_ | refine blk_alloc ?_ _)); refine blk_put (cs := #[.bool x179000_17, .int .i64 x179001_17, .int .i64 x179002_17, .int .u64 x179003_17, .int .u64 x179004_17, .bool x179005_17, .int .u64 x179006_17]) ?_ 0 _ rfl; (with_reducible repeat (first | refine blk_drewN ?_ _ | refine blk_drew ?_ | refine blk_alloc ?_ _)); exact BK178.out⟩, ⟨by (with_reducible repeat (first | refine blk_drewN ?_ _ | refine blk_drew ?_ | refine blk_alloc ?_ _)); refine blk_far ?_ NB179_178.out _; (with_reducible repeat (first | refine blk_drewN ?_ _ | refine blk_drew ?_ | refine blk_alloc ?_ _)); refine blk_far ?_ NB179_178.out _; (with_reducible repeat (first | refine blk_drewN ?_ _ | refine blk_drew ?_ | refine blk_alloc ?_ _)); refine blk_far ?_ NB179_178.out _; (with_reducible repeat (first | refine blk_drewN ?_ _ | refine blk_drew ?_ | refine blk_alloc ?_ _)); refine blk_far ?_ NB179_178.out _; (with_reducible repeat (first | refine blk_drewN ?_ _ | refine blk_drew ?_ | refine blk_alloc ?_ _)); refine blk_far ?_ NB179_178.out _; (with_reducible repeat (first | refine blk_drewN ?_ _ | refine blk_drew ?_ | refine blk_alloc ?_ _)); refine blk_far ?_ NB179_178.out _; (with_reducible repeat (first | refine blk_drewN ?_ _ | refine blk_drew ?_ | refine blk_alloc ?_ _)); refine blk_far ?_ NB179_178.out _; (with_reducible repeat (first | refine blk_drewN ?_ _ | refine blk_drew ?_ | refine blk_alloc ?_ _)); exact BK179.out⟩, ⟨by repeat (first | (with_reducible first | exact HB.out | apply below_alloc | apply pw_below_drewN | apply below_drew1 | refine below_set ?_ GE178.out | refine below_set ?_ GE179.out) | exact HB.out)⟩⟩
                      · replace c27 := Bool.eq_false_iff.mpr c27
                        subst c27
                        have H1 : (rotaref22_Run.l0 kj17 l1 a2 x9_1 (IntKind.u64.wrap (x10_1 + 1)) t191 t192 t193 t194 t195 t196 t197) = some (r1, r2, r3, r4, r5, r6, r7, r8, r9) := by rw [if_neg (show ¬ (false = true) by decide)] at H; exact H
                        clear H
                        have H := H1
                        clear H1
                        have H' := Aside0.mk H
                        clear H
                        have hnb32 := NB178_179.out
                        have hnc32 := NB179_178.out
                        have hcz33_0 : wc.cell? ⟨gb178, 0, none⟩ = some (.bool x179000_17) := (blk_cell BK178.out 0).trans rfl
                        have hcz33_1 : wc.cell? ⟨gb178, 1, none⟩ = some (.int .i64 x179001_17) := (blk_cell BK178.out 1).trans rfl
                        have hcz33_2 : wc.cell? ⟨gb178, 2, none⟩ = some (.int .i64 x179002_17) := (blk_cell BK178.out 2).trans rfl
                        have hcz33_3 : wc.cell? ⟨gb178, 3, none⟩ = some (.int .u64 x179003_17) := (blk_cell BK178.out 3).trans rfl
                        have hcz33_4 : wc.cell? ⟨gb178, 4, none⟩ = some (.int .u64 x179004_17) := (blk_cell BK178.out 4).trans rfl
                        have hcz33_5 : wc.cell? ⟨gb178, 5, none⟩ = some (.bool x179005_17) := (blk_cell BK178.out 5).trans rfl
                        have hcz33_6 : wc.cell? ⟨gb178, 6, none⟩ = some (.int .u64 x179006_17) := (blk_cell BK178.out 6).trans rfl
                        have hfz33_0 := blk_frozen BK178.out 0
                        have hfz33_1 := blk_frozen BK178.out 1
                        have hfz33_2 := blk_frozen BK178.out 2
                        have hfz33_3 := blk_frozen BK178.out 3
                        have hfz33_4 := blk_frozen BK178.out 4
                        have hfz33_5 := blk_frozen BK178.out 5
                        have hfz33_6 := blk_frozen BK178.out 6
                        go_wp2_with (first | ((with_reducible refine gate_callee (f := 19) rfl ?_); refine goesL_ (some 56) rfl rfl Try.func19 (by kernel_rfl) rfl #[.agg #[.bool x179000_17, .int .i64 x179001_17, .int .i64 x179002_17, .int .u64 x179003_17, .int .u64 x179004_17, .bool x179005_17, .int .u64 x179006_17]] rfl (by (try simp only [List.map_toArray, List.map_cons, List.map_nil]); first | done | rfl | (simp only [List.length_drop, List.length_take]; rfl)) ?_; (with_reducible refine (rotaref22_Tick.calls x179000_17 x179001_17 x179002_17 x179003_17 x179004_17 x179005_17 x179006_17 t191 t192 t193 t194 t195 t196 t197 false t199 _ A26.out).mono ?_); rintro e w34 ⟨rfl, hb⟩; refine ⟨_, rfl, ?_⟩; have n0_ := Aside0.mk (blk_below (g := gb178) (o := .cells #[.bool x179000_17, .int .i64 x179001_17, .int .i64 x179002_17, .int .u64 x179003_17, .int .u64 x179004_17, .bool x179005_17, .int .u64 x179006_17] 28 (0, 0)) (by (with_reducible repeat (first | refine blk_drewN ?_ _ | refine blk_drew ?_ | refine blk_alloc ?_ _)); exact BK178.out) hb); have n1_ := Aside0.mk (blk_below (g := gb179) (o := .cells #[.bool x180000_1, .int .i64 x180001_1, .int .i64 x180002_1, .int .u64 x180003_1, .int .u64 x180004_1, .bool x180005_1, .int .u64 x180006_1] 28 (0, 0)) (by (with_reducible repeat (first | refine blk_drewN ?_ _ | refine blk_drew ?_ | refine blk_alloc ?_ _)); exact BK179.out) hb); have n2_ := Aside0.mk (below_step (by repeat (first | (with_reducible first | exact HB.out | apply below_alloc | apply pw_below_drewN | apply below_drew1 | refine below_set ?_ GE178.out | refine below_set ?_ GE179.out) | exact HB.out)) hb); clear BK178; clear BK179; clear HB; have BK178 := n0_; have BK179 := n1_; have HB := n2_; clear n0_ n1_ n2_; (try clear hb); (try clear hb2); (try clear hk); (try clear hi); have hcz35_0 : w34.cell? ⟨gb178, 0, none⟩ = some (.bool x179000_17) := (blk_cell BK178.out 0).trans rfl; have hcz35_1 : w34.cell? ⟨gb178, 1, none⟩ = some (.int .i64 x179001_17) := (blk_cell BK178.out 1).trans rfl; have hcz35_2 : w34.cell? ⟨gb178, 2, none⟩ = some (.int .i64 x179002_17) := (blk_cell BK178.out 2).trans rfl; have hcz35_3 : w34.cell? ⟨gb178, 3, none⟩ = some (.int .u64 x179003_17) := (blk_cell BK178.out 3).trans rfl; have hcz35_4 : w34.cell? ⟨gb178, 4, none⟩ = some (.int .u64 x179004_17) := (blk_cell BK178.out 4).trans rfl; have hcz35_5 : w34.cell? ⟨gb178, 5, none⟩ = some (.bool x179005_17) := (blk_cell BK178.out 5).trans rfl; have hcz35_6 : w34.cell? ⟨gb178, 6, none⟩ = some (.int .u64 x179006_17) := (blk_cell BK178.out 6).trans rfl; have hfz35_0 := blk_frozen BK178.out 0; have hfz35_1 := blk_frozen BK178.out 1; have hfz35_2 := blk_frozen BK178.out 2; have hfz35_3 := blk_frozen BK178.out 3; have hfz35_4 := blk_frozen BK178.out 4; have hfz35_5 := blk_frozen BK178.out 5; have hfz35_6 := blk_frozen BK178.out 6))
                        go_roundg kj17
                        case measure => have := HK1.out; have := HJ6.out; have := HJ10.out; have := HJ17.out; omega
                        case rel => exact ⟨(x9_1), (IntKind.u64.wrap (x10_1 + 1)), (t191), (t192), (t193), (t194), (t195), (t196), (t197), (x180000_1), (x180001_1), (x180002_1), (x180003_1), (x180004_1), (x180005_1), (x180006_1), (by first | rfl | (simp; done) | (simp [*]; done)), (by first | rfl | (simp; done) | (simp [*]; done)), H', ⟨by have := HK1.out; have := HJ6.out; have := HJ10.out; have := HJ17.out; omega⟩, ⟨by (with_reducible repeat (first | refine blk_drewN ?_ _ | refine blk_drew ?_ | refine blk_alloc ?_ _)); refine blk_put (cs := #[.bool t191, .int .i64 t192, .int .i64 t193, .int .u64 t194, .int .u64 t195, .bool t196, .int .u64 x179006_17]) ?_ 6 _ rfl; (with_reducible repeat (first | refine blk_drewN ?_ _ | refine blk_drew ?_ | refine blk_alloc ?_ _)); refine blk_put (cs := #[.bool t191, .int .i64 t192, .int .i64 t193, .int .u64 t194, .int .u64 t195, .bool x179005_17, .int .u64 x179006_17]) ?_ 5 _ rfl; (with_reducible repeat (first | refine blk_drewN ?_ _ | refine blk_drew ?_ | refine blk_alloc ?_ _)); refine blk_put (cs := #[.bool t191, .int .i64 t192, .int .i64 t193, .int .u64 t194, .int .u64 x179004_17, .bool x179005_17, .int .u64 x179006_17]) ?_ 4 _ rfl; (with_reducible repeat (first | refine blk_drewN ?_ _ | refine blk_drew ?_ | refine blk_alloc ?_ _)); refine blk_put (cs := #[.bool t191, .int .i64 t192, .int .i64 t193, .int .u64 x179003_17, .int .u64 x179004_17, .bool x179005_17, .int .u64 x179006_17]) ?_ 3 _ rfl; (with_reducible repeat (first | refine blk_drewN ?_ _ | refine blk_drew ?_ | refine blk_alloc ?_ _)); refine blk_put (cs := #[.bool t191, .int .i64 t192, .int .i64 x179002_17, .int .u64 x179003_17, .int .u64 x179004_17, .bool x179005_17, .int .u64 x179006_17]) ?_ 2 _ rfl; (with_reducible repeat (first | refine blk_drewN ?_ _ | refine blk_drew ?_ | refine blk_alloc ?_ _)); refine blk_put (cs := #[.bool t191, .int .i64 x179001_17, .int .i64 x179002_17, .int .u64 x179003_17, .int .u64 x179004_17, .bool x179005_17, .int .u64 x179006_17]) ?_ 1 _ rfl; (with_reducible repeat (first | refine blk_drewN ?_ _ | refine blk_drew ?_ | refine blk_alloc ?_ _)); refine blk_put (cs := #[.bool x179000_17, .int .i64 x179001_17, .int .i64 x179002_17, .int .u64 x179003_17, .int .u64 x179004_17, .bool x179005_17, .int .u64 x179006_17]) ?_ 0 _ rfl; (with_reducible repeat (first | refine blk_drewN ?_ _ | refine blk_drew ?_ | refine blk_alloc ?_ _)); exact BK178.out⟩, ⟨by (with_reducible repeat (first | refine blk_drewN ?_ _ | refine blk_drew ?_ | refine blk_alloc ?_ _)); refine blk_far ?_ NB179_178.out _; (with_reducible repeat (first | refine blk_drewN ?_ _ | refine blk_drew ?_ | refine blk_alloc ?_ _)); refine blk_far ?_ NB179_178.out _; (with_reducible repeat (first | refine blk_drewN ?_ _ | refine blk_drew ?_ | refine blk_alloc ?_ _)); refine blk_far ?_ NB179_178.out _; (with_reducible repeat (first | refine blk_drewN ?_ _ | refine blk_drew ?_ | refine blk_alloc ?_ _)); refine blk_far ?_ NB179_178.out _; (with_reducible repeat (first | refine blk_drewN ?_ _ | refine blk_drew ?_ | refine blk_alloc ?_ _)); refine blk_far ?_ NB179_178.out _; (with_reducible repeat (first | refine blk_drewN ?_ _ | refine blk_drew ?_ | refine blk_alloc ?_ _)); refine blk_far ?_ NB179_178.out _; (with_reducible repeat (first | refine blk_drewN ?_ _ | refine blk_drew ?_ | refine blk_alloc ?_ _)); refine blk_far ?_ NB179_178.out _; (with_reducible repeat (first | refine blk_drewN ?_ _ | refine blk_drew ?_ | refine blk_alloc ?_ _)); exact BK179.out⟩, ⟨by repeat (first | (with_reducible first | exact HB.out | apply below_alloc | apply pw_below_drewN | apply below_drew1 | refine below_set ?_ GE178.out | refine below_set ?_ GE179.out) | exact HB.out)⟩⟩
                    · rw [if_neg c25] at H
                      have c25b0 : (x12_17 == 2) = false := beq_eq_false_iff_ne.mpr c25
                      have c25b1 : (x12_17 != 2) = true := bne_iff_ne.mpr c25
                      simp only [Option.some.injEq, Prod.mk.injEq] at H
                      obtain ⟨rfl, rfl, rfl, rfl, rfl, rfl, rfl, rfl, rfl⟩ := H
                      try go_wp2
                      have n0_ := Aside0.mk (blk_drew BK178.out)
                      have n1_ := Aside0.mk (blk_drew BK179.out)
                      have n2_ := Aside0.mk (below_drew1 HB.out)
                      clear BK178
                      clear BK179
                      clear HB
                      have BK178 := n0_
                      have BK179 := n1_
                      have HB := n2_
                      clear n0_ n1_ n2_
                      refine start_ (n := 6) (S := fun w' => w'.cell? ⟨gb178, 0, none⟩ = some (.bool x179000_17) ∧ w'.cell? ⟨gb178, 1, none⟩ = some (.int .i64 x179001_17) ∧ w'.cell? ⟨gb178, 2, none⟩ = some (.int .i64 x179002_17) ∧ w'.cell? ⟨gb178, 3, none⟩ = some (.int .u64 x179003_17) ∧ w'.cell? ⟨gb178, 4, none⟩ = some (.int .u64 x179004_17) ∧ w'.cell? ⟨gb178, 5, none⟩ = some (.bool x179005_17) ∧ w'.cell? ⟨gb178, 6, none⟩ = some (.int .u64 x179006_17)) (ds := []) #[false, false, false, false, false, false] (by kernel_rfl) rfl rfl ⟨(blk_cell BK178.out 0).trans rfl, (blk_cell BK178.out 1).trans rfl, (blk_cell BK178.out 2).trans rfl, (blk_cell BK178.out 3).trans rfl, (blk_cell BK178.out 4).trans rfl, (blk_cell BK178.out 5).trans rfl, (blk_cell BK178.out 6).trans rfl⟩ (fun hHeld => ?_)
                      generalize wc.drew = w36 at BK178 BK179 HB hHeld ⊢
                      refine pure_ (i := 0) (N := some 51) (v := ?_) (a' := ?_) #[true, false, false, false, false, false] rfl rfl (by kernel_rfl) (fun _ _ _ h => h) (Or.inl ⟨by rfl, ?_⟩) ?_ ?_
                      rotate_left
                      · intro w'
                        go_simp
                        with_reducible rfl
                      rotate_left
                      · simp only [Act.put, List.setIfInBounds_toArray, List.set_cons_zero, List.set_cons_succ, i64_w, i32_w]
                        rfl
                      refine pure_ (i := 1) (N := some 52) (v := ?_) (a' := ?_) #[true, true, false, false, false, false] rfl rfl (by kernel_rfl) (fun _ _ _ h => h) (Or.inl ⟨by rfl, ?_⟩) ?_ ?_
                      rotate_left
                      · intro w'
                        go_simp
                        with_reducible rfl
                      rotate_left
                      · simp only [Act.put, List.setIfInBounds_toArray, List.set_cons_zero, List.set_cons_succ, i64_w, i32_w]
                        rfl
                      refine pure_ (i := 3) (N := some 6) (v := ?_) (a' := ?_) #[true, true, false, true, false, false] rfl rfl (by kernel_rfl) (fun _ _ _ h => h) (Or.inl ⟨by rfl, ?_⟩) ?_ ?_
                      rotate_left
                      · intro w'
                        go_simp
                        with_reducible rfl
                      rotate_left
                      · simp only [Act.put, List.setIfInBounds_toArray, List.set_cons_zero, List.set_cons_succ, i64_w, i32_w]
                        rfl
                      refine pure_ (i := 4) (N := some 7) (v := ?_) (a' := ?_) #[true, true, false, true, true, false] rfl rfl (by kernel_rfl) (fun _ _ _ h => h) (Or.inl ⟨by rfl, ?_⟩) ?_ ?_
                      rotate_left
                      · intro w'
                        go_simp
                        with_reducible rfl
                      rotate_left
                      · simp only [Act.put, List.setIfInBounds_toArray, List.set_cons_zero, List.set_cons_succ, i64_w, i32_w]
                        rfl
                      refine take_ (i := 2) (N := some 53) (v := ?_) (a' := ?_) #[true, true, true, true, true, false] rfl rfl (by kernel_rfl) (fun _ _ _ h => h) (Or.inl ⟨by rfl, ?_⟩) hHeld ?_ ?_
                      rotate_left
                      · rintro w' ⟨s0, s1, s2, s3, s4, s5, s6⟩
                        go_simp
                        with_reducible rfl
                      rotate_left
                      · simp only [Act.put, List.setIfInBounds_toArray, List.set_cons_zero, List.set_cons_succ, i64_w, i32_w]
                        rfl
                      refine one_ (i := 5) (N := none) #[true, true, true, true, true, true] rfl rfl (by kernel_rfl) (by decide) (fun K hK => ?_)
                      have hs37 : w36.cell? ⟨gb179, 0, none⟩ = some (.bool x180000_1) := (blk_cell BK179.out 0).trans rfl
                      have hfs37 := blk_frozen BK179.out 0
                      have hns37_0 := NB178_179.out
                      have hms37_0 := NB179_178.out
                      have hs38 : w36.cell? ⟨gb179, 1, none⟩ = some (.int .i64 x180001_1) := (blk_cell BK179.out 1).trans rfl
                      have hfs38 := blk_frozen BK179.out 1
                      have hns38_0 := NB178_179.out
                      have hms38_0 := NB179_178.out
                      have hs39 : w36.cell? ⟨gb179, 2, none⟩ = some (.int .i64 x180002_1) := (blk_cell BK179.out 2).trans rfl
                      have hfs39 := blk_frozen BK179.out 2
                      have hns39_0 := NB178_179.out
                      have hms39_0 := NB179_178.out
                      have hs40 : w36.cell? ⟨gb179, 3, none⟩ = some (.int .u64 x180003_1) := (blk_cell BK179.out 3).trans rfl
                      have hfs40 := blk_frozen BK179.out 3
                      have hns40_0 := NB178_179.out
                      have hms40_0 := NB179_178.out
                      have hs41 : w36.cell? ⟨gb179, 4, none⟩ = some (.int .u64 x180004_1) := (blk_cell BK179.out 4).trans rfl
                      have hfs41 := blk_frozen BK179.out 4
                      have hns41_0 := NB178_179.out
                      have hms41_0 := NB179_178.out
                      have hs42 : w36.cell? ⟨gb179, 5, none⟩ = some (.bool x180005_1) := (blk_cell BK179.out 5).trans rfl
                      have hfs42 := blk_frozen BK179.out 5
                      have hns42_0 := NB178_179.out
                      have hms42_0 := NB179_178.out
                      have hs43 : w36.cell? ⟨gb179, 6, none⟩ = some (.int .u64 x180006_1) := (blk_cell BK179.out 6).trans rfl
                      have hfs43 := blk_frozen BK179.out 6
                      have hns43_0 := NB178_179.out
                      have hms43_0 := NB179_178.out
                      refine skip_ (w1 := ?_) (by rfl) rfl ?_ ?_
                      rotate_left
                      · go_simp
                        rfl
                      refine hK.out _ _ ⟨((cell_far (p := ⟨gb179, _, none⟩) NB178_179.out _).trans (((cell_far (p := ⟨gb179, _, none⟩) NB178_179.out _).trans (((cell_far (p := ⟨gb179, _, none⟩) NB178_179.out _).trans (((cell_far (p := ⟨gb179, _, none⟩) NB178_179.out _).trans (((cell_far (p := ⟨gb179, _, none⟩) NB178_179.out _).trans (((cell_far (p := ⟨gb179, _, none⟩) NB178_179.out _).trans (((cell_far (p := ⟨gb179, _, none⟩) NB178_179.out _).trans (hHeld.1)))))))))))))), ((cell_far (p := ⟨gb179, _, none⟩) NB178_179.out _).trans (((cell_far (p := ⟨gb179, _, none⟩) NB178_179.out _).trans (((cell_far (p := ⟨gb179, _, none⟩) NB178_179.out _).trans (((cell_far (p := ⟨gb179, _, none⟩) NB178_179.out _).trans (((cell_far (p := ⟨gb179, _, none⟩) NB178_179.out _).trans (((cell_far (p := ⟨gb179, _, none⟩) NB178_179.out _).trans (((cell_far (p := ⟨gb179, _, none⟩) NB178_179.out _).trans (hHeld.2.1)))))))))))))), ((cell_far (p := ⟨gb179, _, none⟩) NB178_179.out _).trans (((cell_far (p := ⟨gb179, _, none⟩) NB178_179.out _).trans (((cell_far (p := ⟨gb179, _, none⟩) NB178_179.out _).trans (((cell_far (p := ⟨gb179, _, none⟩) NB178_179.out _).trans (((cell_far (p := ⟨gb179, _, none⟩) NB178_179.out _).trans (((cell_far (p := ⟨gb179, _, none⟩) NB178_179.out _).trans (((cell_far (p := ⟨gb179, _, none⟩) NB178_179.out _).trans (hHeld.2.2.1)))))))))))))), ((cell_far (p := ⟨gb179, _, none⟩) NB178_179.out _).trans (((cell_far (p := ⟨gb179, _, none⟩) NB178_179.out _).trans (((cell_far (p := ⟨gb179, _, none⟩) NB178_179.out _).trans (((cell_far (p := ⟨gb179, _, none⟩) NB178_179.out _).trans (((cell_far (p := ⟨gb179, _, none⟩) NB178_179.out _).trans (((cell_far (p := ⟨gb179, _, none⟩) NB178_179.out _).trans (((cell_far (p := ⟨gb179, _, none⟩) NB178_179.out _).trans (hHeld.2.2.2.1)))))))))))))), ((cell_far (p := ⟨gb179, _, none⟩) NB178_179.out _).trans (((cell_far (p := ⟨gb179, _, none⟩) NB178_179.out _).trans (((cell_far (p := ⟨gb179, _, none⟩) NB178_179.out _).trans (((cell_far (p := ⟨gb179, _, none⟩) NB178_179.out _).trans (((cell_far (p := ⟨gb179, _, none⟩) NB178_179.out _).trans (((cell_far (p := ⟨gb179, _, none⟩) NB178_179.out _).trans (((cell_far (p := ⟨gb179, _, none⟩) NB178_179.out _).trans (hHeld.2.2.2.2.1)))))))))))))), ((cell_far (p := ⟨gb179, _, none⟩) NB178_179.out _).trans (((cell_far (p := ⟨gb179, _, none⟩) NB178_179.out _).trans (((cell_far (p := ⟨gb179, _, none⟩) NB178_179.out _).trans (((cell_far (p := ⟨gb179, _, none⟩) NB178_179.out _).trans (((cell_far (p := ⟨gb179, _, none⟩) NB178_179.out _).trans (((cell_far (p := ⟨gb179, _, none⟩) NB178_179.out _).trans (((cell_far (p := ⟨gb179, _, none⟩) NB178_179.out _).trans (hHeld.2.2.2.2.2.1)))))))))))))), ((cell_far (p := ⟨gb179, _, none⟩) NB178_179.out _).trans (((cell_far (p := ⟨gb179, _, none⟩) NB178_179.out _).trans (((cell_far (p := ⟨gb179, _, none⟩) NB178_179.out _).trans (((cell_far (p := ⟨gb179, _, none⟩) NB178_179.out _).trans (((cell_far (p := ⟨gb179, _, none⟩) NB178_179.out _).trans (((cell_far (p := ⟨gb179, _, none⟩) NB178_179.out _).trans (((cell_far (p := ⟨gb179, _, none⟩) NB178_179.out _).trans (hHeld.2.2.2.2.2.2))))))))))))))⟩ (fun hHeld => ?_)
                      clear hK K
                      refine done_ (by kernel_rfl) ?_
                      try go_wp2
                      refine bodyPost_ret (results_list (rs := [.tmp 6, .tmp 7, .cell 8 28]) rfl (by simp) (.tmp (.tmp (.cell gb179 28 #[.bool x179000_17, .int .i64 x179001_17, .int .i64 x179002_17, .int .u64 x179003_17, .int .u64 x179004_17, .bool x179005_17, .int .u64 x179006_17] (0, 0) _ rfl (by (with_reducible repeat (first | refine blk_drewN ?_ _ | refine blk_drew ?_ | refine blk_alloc ?_ _)); refine blk_put (cs := #[.bool x179000_17, .int .i64 x179001_17, .int .i64 x179002_17, .int .u64 x179003_17, .int .u64 x179004_17, .bool x179005_17, .int .u64 x180006_1]) ?_ 6 _ rfl; (with_reducible repeat (first | refine blk_drewN ?_ _ | refine blk_drew ?_ | refine blk_alloc ?_ _)); refine blk_put (cs := #[.bool x179000_17, .int .i64 x179001_17, .int .i64 x179002_17, .int .u64 x179003_17, .int .u64 x179004_17, .bool x180005_1, .int .u64 x180006_1]) ?_ 5 _ rfl; (with_reducible repeat (first | refine blk_drewN ?_ _ | refine blk_drew ?_ | refine blk_alloc ?_ _)); refine blk_put (cs := #[.bool x179000_17, .int .i64 x179001_17, .int .i64 x179002_17, .int .u64 x179003_17, .int .u64 x180004_1, .bool x180005_1, .int .u64 x180006_1]) ?_ 4 _ rfl; (with_reducible repeat (first | refine blk_drewN ?_ _ | refine blk_drew ?_ | refine blk_alloc ?_ _)); refine blk_put (cs := #[.bool x179000_17, .int .i64 x179001_17, .int .i64 x179002_17, .int .u64 x180003_1, .int .u64 x180004_1, .bool x180005_1, .int .u64 x180006_1]) ?_ 3 _ rfl; (with_reducible repeat (first | refine blk_drewN ?_ _ | refine blk_drew ?_ | refine blk_alloc ?_ _)); refine blk_put (cs := #[.bool x179000_17, .int .i64 x179001_17, .int .i64 x180002_1, .int .u64 x180003_1, .int .u64 x180004_1, .bool x180005_1, .int .u64 x180006_1]) ?_ 2 _ rfl; (with_reducible repeat (first | refine blk_drewN ?_ _ | refine blk_drew ?_ | refine blk_alloc ?_ _)); refine blk_put (cs := #[.bool x179000_17, .int .i64 x180001_1, .int .i64 x180002_1, .int .u64 x180003_1, .int .u64 x180004_1, .bool x180005_1, .int .u64 x180006_1]) ?_ 1 _ rfl; (with_reducible repeat (first | refine blk_drewN ?_ _ | refine blk_drew ?_ | refine blk_alloc ?_ _)); refine blk_put (cs := #[.bool x180000_1, .int .i64 x180001_1, .int .i64 x180002_1, .int .u64 x180003_1, .int .u64 x180004_1, .bool x180005_1, .int .u64 x180006_1]) ?_ 0 _ rfl; (with_reducible repeat (first | refine blk_drewN ?_ _ | refine blk_drew ?_ | refine blk_alloc ?_ _)); exact BK179.out) Try.underlying28 rfl (by kernel_rfl) .nil)))) rfl ?_
                      exact ⟨by first | rfl | (simp [errW_none, errW_some] <;> rfl) | (simp [*, errW_none, errW_some] <;> rfl), by repeat (first | (with_reducible first | exact HB.out | apply below_alloc | apply pw_below_drewN | apply below_drew1 | refine below_set ?_ GE178.out | refine below_set ?_ GE179.out) | exact HB.out)⟩
      · rw [if_neg c6] at H
        have c6b0 : decide (x10_1 < a2) = false := decide_eq_false c6
        clear c6
        simp only [Option.some.injEq, Prod.mk.injEq] at H
        obtain ⟨rfl, rfl, rfl, rfl, rfl, rfl, rfl, rfl, rfl⟩ := H
        try go_wp2
        have n0_ := Aside0.mk (blk_drew BK178.out)
        have n1_ := Aside0.mk (blk_drew BK179.out)
        have n2_ := Aside0.mk (below_drew1 HB.out)
        clear BK178
        clear BK179
        clear HB
        have BK178 := n0_
        have BK179 := n1_
        have HB := n2_
        clear n0_ n1_ n2_
        refine start_ (n := 6) (S := fun w' => w'.cell? ⟨gb178, 0, none⟩ = some (.bool x179000_1) ∧ w'.cell? ⟨gb178, 1, none⟩ = some (.int .i64 x179001_1) ∧ w'.cell? ⟨gb178, 2, none⟩ = some (.int .i64 x179002_1) ∧ w'.cell? ⟨gb178, 3, none⟩ = some (.int .u64 x179003_1) ∧ w'.cell? ⟨gb178, 4, none⟩ = some (.int .u64 x179004_1) ∧ w'.cell? ⟨gb178, 5, none⟩ = some (.bool x179005_1) ∧ w'.cell? ⟨gb178, 6, none⟩ = some (.int .u64 x179006_1)) (ds := []) #[false, false, false, false, false, false] (by kernel_rfl) rfl rfl ⟨(blk_cell BK178.out 0).trans rfl, (blk_cell BK178.out 1).trans rfl, (blk_cell BK178.out 2).trans rfl, (blk_cell BK178.out 3).trans rfl, (blk_cell BK178.out 4).trans rfl, (blk_cell BK178.out 5).trans rfl, (blk_cell BK178.out 6).trans rfl⟩ (fun hHeld => ?_)
        generalize wr.drew = w44 at BK178 BK179 HB hHeld ⊢
        refine pure_ (i := 0) (N := some 65) (v := ?_) (a' := ?_) #[true, false, false, false, false, false] rfl rfl (by kernel_rfl) (fun _ _ _ h => h) (Or.inl ⟨by rfl, ?_⟩) ?_ ?_
        rotate_left
        · intro w'
          go_simp
          with_reducible rfl
        rotate_left
        · simp only [Act.put, List.setIfInBounds_toArray, List.set_cons_zero, List.set_cons_succ, i64_w, i32_w]
          rfl
        refine pure_ (i := 1) (N := some 66) (v := ?_) (a' := ?_) #[true, true, false, false, false, false] rfl rfl (by kernel_rfl) (fun _ _ _ h => h) (Or.inl ⟨by rfl, ?_⟩) ?_ ?_
        rotate_left
        · intro w'
          go_simp
          with_reducible rfl
        rotate_left
        · simp only [Act.put, List.setIfInBounds_toArray, List.set_cons_zero, List.set_cons_succ, i64_w, i32_w]
          rfl
        refine pure_ (i := 3) (N := some 6) (v := ?_) (a' := ?_) #[true, true, false, true, false, false] rfl rfl (by kernel_rfl) (fun _ _ _ h => h) (Or.inl ⟨by rfl, ?_⟩) ?_ ?_
        rotate_left
        · intro w'
          go_simp
          with_reducible rfl
        rotate_left
        · simp only [Act.put, List.setIfInBounds_toArray, List.set_cons_zero, List.set_cons_succ, i64_w, i32_w]
          rfl
        refine pure_ (i := 4) (N := some 7) (v := ?_) (a' := ?_) #[true, true, false, true, true, false] rfl rfl (by kernel_rfl) (fun _ _ _ h => h) (Or.inl ⟨by rfl, ?_⟩) ?_ ?_
        rotate_left
        · intro w'
          go_simp
          with_reducible rfl
        rotate_left
        · simp only [Act.put, List.setIfInBounds_toArray, List.set_cons_zero, List.set_cons_succ, i64_w, i32_w]
          rfl
        refine take_ (i := 2) (N := some 67) (v := ?_) (a' := ?_) #[true, true, true, true, true, false] rfl rfl (by kernel_rfl) (fun _ _ _ h => h) (Or.inl ⟨by rfl, ?_⟩) hHeld ?_ ?_
        rotate_left
        · rintro w' ⟨s0, s1, s2, s3, s4, s5, s6⟩
          go_simp
          with_reducible rfl
        rotate_left
        · simp only [Act.put, List.setIfInBounds_toArray, List.set_cons_zero, List.set_cons_succ, i64_w, i32_w]
          rfl
        refine one_ (i := 5) (N := none) #[true, true, true, true, true, true] rfl rfl (by kernel_rfl) (by decide) (fun K hK => ?_)
        have hs45 : w44.cell? ⟨gb179, 0, none⟩ = some (.bool x180000_1) := (blk_cell BK179.out 0).trans rfl
        have hfs45 := blk_frozen BK179.out 0
        have hns45_0 := NB178_179.out
        have hms45_0 := NB179_178.out
        have hs46 : w44.cell? ⟨gb179, 1, none⟩ = some (.int .i64 x180001_1) := (blk_cell BK179.out 1).trans rfl
        have hfs46 := blk_frozen BK179.out 1
        have hns46_0 := NB178_179.out
        have hms46_0 := NB179_178.out
        have hs47 : w44.cell? ⟨gb179, 2, none⟩ = some (.int .i64 x180002_1) := (blk_cell BK179.out 2).trans rfl
        have hfs47 := blk_frozen BK179.out 2
        have hns47_0 := NB178_179.out
        have hms47_0 := NB179_178.out
        have hs48 : w44.cell? ⟨gb179, 3, none⟩ = some (.int .u64 x180003_1) := (blk_cell BK179.out 3).trans rfl
        have hfs48 := blk_frozen BK179.out 3
        have hns48_0 := NB178_179.out
        have hms48_0 := NB179_178.out
        have hs49 : w44.cell? ⟨gb179, 4, none⟩ = some (.int .u64 x180004_1) := (blk_cell BK179.out 4).trans rfl
        have hfs49 := blk_frozen BK179.out 4
        have hns49_0 := NB178_179.out
        have hms49_0 := NB179_178.out
        have hs50 : w44.cell? ⟨gb179, 5, none⟩ = some (.bool x180005_1) := (blk_cell BK179.out 5).trans rfl
        have hfs50 := blk_frozen BK179.out 5
        have hns50_0 := NB178_179.out
        have hms50_0 := NB179_178.out
        have hs51 : w44.cell? ⟨gb179, 6, none⟩ = some (.int .u64 x180006_1) := (blk_cell BK179.out 6).trans rfl
        have hfs51 := blk_frozen BK179.out 6
        have hns51_0 := NB178_179.out
        have hms51_0 := NB179_178.out
        refine skip_ (w1 := ?_) (by rfl) rfl ?_ ?_
        rotate_left
        · go_simp
          rfl
        refine hK.out _ _ ⟨((cell_far (p := ⟨gb179, _, none⟩) NB178_179.out _).trans (((cell_far (p := ⟨gb179, _, none⟩) NB178_179.out _).trans (((cell_far (p := ⟨gb179, _, none⟩) NB178_179.out _).trans (((cell_far (p := ⟨gb179, _, none⟩) NB178_179.out _).trans (((cell_far (p := ⟨gb179, _, none⟩) NB178_179.out _).trans (((cell_far (p := ⟨gb179, _, none⟩) NB178_179.out _).trans (((cell_far (p := ⟨gb179, _, none⟩) NB178_179.out _).trans (hHeld.1)))))))))))))), ((cell_far (p := ⟨gb179, _, none⟩) NB178_179.out _).trans (((cell_far (p := ⟨gb179, _, none⟩) NB178_179.out _).trans (((cell_far (p := ⟨gb179, _, none⟩) NB178_179.out _).trans (((cell_far (p := ⟨gb179, _, none⟩) NB178_179.out _).trans (((cell_far (p := ⟨gb179, _, none⟩) NB178_179.out _).trans (((cell_far (p := ⟨gb179, _, none⟩) NB178_179.out _).trans (((cell_far (p := ⟨gb179, _, none⟩) NB178_179.out _).trans (hHeld.2.1)))))))))))))), ((cell_far (p := ⟨gb179, _, none⟩) NB178_179.out _).trans (((cell_far (p := ⟨gb179, _, none⟩) NB178_179.out _).trans (((cell_far (p := ⟨gb179, _, none⟩) NB178_179.out _).trans (((cell_far (p := ⟨gb179, _, none⟩) NB178_179.out _).trans (((cell_far (p := ⟨gb179, _, none⟩) NB178_179.out _).trans (((cell_far (p := ⟨gb179, _, none⟩) NB178_179.out _).trans (((cell_far (p := ⟨gb179, _, none⟩) NB178_179.out _).trans (hHeld.2.2.1)))))))))))))), ((cell_far (p := ⟨gb179, _, none⟩) NB178_179.out _).trans (((cell_far (p := ⟨gb179, _, none⟩) NB178_179.out _).trans (((cell_far (p := ⟨gb179, _, none⟩) NB178_179.out _).trans (((cell_far (p := ⟨gb179, _, none⟩) NB178_179.out _).trans (((cell_far (p := ⟨gb179, _, none⟩) NB178_179.out _).trans (((cell_far (p := ⟨gb179, _, none⟩) NB178_179.out _).trans (((cell_far (p := ⟨gb179, _, none⟩) NB178_179.out _).trans (hHeld.2.2.2.1)))))))))))))), ((cell_far (p := ⟨gb179, _, none⟩) NB178_179.out _).trans (((cell_far (p := ⟨gb179, _, none⟩) NB178_179.out _).trans (((cell_far (p := ⟨gb179, _, none⟩) NB178_179.out _).trans (((cell_far (p := ⟨gb179, _, none⟩) NB178_179.out _).trans (((cell_far (p := ⟨gb179, _, none⟩) NB178_179.out _).trans (((cell_far (p := ⟨gb179, _, none⟩) NB178_179.out _).trans (((cell_far (p := ⟨gb179, _, none⟩) NB178_179.out _).trans (hHeld.2.2.2.2.1)))))))))))))), ((cell_far (p := ⟨gb179, _, none⟩) NB178_179.out _).trans (((cell_far (p := ⟨gb179, _, none⟩) NB178_179.out _).trans (((cell_far (p := ⟨gb179, _, none⟩) NB178_179.out _).trans (((cell_far (p := ⟨gb179, _, none⟩) NB178_179.out _).trans (((cell_far (p := ⟨gb179, _, none⟩) NB178_179.out _).trans (((cell_far (p := ⟨gb179, _, none⟩) NB178_179.out _).trans (((cell_far (p := ⟨gb179, _, none⟩) NB178_179.out _).trans (hHeld.2.2.2.2.2.1)))))))))))))), ((cell_far (p := ⟨gb179, _, none⟩) NB178_179.out _).trans (((cell_far (p := ⟨gb179, _, none⟩) NB178_179.out _).trans (((cell_far (p := ⟨gb179, _, none⟩) NB178_179.out _).trans (((cell_far (p := ⟨gb179, _, none⟩) NB178_179.out _).trans (((cell_far (p := ⟨gb179, _, none⟩) NB178_179.out _).trans (((cell_far (p := ⟨gb179, _, none⟩) NB178_179.out _).trans (((cell_far (p := ⟨gb179, _, none⟩) NB178_179.out _).trans (hHeld.2.2.2.2.2.2))))))))))))))⟩ (fun hHeld => ?_)
        clear hK K
        refine done_ (by kernel_rfl) ?_
        try go_wp2
        refine bodyPost_ret (results_list (rs := [.tmp 6, .tmp 7, .cell 8 28]) rfl (by simp) (.tmp (.tmp (.cell gb179 28 #[.bool x179000_1, .int .i64 x179001_1, .int .i64 x179002_1, .int .u64 x179003_1, .int .u64 x179004_1, .bool x179005_1, .int .u64 x179006_1] (0, 0) _ rfl (by (with_reducible repeat (first | refine blk_drewN ?_ _ | refine blk_drew ?_ | refine blk_alloc ?_ _)); refine blk_put (cs := #[.bool x179000_1, .int .i64 x179001_1, .int .i64 x179002_1, .int .u64 x179003_1, .int .u64 x179004_1, .bool x179005_1, .int .u64 x180006_1]) ?_ 6 _ rfl; (with_reducible repeat (first | refine blk_drewN ?_ _ | refine blk_drew ?_ | refine blk_alloc ?_ _)); refine blk_put (cs := #[.bool x179000_1, .int .i64 x179001_1, .int .i64 x179002_1, .int .u64 x179003_1, .int .u64 x179004_1, .bool x180005_1, .int .u64 x180006_1]) ?_ 5 _ rfl; (with_reducible repeat (first | refine blk_drewN ?_ _ | refine blk_drew ?_ | refine blk_alloc ?_ _)); refine blk_put (cs := #[.bool x179000_1, .int .i64 x179001_1, .int .i64 x179002_1, .int .u64 x179003_1, .int .u64 x180004_1, .bool x180005_1, .int .u64 x180006_1]) ?_ 4 _ rfl; (with_reducible repeat (first | refine blk_drewN ?_ _ | refine blk_drew ?_ | refine blk_alloc ?_ _)); refine blk_put (cs := #[.bool x179000_1, .int .i64 x179001_1, .int .i64 x179002_1, .int .u64 x180003_1, .int .u64 x180004_1, .bool x180005_1, .int .u64 x180006_1]) ?_ 3 _ rfl; (with_reducible repeat (first | refine blk_drewN ?_ _ | refine blk_drew ?_ | refine blk_alloc ?_ _)); refine blk_put (cs := #[.bool x179000_1, .int .i64 x179001_1, .int .i64 x180002_1, .int .u64 x180003_1, .int .u64 x180004_1, .bool x180005_1, .int .u64 x180006_1]) ?_ 2 _ rfl; (with_reducible repeat (first | refine blk_drewN ?_ _ | refine blk_drew ?_ | refine blk_alloc ?_ _)); refine blk_put (cs := #[.bool x179000_1, .int .i64 x180001_1, .int .i64 x180002_1, .int .u64 x180003_1, .int .u64 x180004_1, .bool x180005_1, .int .u64 x180006_1]) ?_ 1 _ rfl; (with_reducible repeat (first | refine blk_drewN ?_ _ | refine blk_drew ?_ | refine blk_alloc ?_ _)); refine blk_put (cs := #[.bool x180000_1, .int .i64 x180001_1, .int .i64 x180002_1, .int .u64 x180003_1, .int .u64 x180004_1, .bool x180005_1, .int .u64 x180006_1]) ?_ 0 _ rfl; (with_reducible repeat (first | refine blk_drewN ?_ _ | refine blk_drew ?_ | refine blk_alloc ?_ _)); exact BK179.out) Try.underlying28 rfl (by kernel_rfl) .nil)))) rfl ?_
        exact ⟨by first | rfl | (simp [errW_none, errW_some] <;> rfl) | (simp [*, errW_none, errW_some] <;> rfl), by repeat (first | (with_reducible first | exact HB.out | apply below_alloc | apply pw_below_drewN | apply below_drew1 | refine below_set ?_ GE178.out | refine below_set ?_ GE179.out) | exact HB.out)⟩

/-! ### rotalaw22_SliceRuns: function 7 -/
def rotalaw22_SliceRuns.f (k : Nat) (a0_0 : Bool) (a0_1 : Int) (a0_2 : Int) (a0_3 : Int) (a0_4 : Int) (a0_5 : Bool) (a0_6 : Int) (l1 : List Int) (a2 : Int) : Option (Bool) := if a0_6 > 8 then ((rotalaw22_far.f a2 l1).bind fun t201 => ((slice_Run.f k a0_0 a0_1 a0_2 a0_3 a0_4 a0_5 a0_6 l1 t201).bind fun bt202 => ((rotaref22_Run.f k a0_0 a0_1 a0_2 a0_3 a0_4 a0_5 a0_6 l1 t201).bind fun bt212 => (if bt202.1 = bt212.1 then (if bt202.2.1 = bt212.2.1 then (if (bt202.2.2.1 == bt212.2.2.1 && (((bt202.2.2.2.1 == bt212.2.2.2.1 && (bt202.2.2.2.2.1 == bt212.2.2.2.2.1)) && (bt202.2.2.2.2.2.1 == bt212.2.2.2.2.2.1)) && (bt202.2.2.2.2.2.2.1 == bt212.2.2.2.2.2.2.1 && (bt202.2.2.2.2.2.2.2.1 == bt212.2.2.2.2.2.2.2.1 && (bt202.2.2.2.2.2.2.2.2 == bt212.2.2.2.2.2.2.2.2))))) = true then ((rotalaw22_awake.f k).bind fun t222 => (some t222)) else (some false)) else (some false)) else (some false))))) else ((slice_Run.f k a0_0 a0_1 a0_2 a0_3 a0_4 a0_5 a0_6 l1 a2).bind fun bt223 => ((rotaref22_Run.f k a0_0 a0_1 a0_2 a0_3 a0_4 a0_5 a0_6 l1 a2).bind fun bt233 => (if bt223.1 = bt233.1 then (if bt223.2.1 = bt233.2.1 then (if (bt223.2.2.1 == bt233.2.2.1 && (((bt223.2.2.2.1 == bt233.2.2.2.1 && (bt223.2.2.2.2.1 == bt233.2.2.2.2.1)) && (bt223.2.2.2.2.2.1 == bt233.2.2.2.2.2.1)) && (bt223.2.2.2.2.2.2.1 == bt233.2.2.2.2.2.2.1 && (bt223.2.2.2.2.2.2.2.1 == bt233.2.2.2.2.2.2.2.1 && (bt223.2.2.2.2.2.2.2.2 == bt233.2.2.2.2.2.2.2.2))))) = true then ((rotalaw22_awake.f k).bind fun t243 => (some t243)) else (some false)) else (some false)) else (some false))))
theorem rotalaw22_SliceRuns.mono : ∀ a0 a1 a2 a3 a4 a5 a6 a7 a8 k, LeO (rotalaw22_SliceRuns.f k a0 a1 a2 a3 a4 a5 a6 a7 a8) (rotalaw22_SliceRuns.f (k + 1) a0 a1 a2 a3 a4 a5 a6 a7 a8) := by
  intro a0 a1 a2 a3 a4 a5 a6 a7 a8 k
  unfold rotalaw22_SliceRuns.f
  repeat' first
      | (with_reducible exact rotalaw22_awake.mono _)
      | (with_reducible exact rotaref22_Run.mono _ _ _ _ _ _ _ _ _ _)
      | (with_reducible exact slice_Run.mono _ _ _ _ _ _ _ _ _ _)
      | (with_reducible exact LeO.refl _)
      | (with_reducible exact LeO.none _)
      | (with_reducible refine LeO.ite ?_ ?_)
      | (with_reducible refine LeO.bind ?_ (fun _ => ?_))
      | exact rotalaw22_awake.mono _
      | exact rotaref22_Run.mono _ _ _ _ _ _ _ _ _ _
      | exact slice_Run.mono _ _ _ _ _ _ _ _ _ _
      | exact LeO.none _
      | refine LeO.ite ?_ ?_
      | refine LeO.bind ?_ (fun _ => ?_)
set_option maxHeartbeats 8000000 in
set_option maxRecDepth 100000 in
theorem rotalaw22_SliceRuns.calls (k : Nat) (a0_0 : Bool) (a0_1 : Int) (a0_2 : Int) (a0_3 : Int) (a0_4 : Int) (a0_5 : Bool) (a0_6 : Int) (A1 : Option Addr) (c1 : Nat) (l1 : List Int) (a2 : Int) (r : Bool) (w : World) (hr1 : Kd.C (Kd.int .u64) w A1 l1.length l1) (hc1 : l1.length ≤ c1) (h : rotalaw22_SliceRuns.f k a0_0 a0_1 a0_2 a0_3 a0_4 a0_5 a0_6 l1 a2 = some r) (hr_ : Aside0 (r = true)) :
    Calls Try.prog 7 #[.agg #[.bool a0_0, .int .i64 a0_1, .int .i64 a0_2, .int .u64 a0_3, .int .u64 a0_4, .bool a0_5, .int .u64 a0_6], .slice A1 l1.length c1, .int .u64 a2] w fun e w' => e = .returned (.bool r) ∧ Below w.heap.size w w' := by
  have hu28 := Try.underlying28
  have HR1 := Aside0.mk hr1
  have HC1 := Aside0.mk hc1
  clear hr1 hc1
  have HB := Aside0.mk (Below.refl w.heap.size w)
  have H : (if a0_6 > 8 then ((rotalaw22_far.f a2 l1).bind fun t201 => ((slice_Run.f k a0_0 a0_1 a0_2 a0_3 a0_4 a0_5 a0_6 l1 t201).bind fun bt202 => ((rotaref22_Run.f k a0_0 a0_1 a0_2 a0_3 a0_4 a0_5 a0_6 l1 t201).bind fun bt212 => (if bt202.1 = bt212.1 then (if bt202.2.1 = bt212.2.1 then (if (bt202.2.2.1 == bt212.2.2.1 && (((bt202.2.2.2.1 == bt212.2.2.2.1 && (bt202.2.2.2.2.1 == bt212.2.2.2.2.1)) && (bt202.2.2.2.2.2.1 == bt212.2.2.2.2.2.1)) && (bt202.2.2.2.2.2.2.1 == bt212.2.2.2.2.2.2.1 && (bt202.2.2.2.2.2.2.2.1 == bt212.2.2.2.2.2.2.2.1 && (bt202.2.2.2.2.2.2.2.2 == bt212.2.2.2.2.2.2.2.2))))) = true then ((rotalaw22_awake.f k).bind fun t222 => (some t222)) else (some false)) else (some false)) else (some false))))) else ((slice_Run.f k a0_0 a0_1 a0_2 a0_3 a0_4 a0_5 a0_6 l1 a2).bind fun bt223 => ((rotaref22_Run.f k a0_0 a0_1 a0_2 a0_3 a0_4 a0_5 a0_6 l1 a2).bind fun bt233 => (if bt223.1 = bt233.1 then (if bt223.2.1 = bt233.2.1 then (if (bt223.2.2.1 == bt233.2.2.1 && (((bt223.2.2.2.1 == bt233.2.2.2.1 && (bt223.2.2.2.2.1 == bt233.2.2.2.2.1)) && (bt223.2.2.2.2.2.1 == bt233.2.2.2.2.2.1)) && (bt223.2.2.2.2.2.2.1 == bt233.2.2.2.2.2.2.1 && (bt223.2.2.2.2.2.2.2.1 == bt233.2.2.2.2.2.2.2.1 && (bt223.2.2.2.2.2.2.2.2 == bt233.2.2.2.2.2.2.2.2))))) = true then ((rotalaw22_awake.f k).bind fun t243 => (some t243)) else (some false)) else (some false)) else (some false))))) = some r := h
  clear h
  by_cases c4 : a0_6 > 8
  · rw [if_pos c4] at H
    have c4b0 : decide (8 < a0_6) = true := decide_eq_true c4
    clear c4
    replace H := Option.bind_eq_some_iff.mp H
    obtain ⟨t201, A50, H⟩ := H
    replace H : ((slice_Run.f k a0_0 a0_1 a0_2 a0_3 a0_4 a0_5 a0_6 l1 t201).bind fun bt202 => ((rotaref22_Run.f k a0_0 a0_1 a0_2 a0_3 a0_4 a0_5 a0_6 l1 t201).bind fun bt212 => (if bt202.1 = bt212.1 then (if bt202.2.1 = bt212.2.1 then (if (bt202.2.2.1 == bt212.2.2.1 && (((bt202.2.2.2.1 == bt212.2.2.2.1 && (bt202.2.2.2.2.1 == bt212.2.2.2.2.1)) && (bt202.2.2.2.2.2.1 == bt212.2.2.2.2.2.1)) && (bt202.2.2.2.2.2.2.1 == bt212.2.2.2.2.2.2.1 && (bt202.2.2.2.2.2.2.2.1 == bt212.2.2.2.2.2.2.2.1 && (bt202.2.2.2.2.2.2.2.2 == bt212.2.2.2.2.2.2.2.2))))) = true then ((rotalaw22_awake.f k).bind fun t222 => (some t222)) else (some false)) else (some false)) else (some false)))) = some r := H
    have A5 := Aside0.mk A50
    clear A50
    replace H := Option.bind_eq_some_iff.mp H
    obtain ⟨⟨t202, t203, t204, t205, t206, t207, t208, t209, t210⟩, A60, H⟩ := H
    replace H : ((rotaref22_Run.f k a0_0 a0_1 a0_2 a0_3 a0_4 a0_5 a0_6 l1 t201).bind fun bt212 => (if t202 = bt212.1 then (if t203 = bt212.2.1 then (if (t204 == bt212.2.2.1 && (((t205 == bt212.2.2.2.1 && (t206 == bt212.2.2.2.2.1)) && (t207 == bt212.2.2.2.2.2.1)) && (t208 == bt212.2.2.2.2.2.2.1 && (t209 == bt212.2.2.2.2.2.2.2.1 && (t210 == bt212.2.2.2.2.2.2.2.2))))) = true then ((rotalaw22_awake.f k).bind fun t222 => (some t222)) else (some false)) else (some false)) else (some false))) = some r := H
    have A6 := Aside0.mk A60
    clear A60
    replace H := Option.bind_eq_some_iff.mp H
    obtain ⟨⟨t212, t213, t214, t215, t216, t217, t218, t219, t220⟩, A70, H⟩ := H
    replace H : (if t202 = t212 then (if t203 = t213 then (if (t204 == t214 && (((t205 == t215 && (t206 == t216)) && (t207 == t217)) && (t208 == t218 && (t209 == t219 && (t210 == t220))))) = true then ((rotalaw22_awake.f k).bind fun t222 => (some t222)) else (some false)) else (some false)) else (some false)) = some r := H
    have A7 := Aside0.mk A70
    clear A70
    by_cases c8 : t202 = t212
    · rw [if_pos c8] at H
      have c8b0 : (t202 == t212) = true := beq_iff_eq.mpr c8
      have c8b1 : (t202 != t212) = false := bne_eq_false_iff_eq.mpr c8
      clear c8
      by_cases c9 : t203 = t213
      · rw [if_pos c9] at H
        have c9b0 : (t203 == t213) = true := beq_iff_eq.mpr c9
        have c9b1 : (t203 != t213) = false := bne_eq_false_iff_eq.mpr c9
        clear c9
        by_cases c10 : (t204 == t214 && (((t205 == t215 && (t206 == t216)) && (t207 == t217)) && (t208 == t218 && (t209 == t219 && (t210 == t220))))) = true
        · rw [if_pos c10] at H
          have c10b0 : (t204 == t214 && (((t205 == t215 && (t206 == t216)) && (t207 == t217)) && (t208 == t218 && (t209 == t219 && (t210 == t220))))) = true := c10
          (try (have c10b1 : decide (t204 = t214 && (((t205 == t215 && (t206 == t216)) && (t207 == t217)) && (t208 == t218 && (t209 == t219 && (t210 == t220))))) = true := by simpa using c10))
          (try (have c10b2 : (t204 == t214 && (((t205 == t215 && (t206 == t216)) && (t207 == t217)) && (t208 == t218 && (t209 == t219 && (t210 == t220))))) = true := by simpa using c10))
          clear c10
          replace H := Option.bind_eq_some_iff.mp H
          obtain ⟨t222, A110, H⟩ := H
          replace H : (some t222) = some r := H
          have A11 := Aside0.mk A110
          clear A110
          obtain rfl := Option.some.inj H
          go_enter Try.func7, Try.ntmps7
          go_wp2_with (first | ((with_reducible refine gate_dst (N := 3) rfl ?_); refine box_event ?hg (N := 3) ?hd (cs := #[.bool a0_0, .int .i64 a0_1, .int .i64 a0_2, .int .u64 a0_3, .int .u64 a0_4, .bool a0_5, .int .u64 a0_6]) (t := 28) ?hr ?_; (case hd => rfl); (case hg => rfl); (case hr => first | (go_simp; done) | (go_simp; rfl)); intro gb200 hg w12 hbox hb; have n0_ := Aside0.mk (below_step (by repeat (first | (with_reducible first | exact HB.out | apply below_alloc | apply pw_below_drewN | apply below_drew1) | exact HB.out)) hb); have n1_ := Aside0.mk (hbox); have n2_ := Aside0.mk ((by rw [hg]; exact (below_size (by repeat (first | (with_reducible first | exact HB.out | apply below_alloc | apply pw_below_drewN | apply below_drew1) | exact HB.out))) : w.heap.size ≤ gb200)); have n3_ := Aside0.mk ((by rw [hg]; exact (below_size (by repeat (first | (with_reducible first | exact HB.out | apply below_alloc | apply pw_below_drewN | apply below_drew1) | exact HB.out))) : w.heap.size ≤ gb200)); clear HB; have HB := n0_; have BK200 := n1_; have GW200 := n2_; have GE200 := n3_; clear n0_ n1_ n2_ n3_; clear hb hbox hg; have hcz13_0 : w12.cell? ⟨gb200, 0, none⟩ = some (.bool a0_0) := (blk_cell BK200.out 0).trans rfl; have hcz13_1 : w12.cell? ⟨gb200, 1, none⟩ = some (.int .i64 a0_1) := (blk_cell BK200.out 1).trans rfl; have hcz13_2 : w12.cell? ⟨gb200, 2, none⟩ = some (.int .i64 a0_2) := (blk_cell BK200.out 2).trans rfl; have hcz13_3 : w12.cell? ⟨gb200, 3, none⟩ = some (.int .u64 a0_3) := (blk_cell BK200.out 3).trans rfl; have hcz13_4 : w12.cell? ⟨gb200, 4, none⟩ = some (.int .u64 a0_4) := (blk_cell BK200.out 4).trans rfl; have hcz13_5 : w12.cell? ⟨gb200, 5, none⟩ = some (.bool a0_5) := (blk_cell BK200.out 5).trans rfl; have hcz13_6 : w12.cell? ⟨gb200, 6, none⟩ = some (.int .u64 a0_6) := (blk_cell BK200.out 6).trans rfl; have hfz13_0 := blk_frozen BK200.out 0; have hfz13_1 := blk_frozen BK200.out 1; have hfz13_2 := blk_frozen BK200.out 2; have hfz13_3 := blk_frozen BK200.out 3; have hfz13_4 := blk_frozen BK200.out 4; have hfz13_5 := blk_frozen BK200.out 5; have hfz13_6 := blk_frozen BK200.out 6) | ((with_reducible refine gate_callee (f := 26) rfl ?_); refine goesL_ (some 18) rfl rfl Try.func26 (by kernel_rfl) rfl #[.int .u64 a2, .slice A1 l1.length c1] rfl (by (try simp only [List.map_toArray, List.map_cons, List.map_nil]); first | done | rfl | (simp only [List.length_drop, List.length_take]; rfl)) ?_; (with_reducible refine (rotalaw22_far.calls a2 _ _ l1 t201 _ ?side1 ?side2 A5.out).mono ?_); (case side1 => repeat (first | exact (Kd.C_below HR1.out HB.out) | (with_reducible refine Kd.C_alloc ?_ _) | (with_reducible refine Kd.C_drewN ?_ _) | (with_reducible refine Kd.C_drew ?_))); (case side2 => exact HC1.out); rintro e w' ⟨rfl, ⟨nd, rfl⟩⟩; refine ⟨_, rfl, ?_⟩; (try (rw [drewN_self w12]; generalize hq_ : World.drewN w12 _ = w12; have n0_ : Aside0 (w12.heap[gb200]? = some (.cells #[.bool a0_0, .int .i64 a0_1, .int .i64 a0_2, .int .u64 a0_3, .int .u64 a0_4, .bool a0_5, .int .u64 a0_6] 28 (0, 0))) := ⟨by rw [← hq_]; exact (by (with_reducible repeat (first | refine blk_drewN ?_ _ | refine blk_drew ?_ | refine blk_alloc ?_ _)); exact BK200.out)⟩; have n1_ : Aside0 (Below w.heap.size w w12) := ⟨by rw [← hq_]; exact (by repeat (first | (with_reducible first | exact HB.out | apply below_alloc | apply pw_below_drewN | apply below_drew1 | refine below_set ?_ GE200.out) | exact HB.out))⟩; clear BK200 HB hq_; have BK200 := n0_; have HB := n1_; clear n0_ n1_)); have hcz13_0 : w12.cell? ⟨gb200, 0, none⟩ = some (.bool a0_0) := (blk_cell BK200.out 0).trans rfl; have hcz13_1 : w12.cell? ⟨gb200, 1, none⟩ = some (.int .i64 a0_1) := (blk_cell BK200.out 1).trans rfl; have hcz13_2 : w12.cell? ⟨gb200, 2, none⟩ = some (.int .i64 a0_2) := (blk_cell BK200.out 2).trans rfl; have hcz13_3 : w12.cell? ⟨gb200, 3, none⟩ = some (.int .u64 a0_3) := (blk_cell BK200.out 3).trans rfl; have hcz13_4 : w12.cell? ⟨gb200, 4, none⟩ = some (.int .u64 a0_4) := (blk_cell BK200.out 4).trans rfl; have hcz13_5 : w12.cell? ⟨gb200, 5, none⟩ = some (.bool a0_5) := (blk_cell BK200.out 5).trans rfl; have hcz13_6 : w12.cell? ⟨gb200, 6, none⟩ = some (.int .u64 a0_6) := (blk_cell BK200.out 6).trans rfl; have hfz13_0 := blk_frozen BK200.out 0; have hfz13_1 := blk_frozen BK200.out 1; have hfz13_2 := blk_frozen BK200.out 2; have hfz13_3 := blk_frozen BK200.out 3; have hfz13_4 := blk_frozen BK200.out 4; have hfz13_5 := blk_frozen BK200.out 5; have hfz13_6 := blk_frozen BK200.out 6) | ((with_reducible refine gate_callee (f := 27) rfl ?_); refine goesL_ (some 23) rfl rfl Try.func27 (by kernel_rfl) rfl #[.agg #[.bool a0_0, .int .i64 a0_1, .int .i64 a0_2, .int .u64 a0_3, .int .u64 a0_4, .bool a0_5, .int .u64 a0_6], .slice A1 l1.length c1, .int .u64 t201] rfl (by (try simp only [List.map_toArray, List.map_cons, List.map_nil]); first | done | rfl | (simp only [List.length_drop, List.length_take]; rfl)) ?_; (with_reducible refine (slice_Run.calls k a0_0 a0_1 a0_2 a0_3 a0_4 a0_5 a0_6 _ _ l1 t201 t202 t203 t204 t205 t206 t207 t208 t209 t210 _ ?side1 ?side2 A6.out).mono ?_); (case side1 => repeat (first | exact (Kd.C_below HR1.out HB.out) | (with_reducible refine Kd.C_alloc ?_ _) | (with_reducible refine Kd.C_drewN ?_ _) | (with_reducible refine Kd.C_drew ?_))); (case side2 => exact HC1.out); rintro e w14 ⟨rfl, hb⟩; refine ⟨_, rfl, ?_⟩; have n0_ := Aside0.mk (blk_below (g := gb200) (o := .cells #[.bool a0_0, .int .i64 a0_1, .int .i64 a0_2, .int .u64 a0_3, .int .u64 a0_4, .bool a0_5, .int .u64 a0_6] 28 (0, 0)) (by (with_reducible repeat (first | refine blk_drewN ?_ _ | refine blk_drew ?_ | refine blk_alloc ?_ _)); exact BK200.out) hb); have n1_ := Aside0.mk (below_step (by repeat (first | (with_reducible first | exact HB.out | apply below_alloc | apply pw_below_drewN | apply below_drew1 | refine below_set ?_ GE200.out) | exact HB.out)) hb); clear BK200; clear HB; have BK200 := n0_; have HB := n1_; clear n0_ n1_; (try clear hb); (try clear hb2); (try clear hk); (try clear hi)) | ((with_reducible refine gate_dst (N := 9) rfl ?_); refine box_event ?hg (N := 9) ?hd (cs := #[.bool false, .int .i64 0, .int .i64 0, .int .u64 0, .int .u64 0, .bool false, .int .u64 0]) (t := 28) ?hr ?_; (case hd => rfl); (case hg => rfl); (case hr => first | (go_simp; done) | (go_simp; rfl)); intro gb211 hg w15 hbox hb; have n0_ := Aside0.mk (blk_below (g := gb200) (o := .cells #[.bool a0_0, .int .i64 a0_1, .int .i64 a0_2, .int .u64 a0_3, .int .u64 a0_4, .bool a0_5, .int .u64 a0_6] 28 (0, 0)) (by (with_reducible repeat (first | refine blk_drewN ?_ _ | refine blk_drew ?_ | refine blk_alloc ?_ _)); exact BK200.out) hb); have n1_ := Aside0.mk (below_step (by repeat (first | (with_reducible first | exact HB.out | apply below_alloc | apply pw_below_drewN | apply below_drew1 | refine below_set ?_ GE200.out) | exact HB.out)) hb); have n2_ := Aside0.mk (hbox); have n3_ := Aside0.mk ((by rw [hg]; exact (below_size (by repeat (first | (with_reducible first | exact HB.out | apply below_alloc | apply pw_below_drewN | apply below_drew1 | refine below_set ?_ GE200.out) | exact HB.out))) : w.heap.size ≤ gb211)); have n4_ := Aside0.mk ((by rw [hg]; exact (below_size (by repeat (first | (with_reducible first | exact HB.out | apply below_alloc | apply pw_below_drewN | apply below_drew1 | refine below_set ?_ GE200.out) | exact HB.out))) : w.heap.size ≤ gb211)); have n5_ := Aside0.mk ((by rw [hg]; exact Nat.ne_of_lt (blk_lt (g := gb200) (o := .cells #[.bool a0_0, .int .i64 a0_1, .int .i64 a0_2, .int .u64 a0_3, .int .u64 a0_4, .bool a0_5, .int .u64 a0_6] 28 (0, 0)) (by (with_reducible repeat (first | refine blk_drewN ?_ _ | refine blk_drew ?_ | refine blk_alloc ?_ _)); exact BK200.out)) : gb200 ≠ gb211)); have n6_ := Aside0.mk ((by rw [hg]; exact Nat.ne_of_gt (blk_lt (g := gb200) (o := .cells #[.bool a0_0, .int .i64 a0_1, .int .i64 a0_2, .int .u64 a0_3, .int .u64 a0_4, .bool a0_5, .int .u64 a0_6] 28 (0, 0)) (by (with_reducible repeat (first | refine blk_drewN ?_ _ | refine blk_drew ?_ | refine blk_alloc ?_ _)); exact BK200.out)) : gb211 ≠ gb200)); clear BK200; clear HB; have BK200 := n0_; have HB := n1_; have BK211 := n2_; have GW211 := n3_; have GE211 := n4_; have NB200_211 := n5_; have NB211_200 := n6_; clear n0_ n1_ n2_ n3_ n4_ n5_ n6_; clear hb hbox hg; have hnb16 := NB211_200.out; have hnc16 := NB200_211.out; have hcz17_0 : w15.cell? ⟨gb211, 0, none⟩ = some (.bool false) := (blk_cell BK211.out 0).trans rfl; have hcz17_1 : w15.cell? ⟨gb211, 1, none⟩ = some (.int .i64 0) := (blk_cell BK211.out 1).trans rfl; have hcz17_2 : w15.cell? ⟨gb211, 2, none⟩ = some (.int .i64 0) := (blk_cell BK211.out 2).trans rfl; have hcz17_3 : w15.cell? ⟨gb211, 3, none⟩ = some (.int .u64 0) := (blk_cell BK211.out 3).trans rfl; have hcz17_4 : w15.cell? ⟨gb211, 4, none⟩ = some (.int .u64 0) := (blk_cell BK211.out 4).trans rfl; have hcz17_5 : w15.cell? ⟨gb211, 5, none⟩ = some (.bool false) := (blk_cell BK211.out 5).trans rfl; have hcz17_6 : w15.cell? ⟨gb211, 6, none⟩ = some (.int .u64 0) := (blk_cell BK211.out 6).trans rfl; have hfz17_0 := blk_frozen BK211.out 0; have hfz17_1 := blk_frozen BK211.out 1; have hfz17_2 := blk_frozen BK211.out 2; have hfz17_3 := blk_frozen BK211.out 3; have hfz17_4 := blk_frozen BK211.out 4; have hfz17_5 := blk_frozen BK211.out 5; have hfz17_6 := blk_frozen BK211.out 6; have hcz18_0 : w15.cell? ⟨gb200, 0, none⟩ = some (.bool a0_0) := (blk_cell BK200.out 0).trans rfl; have hcz18_1 : w15.cell? ⟨gb200, 1, none⟩ = some (.int .i64 a0_1) := (blk_cell BK200.out 1).trans rfl; have hcz18_2 : w15.cell? ⟨gb200, 2, none⟩ = some (.int .i64 a0_2) := (blk_cell BK200.out 2).trans rfl; have hcz18_3 : w15.cell? ⟨gb200, 3, none⟩ = some (.int .u64 a0_3) := (blk_cell BK200.out 3).trans rfl; have hcz18_4 : w15.cell? ⟨gb200, 4, none⟩ = some (.int .u64 a0_4) := (blk_cell BK200.out 4).trans rfl; have hcz18_5 : w15.cell? ⟨gb200, 5, none⟩ = some (.bool a0_5) := (blk_cell BK200.out 5).trans rfl; have hcz18_6 : w15.cell? ⟨gb200, 6, none⟩ = some (.int .u64 a0_6) := (blk_cell BK200.out 6).trans rfl; have hfz18_0 := blk_frozen BK200.out 0; have hfz18_1 := blk_frozen BK200.out 1; have hfz18_2 := blk_frozen BK200.out 2; have hfz18_3 := blk_frozen BK200.out 3; have hfz18_4 := blk_frozen BK200.out 4; have hfz18_5 := blk_frozen BK200.out 5; have hfz18_6 := blk_frozen BK200.out 6) | ((with_reducible refine gate_callee (f := 28) rfl ?_); refine goesL_ (some 31) rfl rfl Try.func28 (by kernel_rfl) rfl #[.agg #[.bool a0_0, .int .i64 a0_1, .int .i64 a0_2, .int .u64 a0_3, .int .u64 a0_4, .bool a0_5, .int .u64 a0_6], .slice A1 l1.length c1, .int .u64 t201] rfl (by (try simp only [List.map_toArray, List.map_cons, List.map_nil]); first | done | rfl | (simp only [List.length_drop, List.length_take]; rfl)) ?_; (with_reducible refine (rotaref22_Run.calls k a0_0 a0_1 a0_2 a0_3 a0_4 a0_5 a0_6 _ _ l1 t201 t212 t213 t214 t215 t216 t217 t218 t219 t220 _ ?side1 ?side2 A7.out).mono ?_); (case side1 => exact Kd.C_below HR1.out (by repeat (first | (with_reducible first | exact HB.out | apply below_alloc | apply pw_below_drewN | apply below_drew1 | refine below_set ?_ GE200.out | refine below_set ?_ GE211.out) | exact HB.out))); (case side2 => exact HC1.out); rintro e w19 ⟨rfl, hb⟩; refine ⟨_, rfl, ?_⟩; have n0_ := Aside0.mk (blk_below (g := gb200) (o := .cells #[.bool a0_0, .int .i64 a0_1, .int .i64 a0_2, .int .u64 a0_3, .int .u64 a0_4, .bool a0_5, .int .u64 a0_6] 28 (0, 0)) (by (with_reducible repeat (first | refine blk_drewN ?_ _ | refine blk_drew ?_ | refine blk_alloc ?_ _)); refine blk_far ?_ NB200_211.out _; (with_reducible repeat (first | refine blk_drewN ?_ _ | refine blk_drew ?_ | refine blk_alloc ?_ _)); refine blk_far ?_ NB200_211.out _; (with_reducible repeat (first | refine blk_drewN ?_ _ | refine blk_drew ?_ | refine blk_alloc ?_ _)); refine blk_far ?_ NB200_211.out _; (with_reducible repeat (first | refine blk_drewN ?_ _ | refine blk_drew ?_ | refine blk_alloc ?_ _)); refine blk_far ?_ NB200_211.out _; (with_reducible repeat (first | refine blk_drewN ?_ _ | refine blk_drew ?_ | refine blk_alloc ?_ _)); refine blk_far ?_ NB200_211.out _; (with_reducible repeat (first | refine blk_drewN ?_ _ | refine blk_drew ?_ | refine blk_alloc ?_ _)); refine blk_far ?_ NB200_211.out _; (with_reducible repeat (first | refine blk_drewN ?_ _ | refine blk_drew ?_ | refine blk_alloc ?_ _)); refine blk_far ?_ NB200_211.out _; (with_reducible repeat (first | refine blk_drewN ?_ _ | refine blk_drew ?_ | refine blk_alloc ?_ _)); exact BK200.out) hb); have n1_ := Aside0.mk (blk_below (g := gb211) (o := .cells #[.bool t204, .int .i64 t205, .int .i64 t206, .int .u64 t207, .int .u64 t208, .bool t209, .int .u64 t210] 28 (0, 0)) (by (with_reducible repeat (first | refine blk_drewN ?_ _ | refine blk_drew ?_ | refine blk_alloc ?_ _)); refine blk_put (cs := #[.bool t204, .int .i64 t205, .int .i64 t206, .int .u64 t207, .int .u64 t208, .bool t209, .int .u64 0]) ?_ 6 _ rfl; (with_reducible repeat (first | refine blk_drewN ?_ _ | refine blk_drew ?_ | refine blk_alloc ?_ _)); refine blk_put (cs := #[.bool t204, .int .i64 t205, .int .i64 t206, .int .u64 t207, .int .u64 t208, .bool false, .int .u64 0]) ?_ 5 _ rfl; (with_reducible repeat (first | refine blk_drewN ?_ _ | refine blk_drew ?_ | refine blk_alloc ?_ _)); refine blk_put (cs := #[.bool t204, .int .i64 t205, .int .i64 t206, .int .u64 t207, .int .u64 0, .bool false, .int .u64 0]) ?_ 4 _ rfl; (with_reducible repeat (first | refine blk_drewN ?_ _ | refine blk_drew ?_ | refine blk_alloc ?_ _)); refine blk_put (cs := #[.bool t204, .int .i64 t205, .int .i64 t206, .int .u64 0, .int .u64 0, .bool false, .int .u64 0]) ?_ 3 _ rfl; (with_reducible repeat (first | refine blk_drewN ?_ _ | refine blk_drew ?_ | refine blk_alloc ?_ _)); refine blk_put (cs := #[.bool t204, .int .i64 t205, .int .i64 0, .int .u64 0, .int .u64 0, .bool false, .int .u64 0]) ?_ 2 _ rfl; (with_reducible repeat (first | refine blk_drewN ?_ _ | refine blk_drew ?_ | refine blk_alloc ?_ _)); refine blk_put (cs := #[.bool t204, .int .i64 0, .int .i64 0, .int .u64 0, .int .u64 0, .bool false, .int .u64 0]) ?_ 1 _ rfl; (with_reducible repeat (first | refine blk_drewN ?_ _ | refine blk_drew ?_ | refine blk_alloc ?_ _)); refine blk_put (cs := #[.bool false, .int .i64 0, .int .i64 0, .int .u64 0, .int .u64 0, .bool false, .int .u64 0]) ?_ 0 _ rfl; (with_reducible repeat (first | refine blk_drewN ?_ _ | refine blk_drew ?_ | refine blk_alloc ?_ _)); exact BK211.out) hb); have n2_ := Aside0.mk (below_step (by repeat (first | (with_reducible first | exact HB.out | apply below_alloc | apply pw_below_drewN | apply below_drew1 | refine below_set ?_ GE200.out | refine below_set ?_ GE211.out) | exact HB.out)) hb); clear BK200; clear BK211; clear HB; have BK200 := n0_; have BK211 := n1_; have HB := n2_; clear n0_ n1_ n2_; (try clear hb); (try clear hb2); (try clear hk); (try clear hi)) | ((with_reducible refine gate_dst (N := 12) rfl ?_); refine box_event ?hg (N := 12) ?hd (cs := #[.bool false, .int .i64 0, .int .i64 0, .int .u64 0, .int .u64 0, .bool false, .int .u64 0]) (t := 28) ?hr ?_; (case hd => rfl); (case hg => rfl); (case hr => first | (go_simp; done) | (go_simp; rfl)); intro gb221 hg w20 hbox hb; have n0_ := Aside0.mk (blk_below (g := gb200) (o := .cells #[.bool a0_0, .int .i64 a0_1, .int .i64 a0_2, .int .u64 a0_3, .int .u64 a0_4, .bool a0_5, .int .u64 a0_6] 28 (0, 0)) (by (with_reducible repeat (first | refine blk_drewN ?_ _ | refine blk_drew ?_ | refine blk_alloc ?_ _)); exact BK200.out) hb); have n1_ := Aside0.mk (blk_below (g := gb211) (o := .cells #[.bool t204, .int .i64 t205, .int .i64 t206, .int .u64 t207, .int .u64 t208, .bool t209, .int .u64 t210] 28 (0, 0)) (by (with_reducible repeat (first | refine blk_drewN ?_ _ | refine blk_drew ?_ | refine blk_alloc ?_ _)); exact BK211.out) hb); have n2_ := Aside0.mk (below_step (by repeat (first | (with_reducible first | exact HB.out | apply below_alloc | apply pw_below_drewN | apply below_drew1 | refine below_set ?_ GE200.out | refine below_set ?_ GE211.out) | exact HB.out)) hb); have n3_ := Aside0.mk (hbox); have n4_ := Aside0.mk ((by rw [hg]; exact (below_size (by repeat (first | (with_reducible first | exact HB.out | apply below_alloc | apply pw_below_drewN | apply below_drew1 | refine below_set ?_ GE200.out | refine below_set ?_ GE211.out) | exact HB.out))) : w.heap.size ≤ gb221)); have n5_ := Aside0.mk ((by rw [hg]; exact (below_size (by repeat (first | (with_reducible first | exact HB.out | apply below_alloc | apply pw_below_drewN | apply below_drew1 | refine below_set ?_ GE200.out | refine below_set ?_ GE211.out) | exact HB.out))) : w.heap.size ≤ gb221)); have n6_ := Aside0.mk ((by rw [hg]; exact Nat.ne_of_lt (blk_lt (g := gb200) (o := .cells #[.bool a0_0, .int .i64 a0_1, .int .i64 a0_2, .int .u64 a0_3, .int .u64 a0_4, .bool a0_5, .int .u64 a0_6] 28 (0, 0)) (by (with_reducible repeat (first | refine blk_drewN ?_ _ | refine blk_drew ?_ | refine blk_alloc ?_ _)); exact BK200.out)) : gb200 ≠ gb221)); have n7_ := Aside0.mk ((by rw [hg]; exact Nat.ne_of_gt (blk_lt (g := gb200) (o := .cells #[.bool a0_0, .int .i64 a0_1, .int .i64 a0_2, .int .u64 a0_3, .int .u64 a0_4, .bool a0_5, .int .u64 a0_6] 28 (0, 0)) (by (with_reducible repeat (first | refine blk_drewN ?_ _ | refine blk_drew ?_ | refine blk_alloc ?_ _)); exact BK200.out)) : gb221 ≠ gb200)); have n8_ := Aside0.mk ((by rw [hg]; exact Nat.ne_of_lt (blk_lt (g := gb211) (o := .cells #[.bool t204, .int .i64 t205, .int .i64 t206, .int .u64 t207, .int .u64 t208, .bool t209, .int .u64 t210] 28 (0, 0)) (by (with_reducible repeat (first | refine blk_drewN ?_ _ | refine blk_drew ?_ | refine blk_alloc ?_ _)); exact BK211.out)) : gb211 ≠ gb221)); have n9_ := Aside0.mk ((by rw [hg]; exact Nat.ne_of_gt (blk_lt (g := gb211) (o := .cells #[.bool t204, .int .i64 t205, .int .i64 t206, .int .u64 t207, .int .u64 t208, .bool t209, .int .u64 t210] 28 (0, 0)) (by (with_reducible repeat (first | refine blk_drewN ?_ _ | refine blk_drew ?_ | refine blk_alloc ?_ _)); exact BK211.out)) : gb221 ≠ gb211)); clear BK200; clear BK211; clear HB; have BK200 := n0_; have BK211 := n1_; have HB := n2_; have BK221 := n3_; have GW221 := n4_; have GE221 := n5_; have NB200_221 := n6_; have NB221_200 := n7_; have NB211_221 := n8_; have NB221_211 := n9_; clear n0_ n1_ n2_ n3_ n4_ n5_ n6_ n7_ n8_ n9_; clear hb hbox hg; have hnb21 := NB221_200.out; have hnc21 := NB200_221.out; have hnb22 := NB221_211.out; have hnc22 := NB211_221.out; have hcz23_0 : w20.cell? ⟨gb221, 0, none⟩ = some (.bool false) := (blk_cell BK221.out 0).trans rfl; have hcz23_1 : w20.cell? ⟨gb221, 1, none⟩ = some (.int .i64 0) := (blk_cell BK221.out 1).trans rfl; have hcz23_2 : w20.cell? ⟨gb221, 2, none⟩ = some (.int .i64 0) := (blk_cell BK221.out 2).trans rfl; have hcz23_3 : w20.cell? ⟨gb221, 3, none⟩ = some (.int .u64 0) := (blk_cell BK221.out 3).trans rfl; have hcz23_4 : w20.cell? ⟨gb221, 4, none⟩ = some (.int .u64 0) := (blk_cell BK221.out 4).trans rfl; have hcz23_5 : w20.cell? ⟨gb221, 5, none⟩ = some (.bool false) := (blk_cell BK221.out 5).trans rfl; have hcz23_6 : w20.cell? ⟨gb221, 6, none⟩ = some (.int .u64 0) := (blk_cell BK221.out 6).trans rfl; have hfz23_0 := blk_frozen BK221.out 0; have hfz23_1 := blk_frozen BK221.out 1; have hfz23_2 := blk_frozen BK221.out 2; have hfz23_3 := blk_frozen BK221.out 3; have hfz23_4 := blk_frozen BK221.out 4; have hfz23_5 := blk_frozen BK221.out 5; have hfz23_6 := blk_frozen BK221.out 6; have hcz24_0 : w20.cell? ⟨gb211, 0, none⟩ = some (.bool t204) := (blk_cell BK211.out 0).trans rfl; have hcz24_1 : w20.cell? ⟨gb211, 1, none⟩ = some (.int .i64 t205) := (blk_cell BK211.out 1).trans rfl; have hcz24_2 : w20.cell? ⟨gb211, 2, none⟩ = some (.int .i64 t206) := (blk_cell BK211.out 2).trans rfl; have hcz24_3 : w20.cell? ⟨gb211, 3, none⟩ = some (.int .u64 t207) := (blk_cell BK211.out 3).trans rfl; have hcz24_4 : w20.cell? ⟨gb211, 4, none⟩ = some (.int .u64 t208) := (blk_cell BK211.out 4).trans rfl; have hcz24_5 : w20.cell? ⟨gb211, 5, none⟩ = some (.bool t209) := (blk_cell BK211.out 5).trans rfl; have hcz24_6 : w20.cell? ⟨gb211, 6, none⟩ = some (.int .u64 t210) := (blk_cell BK211.out 6).trans rfl; have hfz24_0 := blk_frozen BK211.out 0; have hfz24_1 := blk_frozen BK211.out 1; have hfz24_2 := blk_frozen BK211.out 2; have hfz24_3 := blk_frozen BK211.out 3; have hfz24_4 := blk_frozen BK211.out 4; have hfz24_5 := blk_frozen BK211.out 5; have hfz24_6 := blk_frozen BK211.out 6) | (go_at_call 15; (with_reducible refine (rotalaw22_awake.calls k  t222 _ A11.out).mono ?_); rintro e w25 ⟨rfl, hb⟩; have n0_ := Aside0.mk (blk_below (g := gb200) (o := .cells #[.bool a0_0, .int .i64 a0_1, .int .i64 a0_2, .int .u64 a0_3, .int .u64 a0_4, .bool a0_5, .int .u64 a0_6] 28 (0, 0)) (by (with_reducible repeat (first | refine blk_drewN ?_ _ | refine blk_drew ?_ | refine blk_alloc ?_ _)); refine blk_far ?_ NB200_221.out _; (with_reducible repeat (first | refine blk_drewN ?_ _ | refine blk_drew ?_ | refine blk_alloc ?_ _)); refine blk_far ?_ NB200_221.out _; (with_reducible repeat (first | refine blk_drewN ?_ _ | refine blk_drew ?_ | refine blk_alloc ?_ _)); refine blk_far ?_ NB200_221.out _; (with_reducible repeat (first | refine blk_drewN ?_ _ | refine blk_drew ?_ | refine blk_alloc ?_ _)); refine blk_far ?_ NB200_221.out _; (with_reducible repeat (first | refine blk_drewN ?_ _ | refine blk_drew ?_ | refine blk_alloc ?_ _)); refine blk_far ?_ NB200_221.out _; (with_reducible repeat (first | refine blk_drewN ?_ _ | refine blk_drew ?_ | refine blk_alloc ?_ _)); refine blk_far ?_ NB200_221.out _; (with_reducible repeat (first | refine blk_drewN ?_ _ | refine blk_drew ?_ | refine blk_alloc ?_ _)); refine blk_far ?_ NB200_221.out _; (with_reducible repeat (first | refine blk_drewN ?_ _ | refine blk_drew ?_ | refine blk_alloc ?_ _)); exact BK200.out) hb); have n1_ := Aside0.mk (blk_below (g := gb211) (o := .cells #[.bool t204, .int .i64 t205, .int .i64 t206, .int .u64 t207, .int .u64 t208, .bool t209, .int .u64 t210] 28 (0, 0)) (by (with_reducible repeat (first | refine blk_drewN ?_ _ | refine blk_drew ?_ | refine blk_alloc ?_ _)); refine blk_far ?_ NB211_221.out _; (with_reducible repeat (first | refine blk_drewN ?_ _ | refine blk_drew ?_ | refine blk_alloc ?_ _)); refine blk_far ?_ NB211_221.out _; (with_reducible repeat (first | refine blk_drewN ?_ _ | refine blk_drew ?_ | refine blk_alloc ?_ _)); refine blk_far ?_ NB211_221.out _; (with_reducible repeat (first | refine blk_drewN ?_ _ | refine blk_drew ?_ | refine blk_alloc ?_ _)); refine blk_far ?_ NB211_221.out _; (with_reducible repeat (first | refine blk_drewN ?_ _ | refine blk_drew ?_ | refine blk_alloc ?_ _)); refine blk_far ?_ NB211_221.out _; (with_reducible repeat (first | refine blk_drewN ?_ _ | refine blk_drew ?_ | refine blk_alloc ?_ _)); refine blk_far ?_ NB211_221.out _; (with_reducible repeat (first | refine blk_drewN ?_ _ | refine blk_drew ?_ | refine blk_alloc ?_ _)); refine blk_far ?_ NB211_221.out _; (with_reducible repeat (first | refine blk_drewN ?_ _ | refine blk_drew ?_ | refine blk_alloc ?_ _)); exact BK211.out) hb); have n2_ := Aside0.mk (blk_below (g := gb221) (o := .cells #[.bool t214, .int .i64 t215, .int .i64 t216, .int .u64 t217, .int .u64 t218, .bool t219, .int .u64 t220] 28 (0, 0)) (by (with_reducible repeat (first | refine blk_drewN ?_ _ | refine blk_drew ?_ | refine blk_alloc ?_ _)); refine blk_put (cs := #[.bool t214, .int .i64 t215, .int .i64 t216, .int .u64 t217, .int .u64 t218, .bool t219, .int .u64 0]) ?_ 6 _ rfl; (with_reducible repeat (first | refine blk_drewN ?_ _ | refine blk_drew ?_ | refine blk_alloc ?_ _)); refine blk_put (cs := #[.bool t214, .int .i64 t215, .int .i64 t216, .int .u64 t217, .int .u64 t218, .bool false, .int .u64 0]) ?_ 5 _ rfl; (with_reducible repeat (first | refine blk_drewN ?_ _ | refine blk_drew ?_ | refine blk_alloc ?_ _)); refine blk_put (cs := #[.bool t214, .int .i64 t215, .int .i64 t216, .int .u64 t217, .int .u64 0, .bool false, .int .u64 0]) ?_ 4 _ rfl; (with_reducible repeat (first | refine blk_drewN ?_ _ | refine blk_drew ?_ | refine blk_alloc ?_ _)); refine blk_put (cs := #[.bool t214, .int .i64 t215, .int .i64 t216, .int .u64 0, .int .u64 0, .bool false, .int .u64 0]) ?_ 3 _ rfl; (with_reducible repeat (first | refine blk_drewN ?_ _ | refine blk_drew ?_ | refine blk_alloc ?_ _)); refine blk_put (cs := #[.bool t214, .int .i64 t215, .int .i64 0, .int .u64 0, .int .u64 0, .bool false, .int .u64 0]) ?_ 2 _ rfl; (with_reducible repeat (first | refine blk_drewN ?_ _ | refine blk_drew ?_ | refine blk_alloc ?_ _)); refine blk_put (cs := #[.bool t214, .int .i64 0, .int .i64 0, .int .u64 0, .int .u64 0, .bool false, .int .u64 0]) ?_ 1 _ rfl; (with_reducible repeat (first | refine blk_drewN ?_ _ | refine blk_drew ?_ | refine blk_alloc ?_ _)); refine blk_put (cs := #[.bool false, .int .i64 0, .int .i64 0, .int .u64 0, .int .u64 0, .bool false, .int .u64 0]) ?_ 0 _ rfl; (with_reducible repeat (first | refine blk_drewN ?_ _ | refine blk_drew ?_ | refine blk_alloc ?_ _)); exact BK221.out) hb); have n3_ := Aside0.mk (below_step (by repeat (first | (with_reducible first | exact HB.out | apply below_alloc | apply pw_below_drewN | apply below_drew1 | refine below_set ?_ GE200.out | refine below_set ?_ GE211.out | refine below_set ?_ GE221.out) | exact HB.out)) hb); clear BK200; clear BK211; clear BK221; clear HB; have BK200 := n0_; have BK211 := n1_; have BK221 := n2_; have HB := n3_; clear n0_ n1_ n2_ n3_; (try clear hb); (try clear hb2); (try clear hk); (try clear hi)))
          go_ret
          exact ⟨by first | rfl | (simp [errW_none, errW_some] <;> rfl) | (simp [*, errW_none, errW_some] <;> rfl), by repeat (first | (with_reducible first | exact HB.out | apply below_alloc | apply pw_below_drewN | apply below_drew1 | refine below_set ?_ GE200.out | refine below_set ?_ GE211.out | refine below_set ?_ GE221.out) | exact HB.out)⟩
        · rw [if_neg c10] at H
          have c10b0 : (t204 == t214 && (((t205 == t215 && (t206 == t216)) && (t207 == t217)) && (t208 == t218 && (t209 == t219 && (t210 == t220))))) = false := by simpa using c10
          (try (have c10b1 : decide (t204 = t214 && (((t205 == t215 && (t206 == t216)) && (t207 == t217)) && (t208 == t218 && (t209 == t219 && (t210 == t220))))) = false := by simpa using c10))
          (try (have c10b2 : (t204 == t214 && (((t205 == t215 && (t206 == t216)) && (t207 == t217)) && (t208 == t218 && (t209 == t219 && (t210 == t220))))) = false := by simpa using c10))
          (try (have c10b3 : ¬ (t204 = t214 && (((t205 == t215 && (t206 == t216)) && (t207 == t217)) && (t208 == t218 && (t209 == t219 && (t210 == t220))))) := by simpa using c10))
          clear c10
          exact absurd (hr_.out ▸ H) (by decide)
      · rw [if_neg c9] at H
        have c9b0 : (t203 == t213) = false := beq_eq_false_iff_ne.mpr c9
        have c9b1 : (t203 != t213) = true := bne_iff_ne.mpr c9
        exact absurd (hr_.out ▸ H) (by decide)
    · rw [if_neg c8] at H
      have c8b0 : (t202 == t212) = false := beq_eq_false_iff_ne.mpr c8
      have c8b1 : (t202 != t212) = true := bne_iff_ne.mpr c8
      exact absurd (hr_.out ▸ H) (by decide)
  · rw [if_neg c4] at H
    have c4b0 : decide (8 < a0_6) = false := decide_eq_false c4
    clear c4
    replace H := Option.bind_eq_some_iff.mp H
    obtain ⟨⟨t223, t224, t225, t226, t227, t228, t229, t230, t231⟩, A260, H⟩ := H
    replace H : ((rotaref22_Run.f k a0_0 a0_1 a0_2 a0_3 a0_4 a0_5 a0_6 l1 a2).bind fun bt233 => (if t223 = bt233.1 then (if t224 = bt233.2.1 then (if (t225 == bt233.2.2.1 && (((t226 == bt233.2.2.2.1 && (t227 == bt233.2.2.2.2.1)) && (t228 == bt233.2.2.2.2.2.1)) && (t229 == bt233.2.2.2.2.2.2.1 && (t230 == bt233.2.2.2.2.2.2.2.1 && (t231 == bt233.2.2.2.2.2.2.2.2))))) = true then ((rotalaw22_awake.f k).bind fun t243 => (some t243)) else (some false)) else (some false)) else (some false))) = some r := H
    have A26 := Aside0.mk A260
    clear A260
    replace H := Option.bind_eq_some_iff.mp H
    obtain ⟨⟨t233, t234, t235, t236, t237, t238, t239, t240, t241⟩, A270, H⟩ := H
    replace H : (if t223 = t233 then (if t224 = t234 then (if (t225 == t235 && (((t226 == t236 && (t227 == t237)) && (t228 == t238)) && (t229 == t239 && (t230 == t240 && (t231 == t241))))) = true then ((rotalaw22_awake.f k).bind fun t243 => (some t243)) else (some false)) else (some false)) else (some false)) = some r := H
    have A27 := Aside0.mk A270
    clear A270
    by_cases c28 : t223 = t233
    · rw [if_pos c28] at H
      have c28b0 : (t223 == t233) = true := beq_iff_eq.mpr c28
      have c28b1 : (t223 != t233) = false := bne_eq_false_iff_eq.mpr c28
      clear c28
      by_cases c29 : t224 = t234
      · rw [if_pos c29] at H
        have c29b0 : (t224 == t234) = true := beq_iff_eq.mpr c29
        have c29b1 : (t224 != t234) = false := bne_eq_false_iff_eq.mpr c29
        clear c29
        by_cases c30 : (t225 == t235 && (((t226 == t236 && (t227 == t237)) && (t228 == t238)) && (t229 == t239 && (t230 == t240 && (t231 == t241))))) = true
        · rw [if_pos c30] at H
          have c30b0 : (t225 == t235 && (((t226 == t236 && (t227 == t237)) && (t228 == t238)) && (t229 == t239 && (t230 == t240 && (t231 == t241))))) = true := c30
          (try (have c30b1 : decide (t225 = t235 && (((t226 == t236 && (t227 == t237)) && (t228 == t238)) && (t229 == t239 && (t230 == t240 && (t231 == t241))))) = true := by simpa using c30))
          (try (have c30b2 : (t225 == t235 && (((t226 == t236 && (t227 == t237)) && (t228 == t238)) && (t229 == t239 && (t230 == t240 && (t231 == t241))))) = true := by simpa using c30))
          clear c30
          replace H := Option.bind_eq_some_iff.mp H
          obtain ⟨t243, A310, H⟩ := H
          replace H : (some t243) = some r := H
          have A31 := Aside0.mk A310
          clear A310
          obtain rfl := Option.some.inj H
          go_enter Try.func7, Try.ntmps7
          go_wp2_with (first | ((with_reducible refine gate_dst (N := 3) rfl ?_); refine box_event ?hg (N := 3) ?hd (cs := #[.bool a0_0, .int .i64 a0_1, .int .i64 a0_2, .int .u64 a0_3, .int .u64 a0_4, .bool a0_5, .int .u64 a0_6]) (t := 28) ?hr ?_; (case hd => rfl); (case hg => rfl); (case hr => first | (go_simp; done) | (go_simp; rfl)); intro gb200 hg w32 hbox hb; have n0_ := Aside0.mk (below_step (by repeat (first | (with_reducible first | exact HB.out | apply below_alloc | apply pw_below_drewN | apply below_drew1) | exact HB.out)) hb); have n1_ := Aside0.mk (hbox); have n2_ := Aside0.mk ((by rw [hg]; exact (below_size (by repeat (first | (with_reducible first | exact HB.out | apply below_alloc | apply pw_below_drewN | apply below_drew1) | exact HB.out))) : w.heap.size ≤ gb200)); have n3_ := Aside0.mk ((by rw [hg]; exact (below_size (by repeat (first | (with_reducible first | exact HB.out | apply below_alloc | apply pw_below_drewN | apply below_drew1) | exact HB.out))) : w.heap.size ≤ gb200)); clear HB; have HB := n0_; have BK200 := n1_; have GW200 := n2_; have GE200 := n3_; clear n0_ n1_ n2_ n3_; clear hb hbox hg; have hcz33_0 : w32.cell? ⟨gb200, 0, none⟩ = some (.bool a0_0) := (blk_cell BK200.out 0).trans rfl; have hcz33_1 : w32.cell? ⟨gb200, 1, none⟩ = some (.int .i64 a0_1) := (blk_cell BK200.out 1).trans rfl; have hcz33_2 : w32.cell? ⟨gb200, 2, none⟩ = some (.int .i64 a0_2) := (blk_cell BK200.out 2).trans rfl; have hcz33_3 : w32.cell? ⟨gb200, 3, none⟩ = some (.int .u64 a0_3) := (blk_cell BK200.out 3).trans rfl; have hcz33_4 : w32.cell? ⟨gb200, 4, none⟩ = some (.int .u64 a0_4) := (blk_cell BK200.out 4).trans rfl; have hcz33_5 : w32.cell? ⟨gb200, 5, none⟩ = some (.bool a0_5) := (blk_cell BK200.out 5).trans rfl; have hcz33_6 : w32.cell? ⟨gb200, 6, none⟩ = some (.int .u64 a0_6) := (blk_cell BK200.out 6).trans rfl; have hfz33_0 := blk_frozen BK200.out 0; have hfz33_1 := blk_frozen BK200.out 1; have hfz33_2 := blk_frozen BK200.out 2; have hfz33_3 := blk_frozen BK200.out 3; have hfz33_4 := blk_frozen BK200.out 4; have hfz33_5 := blk_frozen BK200.out 5; have hfz33_6 := blk_frozen BK200.out 6) | ((with_reducible refine gate_callee (f := 27) rfl ?_); refine goesL_ (some 23) rfl rfl Try.func27 (by kernel_rfl) rfl #[.agg #[.bool a0_0, .int .i64 a0_1, .int .i64 a0_2, .int .u64 a0_3, .int .u64 a0_4, .bool a0_5, .int .u64 a0_6], .slice A1 l1.length c1, .int .u64 a2] rfl (by (try simp only [List.map_toArray, List.map_cons, List.map_nil]); first | done | rfl | (simp only [List.length_drop, List.length_take]; rfl)) ?_; (with_reducible refine (slice_Run.calls k a0_0 a0_1 a0_2 a0_3 a0_4 a0_5 a0_6 _ _ l1 a2 t223 t224 t225 t226 t227 t228 t229 t230 t231 _ ?side1 ?side2 A26.out).mono ?_); (case side1 => repeat (first | exact (Kd.C_below HR1.out HB.out) | (with_reducible refine Kd.C_alloc ?_ _) | (with_reducible refine Kd.C_drewN ?_ _) | (with_reducible refine Kd.C_drew ?_))); (case side2 => exact HC1.out); rintro e w34 ⟨rfl, hb⟩; refine ⟨_, rfl, ?_⟩; have n0_ := Aside0.mk (blk_below (g := gb200) (o := .cells #[.bool a0_0, .int .i64 a0_1, .int .i64 a0_2, .int .u64 a0_3, .int .u64 a0_4, .bool a0_5, .int .u64 a0_6] 28 (0, 0)) (by (with_reducible repeat (first | refine blk_drewN ?_ _ | refine blk_drew ?_ | refine blk_alloc ?_ _)); exact BK200.out) hb); have n1_ := Aside0.mk (below_step (by repeat (first | (with_reducible first | exact HB.out | apply below_alloc | apply pw_below_drewN | apply below_drew1 | refine below_set ?_ GE200.out) | exact HB.out)) hb); clear BK200; clear HB; have BK200 := n0_; have HB := n1_; clear n0_ n1_; (try clear hb); (try clear hb2); (try clear hk); (try clear hi)) | ((with_reducible refine gate_dst (N := 9) rfl ?_); refine box_event ?hg (N := 9) ?hd (cs := #[.bool false, .int .i64 0, .int .i64 0, .int .u64 0, .int .u64 0, .bool false, .int .u64 0]) (t := 28) ?hr ?_; (case hd => rfl); (case hg => rfl); (case hr => first | (go_simp; done) | (go_simp; rfl)); intro gb232 hg w35 hbox hb; have n0_ := Aside0.mk (blk_below (g := gb200) (o := .cells #[.bool a0_0, .int .i64 a0_1, .int .i64 a0_2, .int .u64 a0_3, .int .u64 a0_4, .bool a0_5, .int .u64 a0_6] 28 (0, 0)) (by (with_reducible repeat (first | refine blk_drewN ?_ _ | refine blk_drew ?_ | refine blk_alloc ?_ _)); exact BK200.out) hb); have n1_ := Aside0.mk (below_step (by repeat (first | (with_reducible first | exact HB.out | apply below_alloc | apply pw_below_drewN | apply below_drew1 | refine below_set ?_ GE200.out) | exact HB.out)) hb); have n2_ := Aside0.mk (hbox); have n3_ := Aside0.mk ((by rw [hg]; exact (below_size (by repeat (first | (with_reducible first | exact HB.out | apply below_alloc | apply pw_below_drewN | apply below_drew1 | refine below_set ?_ GE200.out) | exact HB.out))) : w.heap.size ≤ gb232)); have n4_ := Aside0.mk ((by rw [hg]; exact (below_size (by repeat (first | (with_reducible first | exact HB.out | apply below_alloc | apply pw_below_drewN | apply below_drew1 | refine below_set ?_ GE200.out) | exact HB.out))) : w.heap.size ≤ gb232)); have n5_ := Aside0.mk ((by rw [hg]; exact Nat.ne_of_lt (blk_lt (g := gb200) (o := .cells #[.bool a0_0, .int .i64 a0_1, .int .i64 a0_2, .int .u64 a0_3, .int .u64 a0_4, .bool a0_5, .int .u64 a0_6] 28 (0, 0)) (by (with_reducible repeat (first | refine blk_drewN ?_ _ | refine blk_drew ?_ | refine blk_alloc ?_ _)); exact BK200.out)) : gb200 ≠ gb232)); have n6_ := Aside0.mk ((by rw [hg]; exact Nat.ne_of_gt (blk_lt (g := gb200) (o := .cells #[.bool a0_0, .int .i64 a0_1, .int .i64 a0_2, .int .u64 a0_3, .int .u64 a0_4, .bool a0_5, .int .u64 a0_6] 28 (0, 0)) (by (with_reducible repeat (first | refine blk_drewN ?_ _ | refine blk_drew ?_ | refine blk_alloc ?_ _)); exact BK200.out)) : gb232 ≠ gb200)); clear BK200; clear HB; have BK200 := n0_; have HB := n1_; have BK232 := n2_; have GW232 := n3_; have GE232 := n4_; have NB200_232 := n5_; have NB232_200 := n6_; clear n0_ n1_ n2_ n3_ n4_ n5_ n6_; clear hb hbox hg; have hnb36 := NB232_200.out; have hnc36 := NB200_232.out; have hcz37_0 : w35.cell? ⟨gb232, 0, none⟩ = some (.bool false) := (blk_cell BK232.out 0).trans rfl; have hcz37_1 : w35.cell? ⟨gb232, 1, none⟩ = some (.int .i64 0) := (blk_cell BK232.out 1).trans rfl; have hcz37_2 : w35.cell? ⟨gb232, 2, none⟩ = some (.int .i64 0) := (blk_cell BK232.out 2).trans rfl; have hcz37_3 : w35.cell? ⟨gb232, 3, none⟩ = some (.int .u64 0) := (blk_cell BK232.out 3).trans rfl; have hcz37_4 : w35.cell? ⟨gb232, 4, none⟩ = some (.int .u64 0) := (blk_cell BK232.out 4).trans rfl; have hcz37_5 : w35.cell? ⟨gb232, 5, none⟩ = some (.bool false) := (blk_cell BK232.out 5).trans rfl; have hcz37_6 : w35.cell? ⟨gb232, 6, none⟩ = some (.int .u64 0) := (blk_cell BK232.out 6).trans rfl; have hfz37_0 := blk_frozen BK232.out 0; have hfz37_1 := blk_frozen BK232.out 1; have hfz37_2 := blk_frozen BK232.out 2; have hfz37_3 := blk_frozen BK232.out 3; have hfz37_4 := blk_frozen BK232.out 4; have hfz37_5 := blk_frozen BK232.out 5; have hfz37_6 := blk_frozen BK232.out 6; have hcz38_0 : w35.cell? ⟨gb200, 0, none⟩ = some (.bool a0_0) := (blk_cell BK200.out 0).trans rfl; have hcz38_1 : w35.cell? ⟨gb200, 1, none⟩ = some (.int .i64 a0_1) := (blk_cell BK200.out 1).trans rfl; have hcz38_2 : w35.cell? ⟨gb200, 2, none⟩ = some (.int .i64 a0_2) := (blk_cell BK200.out 2).trans rfl; have hcz38_3 : w35.cell? ⟨gb200, 3, none⟩ = some (.int .u64 a0_3) := (blk_cell BK200.out 3).trans rfl; have hcz38_4 : w35.cell? ⟨gb200, 4, none⟩ = some (.int .u64 a0_4) := (blk_cell BK200.out 4).trans rfl; have hcz38_5 : w35.cell? ⟨gb200, 5, none⟩ = some (.bool a0_5) := (blk_cell BK200.out 5).trans rfl; have hcz38_6 : w35.cell? ⟨gb200, 6, none⟩ = some (.int .u64 a0_6) := (blk_cell BK200.out 6).trans rfl; have hfz38_0 := blk_frozen BK200.out 0; have hfz38_1 := blk_frozen BK200.out 1; have hfz38_2 := blk_frozen BK200.out 2; have hfz38_3 := blk_frozen BK200.out 3; have hfz38_4 := blk_frozen BK200.out 4; have hfz38_5 := blk_frozen BK200.out 5; have hfz38_6 := blk_frozen BK200.out 6) | ((with_reducible refine gate_callee (f := 28) rfl ?_); refine goesL_ (some 31) rfl rfl Try.func28 (by kernel_rfl) rfl #[.agg #[.bool a0_0, .int .i64 a0_1, .int .i64 a0_2, .int .u64 a0_3, .int .u64 a0_4, .bool a0_5, .int .u64 a0_6], .slice A1 l1.length c1, .int .u64 a2] rfl (by (try simp only [List.map_toArray, List.map_cons, List.map_nil]); first | done | rfl | (simp only [List.length_drop, List.length_take]; rfl)) ?_; (with_reducible refine (rotaref22_Run.calls k a0_0 a0_1 a0_2 a0_3 a0_4 a0_5 a0_6 _ _ l1 a2 t233 t234 t235 t236 t237 t238 t239 t240 t241 _ ?side1 ?side2 A27.out).mono ?_); (case side1 => exact Kd.C_below HR1.out (by repeat (first | (with_reducible first | exact HB.out | apply below_alloc | apply pw_below_drewN | apply below_drew1 | refine below_set ?_ GE200.out | refine below_set ?_ GE232.out) | exact HB.out))); (case side2 => exact HC1.out); rintro e w39 ⟨rfl, hb⟩; refine ⟨_, rfl, ?_⟩; have n0_ := Aside0.mk (blk_below (g := gb200) (o := .cells #[.bool a0_0, .int .i64 a0_1, .int .i64 a0_2, .int .u64 a0_3, .int .u64 a0_4, .bool a0_5, .int .u64 a0_6] 28 (0, 0)) (by (with_reducible repeat (first | refine blk_drewN ?_ _ | refine blk_drew ?_ | refine blk_alloc ?_ _)); refine blk_far ?_ NB200_232.out _; (with_reducible repeat (first | refine blk_drewN ?_ _ | refine blk_drew ?_ | refine blk_alloc ?_ _)); refine blk_far ?_ NB200_232.out _; (with_reducible repeat (first | refine blk_drewN ?_ _ | refine blk_drew ?_ | refine blk_alloc ?_ _)); refine blk_far ?_ NB200_232.out _; (with_reducible repeat (first | refine blk_drewN ?_ _ | refine blk_drew ?_ | refine blk_alloc ?_ _)); refine blk_far ?_ NB200_232.out _; (with_reducible repeat (first | refine blk_drewN ?_ _ | refine blk_drew ?_ | refine blk_alloc ?_ _)); refine blk_far ?_ NB200_232.out _; (with_reducible repeat (first | refine blk_drewN ?_ _ | refine blk_drew ?_ | refine blk_alloc ?_ _)); refine blk_far ?_ NB200_232.out _; (with_reducible repeat (first | refine blk_drewN ?_ _ | refine blk_drew ?_ | refine blk_alloc ?_ _)); refine blk_far ?_ NB200_232.out _; (with_reducible repeat (first | refine blk_drewN ?_ _ | refine blk_drew ?_ | refine blk_alloc ?_ _)); exact BK200.out) hb); have n1_ := Aside0.mk (blk_below (g := gb232) (o := .cells #[.bool t225, .int .i64 t226, .int .i64 t227, .int .u64 t228, .int .u64 t229, .bool t230, .int .u64 t231] 28 (0, 0)) (by (with_reducible repeat (first | refine blk_drewN ?_ _ | refine blk_drew ?_ | refine blk_alloc ?_ _)); refine blk_put (cs := #[.bool t225, .int .i64 t226, .int .i64 t227, .int .u64 t228, .int .u64 t229, .bool t230, .int .u64 0]) ?_ 6 _ rfl; (with_reducible repeat (first | refine blk_drewN ?_ _ | refine blk_drew ?_ | refine blk_alloc ?_ _)); refine blk_put (cs := #[.bool t225, .int .i64 t226, .int .i64 t227, .int .u64 t228, .int .u64 t229, .bool false, .int .u64 0]) ?_ 5 _ rfl; (with_reducible repeat (first | refine blk_drewN ?_ _ | refine blk_drew ?_ | refine blk_alloc ?_ _)); refine blk_put (cs := #[.bool t225, .int .i64 t226, .int .i64 t227, .int .u64 t228, .int .u64 0, .bool false, .int .u64 0]) ?_ 4 _ rfl; (with_reducible repeat (first | refine blk_drewN ?_ _ | refine blk_drew ?_ | refine blk_alloc ?_ _)); refine blk_put (cs := #[.bool t225, .int .i64 t226, .int .i64 t227, .int .u64 0, .int .u64 0, .bool false, .int .u64 0]) ?_ 3 _ rfl; (with_reducible repeat (first | refine blk_drewN ?_ _ | refine blk_drew ?_ | refine blk_alloc ?_ _)); refine blk_put (cs := #[.bool t225, .int .i64 t226, .int .i64 0, .int .u64 0, .int .u64 0, .bool false, .int .u64 0]) ?_ 2 _ rfl; (with_reducible repeat (first | refine blk_drewN ?_ _ | refine blk_drew ?_ | refine blk_alloc ?_ _)); refine blk_put (cs := #[.bool t225, .int .i64 0, .int .i64 0, .int .u64 0, .int .u64 0, .bool false, .int .u64 0]) ?_ 1 _ rfl; (with_reducible repeat (first | refine blk_drewN ?_ _ | refine blk_drew ?_ | refine blk_alloc ?_ _)); refine blk_put (cs := #[.bool false, .int .i64 0, .int .i64 0, .int .u64 0, .int .u64 0, .bool false, .int .u64 0]) ?_ 0 _ rfl; (with_reducible repeat (first | refine blk_drewN ?_ _ | refine blk_drew ?_ | refine blk_alloc ?_ _)); exact BK232.out) hb); have n2_ := Aside0.mk (below_step (by repeat (first | (with_reducible first | exact HB.out | apply below_alloc | apply pw_below_drewN | apply below_drew1 | refine below_set ?_ GE200.out | refine below_set ?_ GE232.out) | exact HB.out)) hb); clear BK200; clear BK232; clear HB; have BK200 := n0_; have BK232 := n1_; have HB := n2_; clear n0_ n1_ n2_; (try clear hb); (try clear hb2); (try clear hk); (try clear hi)) | ((with_reducible refine gate_dst (N := 12) rfl ?_); refine box_event ?hg (N := 12) ?hd (cs := #[.bool false, .int .i64 0, .int .i64 0, .int .u64 0, .int .u64 0, .bool false, .int .u64 0]) (t := 28) ?hr ?_; (case hd => rfl); (case hg => rfl); (case hr => first | (go_simp; done) | (go_simp; rfl)); intro gb242 hg w40 hbox hb; have n0_ := Aside0.mk (blk_below (g := gb200) (o := .cells #[.bool a0_0, .int .i64 a0_1, .int .i64 a0_2, .int .u64 a0_3, .int .u64 a0_4, .bool a0_5, .int .u64 a0_6] 28 (0, 0)) (by (with_reducible repeat (first | refine blk_drewN ?_ _ | refine blk_drew ?_ | refine blk_alloc ?_ _)); exact BK200.out) hb); have n1_ := Aside0.mk (blk_below (g := gb232) (o := .cells #[.bool t225, .int .i64 t226, .int .i64 t227, .int .u64 t228, .int .u64 t229, .bool t230, .int .u64 t231] 28 (0, 0)) (by (with_reducible repeat (first | refine blk_drewN ?_ _ | refine blk_drew ?_ | refine blk_alloc ?_ _)); exact BK232.out) hb); have n2_ := Aside0.mk (below_step (by repeat (first | (with_reducible first | exact HB.out | apply below_alloc | apply pw_below_drewN | apply below_drew1 | refine below_set ?_ GE200.out | refine below_set ?_ GE232.out) | exact HB.out)) hb); have n3_ := Aside0.mk (hbox); have n4_ := Aside0.mk ((by rw [hg]; exact (below_size (by repeat (first | (with_reducible first | exact HB.out | apply below_alloc | apply pw_below_drewN | apply below_drew1 | refine below_set ?_ GE200.out | refine below_set ?_ GE232.out) | exact HB.out))) : w.heap.size ≤ gb242)); have n5_ := Aside0.mk ((by rw [hg]; exact (below_size (by repeat (first | (with_reducible first | exact HB.out | apply below_alloc | apply pw_below_drewN | apply below_drew1 | refine below_set ?_ GE200.out | refine below_set ?_ GE232.out) | exact HB.out))) : w.heap.size ≤ gb242)); have n6_ := Aside0.mk ((by rw [hg]; exact Nat.ne_of_lt (blk_lt (g := gb200) (o := .cells #[.bool a0_0, .int .i64 a0_1, .int .i64 a0_2, .int .u64 a0_3, .int .u64 a0_4, .bool a0_5, .int .u64 a0_6] 28 (0, 0)) (by (with_reducible repeat (first | refine blk_drewN ?_ _ | refine blk_drew ?_ | refine blk_alloc ?_ _)); exact BK200.out)) : gb200 ≠ gb242)); have n7_ := Aside0.mk ((by rw [hg]; exact Nat.ne_of_gt (blk_lt (g := gb200) (o := .cells #[.bool a0_0, .int .i64 a0_1, .int .i64 a0_2, .int .u64 a0_3, .int .u64 a0_4, .bool a0_5, .int .u64 a0_6] 28 (0, 0)) (by (with_reducible repeat (first | refine blk_drewN ?_ _ | refine blk_drew ?_ | refine blk_alloc ?_ _)); exact BK200.out)) : gb242 ≠ gb200)); have n8_ := Aside0.mk ((by rw [hg]; exact Nat.ne_of_lt (blk_lt (g := gb232) (o := .cells #[.bool t225, .int .i64 t226, .int .i64 t227, .int .u64 t228, .int .u64 t229, .bool t230, .int .u64 t231] 28 (0, 0)) (by (with_reducible repeat (first | refine blk_drewN ?_ _ | refine blk_drew ?_ | refine blk_alloc ?_ _)); exact BK232.out)) : gb232 ≠ gb242)); have n9_ := Aside0.mk ((by rw [hg]; exact Nat.ne_of_gt (blk_lt (g := gb232) (o := .cells #[.bool t225, .int .i64 t226, .int .i64 t227, .int .u64 t228, .int .u64 t229, .bool t230, .int .u64 t231] 28 (0, 0)) (by (with_reducible repeat (first | refine blk_drewN ?_ _ | refine blk_drew ?_ | refine blk_alloc ?_ _)); exact BK232.out)) : gb242 ≠ gb232)); clear BK200; clear BK232; clear HB; have BK200 := n0_; have BK232 := n1_; have HB := n2_; have BK242 := n3_; have GW242 := n4_; have GE242 := n5_; have NB200_242 := n6_; have NB242_200 := n7_; have NB232_242 := n8_; have NB242_232 := n9_; clear n0_ n1_ n2_ n3_ n4_ n5_ n6_ n7_ n8_ n9_; clear hb hbox hg; have hnb41 := NB242_200.out; have hnc41 := NB200_242.out; have hnb42 := NB242_232.out; have hnc42 := NB232_242.out; have hcz43_0 : w40.cell? ⟨gb242, 0, none⟩ = some (.bool false) := (blk_cell BK242.out 0).trans rfl; have hcz43_1 : w40.cell? ⟨gb242, 1, none⟩ = some (.int .i64 0) := (blk_cell BK242.out 1).trans rfl; have hcz43_2 : w40.cell? ⟨gb242, 2, none⟩ = some (.int .i64 0) := (blk_cell BK242.out 2).trans rfl; have hcz43_3 : w40.cell? ⟨gb242, 3, none⟩ = some (.int .u64 0) := (blk_cell BK242.out 3).trans rfl; have hcz43_4 : w40.cell? ⟨gb242, 4, none⟩ = some (.int .u64 0) := (blk_cell BK242.out 4).trans rfl; have hcz43_5 : w40.cell? ⟨gb242, 5, none⟩ = some (.bool false) := (blk_cell BK242.out 5).trans rfl; have hcz43_6 : w40.cell? ⟨gb242, 6, none⟩ = some (.int .u64 0) := (blk_cell BK242.out 6).trans rfl; have hfz43_0 := blk_frozen BK242.out 0; have hfz43_1 := blk_frozen BK242.out 1; have hfz43_2 := blk_frozen BK242.out 2; have hfz43_3 := blk_frozen BK242.out 3; have hfz43_4 := blk_frozen BK242.out 4; have hfz43_5 := blk_frozen BK242.out 5; have hfz43_6 := blk_frozen BK242.out 6; have hcz44_0 : w40.cell? ⟨gb232, 0, none⟩ = some (.bool t225) := (blk_cell BK232.out 0).trans rfl; have hcz44_1 : w40.cell? ⟨gb232, 1, none⟩ = some (.int .i64 t226) := (blk_cell BK232.out 1).trans rfl; have hcz44_2 : w40.cell? ⟨gb232, 2, none⟩ = some (.int .i64 t227) := (blk_cell BK232.out 2).trans rfl; have hcz44_3 : w40.cell? ⟨gb232, 3, none⟩ = some (.int .u64 t228) := (blk_cell BK232.out 3).trans rfl; have hcz44_4 : w40.cell? ⟨gb232, 4, none⟩ = some (.int .u64 t229) := (blk_cell BK232.out 4).trans rfl; have hcz44_5 : w40.cell? ⟨gb232, 5, none⟩ = some (.bool t230) := (blk_cell BK232.out 5).trans rfl; have hcz44_6 : w40.cell? ⟨gb232, 6, none⟩ = some (.int .u64 t231) := (blk_cell BK232.out 6).trans rfl; have hfz44_0 := blk_frozen BK232.out 0; have hfz44_1 := blk_frozen BK232.out 1; have hfz44_2 := blk_frozen BK232.out 2; have hfz44_3 := blk_frozen BK232.out 3; have hfz44_4 := blk_frozen BK232.out 4; have hfz44_5 := blk_frozen BK232.out 5; have hfz44_6 := blk_frozen BK232.out 6) | (go_at_call 15; (with_reducible refine (rotalaw22_awake.calls k  t243 _ A31.out).mono ?_); rintro e w45 ⟨rfl, hb⟩; have n0_ := Aside0.mk (blk_below (g := gb200) (o := .cells #[.bool a0_0, .int .i64 a0_1, .int .i64 a0_2, .int .u64 a0_3, .int .u64 a0_4, .bool a0_5, .int .u64 a0_6] 28 (0, 0)) (by (with_reducible repeat (first | refine blk_drewN ?_ _ | refine blk_drew ?_ | refine blk_alloc ?_ _)); refine blk_far ?_ NB200_242.out _; (with_reducible repeat (first | refine blk_drewN ?_ _ | refine blk_drew ?_ | refine blk_alloc ?_ _)); refine blk_far ?_ NB200_242.out _; (with_reducible repeat (first | refine blk_drewN ?_ _ | refine blk_drew ?_ | refine blk_alloc ?_ _)); refine blk_far ?_ NB200_242.out _; (with_reducible repeat (first | refine blk_drewN ?_ _ | refine blk_drew ?_ | refine blk_alloc ?_ _)); refine blk_far ?_ NB200_242.out _; (with_reducible repeat (first | refine blk_drewN ?_ _ | refine blk_drew ?_ | refine blk_alloc ?_ _)); refine blk_far ?_ NB200_242.out _; (with_reducible repeat (first | refine blk_drewN ?_ _ | refine blk_drew ?_ | refine blk_alloc ?_ _)); refine blk_far ?_ NB200_242.out _; (with_reducible repeat (first | refine blk_drewN ?_ _ | refine blk_drew ?_ | refine blk_alloc ?_ _)); refine blk_far ?_ NB200_242.out _; (with_reducible repeat (first | refine blk_drewN ?_ _ | refine blk_drew ?_ | refine blk_alloc ?_ _)); exact BK200.out) hb); have n1_ := Aside0.mk (blk_below (g := gb232) (o := .cells #[.bool t225, .int .i64 t226, .int .i64 t227, .int .u64 t228, .int .u64 t229, .bool t230, .int .u64 t231] 28 (0, 0)) (by (with_reducible repeat (first | refine blk_drewN ?_ _ | refine blk_drew ?_ | refine blk_alloc ?_ _)); refine blk_far ?_ NB232_242.out _; (with_reducible repeat (first | refine blk_drewN ?_ _ | refine blk_drew ?_ | refine blk_alloc ?_ _)); refine blk_far ?_ NB232_242.out _; (with_reducible repeat (first | refine blk_drewN ?_ _ | refine blk_drew ?_ | refine blk_alloc ?_ _)); refine blk_far ?_ NB232_242.out _; (with_reducible repeat (first | refine blk_drewN ?_ _ | refine blk_drew ?_ | refine blk_alloc ?_ _)); refine blk_far ?_ NB232_242.out _; (with_reducible repeat (first | refine blk_drewN ?_ _ | refine blk_drew ?_ | refine blk_alloc ?_ _)); refine blk_far ?_ NB232_242.out _; (with_reducible repeat (first | refine blk_drewN ?_ _ | refine blk_drew ?_ | refine blk_alloc ?_ _)); refine blk_far ?_ NB232_242.out _; (with_reducible repeat (first | refine blk_drewN ?_ _ | refine blk_drew ?_ | refine blk_alloc ?_ _)); refine blk_far ?_ NB232_242.out _; (with_reducible repeat (first | refine blk_drewN ?_ _ | refine blk_drew ?_ | refine blk_alloc ?_ _)); exact BK232.out) hb); have n2_ := Aside0.mk (blk_below (g := gb242) (o := .cells #[.bool t235, .int .i64 t236, .int .i64 t237, .int .u64 t238, .int .u64 t239, .bool t240, .int .u64 t241] 28 (0, 0)) (by (with_reducible repeat (first | refine blk_drewN ?_ _ | refine blk_drew ?_ | refine blk_alloc ?_ _)); refine blk_put (cs := #[.bool t235, .int .i64 t236, .int .i64 t237, .int .u64 t238, .int .u64 t239, .bool t240, .int .u64 0]) ?_ 6 _ rfl; (with_reducible repeat (first | refine blk_drewN ?_ _ | refine blk_drew ?_ | refine blk_alloc ?_ _)); refine blk_put (cs := #[.bool t235, .int .i64 t236, .int .i64 t237, .int .u64 t238, .int .u64 t239, .bool false, .int .u64 0]) ?_ 5 _ rfl; (with_reducible repeat (first | refine blk_drewN ?_ _ | refine blk_drew ?_ | refine blk_alloc ?_ _)); refine blk_put (cs := #[.bool t235, .int .i64 t236, .int .i64 t237, .int .u64 t238, .int .u64 0, .bool false, .int .u64 0]) ?_ 4 _ rfl; (with_reducible repeat (first | refine blk_drewN ?_ _ | refine blk_drew ?_ | refine blk_alloc ?_ _)); refine blk_put (cs := #[.bool t235, .int .i64 t236, .int .i64 t237, .int .u64 0, .int .u64 0, .bool false, .int .u64 0]) ?_ 3 _ rfl; (with_reducible repeat (first | refine blk_drewN ?_ _ | refine blk_drew ?_ | refine blk_alloc ?_ _)); refine blk_put (cs := #[.bool t235, .int .i64 t236, .int .i64 0, .int .u64 0, .int .u64 0, .bool false, .int .u64 0]) ?_ 2 _ rfl; (with_reducible repeat (first | refine blk_drewN ?_ _ | refine blk_drew ?_ | refine blk_alloc ?_ _)); refine blk_put (cs := #[.bool t235, .int .i64 0, .int .i64 0, .int .u64 0, .int .u64 0, .bool false, .int .u64 0]) ?_ 1 _ rfl; (with_reducible repeat (first | refine blk_drewN ?_ _ | refine blk_drew ?_ | refine blk_alloc ?_ _)); refine blk_put (cs := #[.bool false, .int .i64 0, .int .i64 0, .int .u64 0, .int .u64 0, .bool false, .int .u64 0]) ?_ 0 _ rfl; (with_reducible repeat (first | refine blk_drewN ?_ _ | refine blk_drew ?_ | refine blk_alloc ?_ _)); exact BK242.out) hb); have n3_ := Aside0.mk (below_step (by repeat (first | (with_reducible first | exact HB.out | apply below_alloc | apply pw_below_drewN | apply below_drew1 | refine below_set ?_ GE200.out | refine below_set ?_ GE232.out | refine below_set ?_ GE242.out) | exact HB.out)) hb); clear BK200; clear BK232; clear BK242; clear HB; have BK200 := n0_; have BK232 := n1_; have BK242 := n2_; have HB := n3_; clear n0_ n1_ n2_ n3_; (try clear hb); (try clear hb2); (try clear hk); (try clear hi)))
          go_ret
          exact ⟨by first | rfl | (simp [errW_none, errW_some] <;> rfl) | (simp [*, errW_none, errW_some] <;> rfl), by repeat (first | (with_reducible first | exact HB.out | apply below_alloc | apply pw_below_drewN | apply below_drew1 | refine below_set ?_ GE200.out | refine below_set ?_ GE232.out | refine below_set ?_ GE242.out) | exact HB.out)⟩
        · rw [if_neg c30] at H
          have c30b0 : (t225 == t235 && (((t226 == t236 && (t227 == t237)) && (t228 == t238)) && (t229 == t239 && (t230 == t240 && (t231 == t241))))) = false := by simpa using c30
          (try (have c30b1 : decide (t225 = t235 && (((t226 == t236 && (t227 == t237)) && (t228 == t238)) && (t229 == t239 && (t230 == t240 && (t231 == t241))))) = false := by simpa using c30))
          (try (have c30b2 : (t225 == t235 && (((t226 == t236 && (t227 == t237)) && (t228 == t238)) && (t229 == t239 && (t230 == t240 && (t231 == t241))))) = false := by simpa using c30))
          (try (have c30b3 : ¬ (t225 = t235 && (((t226 == t236 && (t227 == t237)) && (t228 == t238)) && (t229 == t239 && (t230 == t240 && (t231 == t241))))) := by simpa using c30))
          clear c30
          exact absurd (hr_.out ▸ H) (by decide)
      · rw [if_neg c29] at H
        have c29b0 : (t224 == t234) = false := beq_eq_false_iff_ne.mpr c29
        have c29b1 : (t224 != t234) = true := bne_iff_ne.mpr c29
        exact absurd (hr_.out ▸ H) (by decide)
    · rw [if_neg c28] at H
      have c28b0 : (t223 == t233) = false := beq_eq_false_iff_ne.mpr c28
      have c28b1 : (t223 != t233) = true := bne_iff_ne.mpr c28
      exact absurd (hr_.out ▸ H) (by decide)

/-- THE ONE PURE STATEMENT of rotalaw22_SliceRuns: yours. -/
def rotalaw22_SliceRuns.Pure : Prop := ∀ (a0_0 : Bool) (a0_1 : Int) (a0_2 : Int) (a0_3 : Int) (a0_4 : Int) (a0_5 : Bool) (a0_6 : Int) (l1 : List Int) (a2 : Int), (Lit.int .i64 a0_1).wf = true → (Lit.int .i64 a0_2).wf = true → (Lit.int .u64 a0_3).wf = true → (Lit.int .u64 a0_4).wf = true → (Lit.int .u64 a0_6).wf = true → l1.length ≤ maxLen → l1.length * 8 ≤ 140737488351232 → (∀ x ∈ l1, (Lit.int .u64 x).wf = true) → (Lit.int .u64 a2).wf = true → ∃ k, rotalaw22_SliceRuns.f k a0_0 a0_1 a0_2 a0_3 a0_4 a0_5 a0_6 l1 a2 = some true
theorem rotalaw22_SliceRuns.walk (P : rotalaw22_SliceRuns.Pure) (a0_0 : Bool) (a0_1 : Int) (a0_2 : Int) (a0_3 : Int) (a0_4 : Int) (a0_5 : Bool) (a0_6 : Int) (a1 : Option Addr) (len1 cap1 : Nat) (z1 : List Int) (a2 : Int) (w : World) (w0_1 : (Lit.int .i64 a0_1).wf = true) (w0_2 : (Lit.int .i64 a0_2).wf = true) (w0_3 : (Lit.int .u64 a0_3).wf = true) (w0_4 : (Lit.int .u64 a0_4).wf = true) (w0_6 : (Lit.int .u64 a0_6).wf = true) (w1 : (a1 = none ∧ len1 = 0 ∧ cap1 = 0 ∧ z1 = []) ∨ ∃ x, a1 = some x ∧ len1 ≤ cap1 ∧ cap1 ≤ maxLen ∧ z1.length = cap1 ∧ (∀ i, i < z1.length → w.cell? (x.add i) = some (.int .u64 (z1.getD i 0))) ∧ ∀ n ∈ z1, (Lit.int .u64 n).wf = true) (y1 : len1 * 8 ≤ 140737488351232) (w2 : (Lit.int .u64 a2).wf = true) :
    Calls Try.prog 7 #[.agg #[.bool a0_0, .int .i64 a0_1, .int .i64 a0_2, .int .u64 a0_3, .int .u64 a0_4, .bool a0_5, .int .u64 a0_6], .slice a1 len1 cap1, .int .u64 a2] w fun e w' => e = .returned (.bool true) ∧ Below w.heap.size w w' := by
  obtain ⟨l1, rfl, hr1, hm1, hw1, hc1⟩ := ReadsInt.ofRowC w1
  obtain ⟨k, h⟩ := P a0_0 a0_1 a0_2 a0_3 a0_4 a0_5 a0_6 l1 a2 w0_1 w0_2 w0_3 w0_4 w0_6 hm1 y1 hw1 w2
  refine (rotalaw22_SliceRuns.calls k a0_0 a0_1 a0_2 a0_3 a0_4 a0_5 a0_6 _ _ l1 a2 true w (Kd.C_of_reads (d := (0 : Int)) (h1 := fun _ => rfl) hr1) hc1 h ⟨rfl⟩).mono ?_
  rintro e w' ⟨rfl, hd⟩
  exact ⟨rfl, hd⟩

end Go.Proofs.Ytdmfoeokfmgglaa.PSliceRuns
