/- The Go functions that the law reaches, as Lean functions, and that the code comes to their answers. Laid by this session's own program; no condition. -/
import Derived.Test.YtdmfoeokfmgglaaPSliceSplitx0
import Derived.Test.YtdmfoeokfmgglaaPSliceSplitx1
import Derived.Test.YtdmfoeokfmgglaaPSliceSplitx2
import Derived.Test.YtdmfoeokfmgglaaPSliceSplitx3
namespace Go.Proofs.Ytdmfoeokfmgglaa.PSliceSplit
open Go.RowKit Go.Proofs.YtdmfoeokfmgglaaW.PrintWords Go.Proofs.YtdmfoeokfmgglaaW.PrintLast Go.Proofs.YtdmfoeokfmgglaaW.PrintMore
attribute [local go_sem] max2_int min2_int max_two min_two max_three min_three max_four min_four   -- for this text's walks alone
set_option linter.unusedVariables false
set_option linter.unusedSimpArgs false

attribute [local go_sem high] eqA28
/-! ### rotalaw22_SliceSplit: function 9 -/
mutual
def rotalaw22_SliceSplit.j0 : Nat → List Int → Int → Bool → Int → Int → Int → Int → Bool → Int → Option (Bool)
  | 0, _, _, _, _, _, _, _, _, _ => none
  | k + 1, x1, x2, x173000, x173001, x173002, x173003, x173004, x173005, x173006 => (rotalaw22_far.f x2 x1).bind fun t173 => ((slice_Run.f k x173000 x173001 x173002 x173003 x173004 x173005 x173006 x1 t173).bind fun bt174 => (if bt174.1 > (x1.length : Int) then (rotalaw22_SliceSplit.j1 k x1 t173 bt174.1 bt174.2.1 true x173000 x173001 x173002 x173003 x173004 x173005 x173006 bt174.2.2.1 bt174.2.2.2.1 bt174.2.2.2.2.1 bt174.2.2.2.2.2.1 bt174.2.2.2.2.2.2.1 bt174.2.2.2.2.2.2.2.1 bt174.2.2.2.2.2.2.2.2) else (rotalaw22_SliceSplit.j1 k x1 t173 bt174.1 bt174.2.1 (decide (bt174.2.1 > t173)) x173000 x173001 x173002 x173003 x173004 x173005 x173006 bt174.2.2.1 bt174.2.2.2.1 bt174.2.2.2.2.1 bt174.2.2.2.2.2.1 bt174.2.2.2.2.2.2.1 bt174.2.2.2.2.2.2.2.1 bt174.2.2.2.2.2.2.2.2)))
def rotalaw22_SliceSplit.j1 : Nat → List Int → Int → Int → Int → Bool → Bool → Int → Int → Int → Int → Bool → Int → Bool → Int → Int → Int → Int → Bool → Int → Option (Bool)
  | 0, _, _, _, _, _, _, _, _, _, _, _, _, _, _, _, _, _, _, _ => none
  | k + 1, x1, x2, x7, x8, x40, x173000, x173001, x173002, x173003, x173004, x173005, x173006, x184000, x184001, x184002, x184003, x184004, x184005, x184006 => if x40 = true then (some false) else (rotalaw22_SliceSplit.l0 k x1 x2 x7 x8 0 x173000 x173001 x173002 x173003 x173004 x173005 x173006 x184000 x184001 x184002 x184003 x184004 x184005 x184006)
def rotalaw22_SliceSplit.l0 : Nat → List Int → Int → Int → Int → Int → Bool → Int → Int → Int → Int → Bool → Int → Bool → Int → Int → Int → Int → Bool → Int → Option (Bool)
  | 0, _, _, _, _, _, _, _, _, _, _, _, _, _, _, _, _, _, _, _ => none
  | k + 1, x1, x2, x7, x8, x10, x173000, x173001, x173002, x173003, x173004, x173005, x173006, x184000, x184001, x184002, x184003, x184004, x184005, x184006 => if x10 ≤ x7 then (if 0 ≤ x10 then (if x10 ≤ (x1.length : Int) then ((slice_Run.f k x173000 x173001 x173002 x173003 x173004 x173005 x173006 (x1.take (x10 : Int).toNat) x2).bind fun bt186 => (if 0 ≤ bt186.1 then (if bt186.1 ≤ (x1.length : Int) then ((slice_Run.f k bt186.2.2.1 bt186.2.2.2.1 bt186.2.2.2.2.1 bt186.2.2.2.2.2.1 bt186.2.2.2.2.2.2.1 bt186.2.2.2.2.2.2.2.1 bt186.2.2.2.2.2.2.2.2 (x1.drop (bt186.1 : Int).toNat) (IntKind.u64.wrap (x2 - bt186.2.1))).bind fun bt197 => (if bt186.1 = x10 then (if (wrap64 (bt186.1 + bt197.1)) = x7 then (if (IntKind.u64.wrap (bt186.2.1 + bt197.2.1)) = x8 then (if (!(bt197.2.2.1 == x184000) || (((!(bt197.2.2.2.1 == x184001) || (!(bt197.2.2.2.2.1 == x184002))) || (!(bt197.2.2.2.2.2.1 == x184003))) || (!(bt197.2.2.2.2.2.2.1 == x184004) || (!(bt197.2.2.2.2.2.2.2.1 == x184005) || (!(bt197.2.2.2.2.2.2.2.2 == x184006)))))) = true then (some false) else (rotalaw22_SliceSplit.l0 k x1 x2 x7 x8 (wrap64 (x10 + 1)) x173000 x173001 x173002 x173003 x173004 x173005 x173006 x184000 x184001 x184002 x184003 x184004 x184005 x184006)) else (some false)) else (some false)) else (some false))) else (none)) else (none))) else (none)) else (none)) else ((rotalaw22_awake.f k).bind fun t184 => (some t184))
end
def rotalaw22_SliceSplit.f (k : Nat) (a0_0 : Bool) (a0_1 : Int) (a0_2 : Int) (a0_3 : Int) (a0_4 : Int) (a0_5 : Bool) (a0_6 : Int) (l1 : List Int) (a2 : Int) : Option (Bool) := if a0_6 > 0 then (rotalaw22_SliceSplit.j0 k l1 a2 a0_0 a0_1 a0_2 a0_3 a0_4 a0_5 0) else (rotalaw22_SliceSplit.j0 k l1 a2 a0_0 a0_1 a0_2 a0_3 a0_4 a0_5 a0_6)
theorem rotalaw22_SliceSplit.mono_l : ∀ k, (∀ y0 y1 y2 y3 y4 y5 y6 y7 y8, LeO (rotalaw22_SliceSplit.j0 k y0 y1 y2 y3 y4 y5 y6 y7 y8) (rotalaw22_SliceSplit.j0 (k + 1) y0 y1 y2 y3 y4 y5 y6 y7 y8)) ∧ (∀ y0 y1 y2 y3 y4 y5 y6 y7 y8 y9 y10 y11 y12 y13 y14 y15 y16 y17 y18, LeO (rotalaw22_SliceSplit.j1 k y0 y1 y2 y3 y4 y5 y6 y7 y8 y9 y10 y11 y12 y13 y14 y15 y16 y17 y18) (rotalaw22_SliceSplit.j1 (k + 1) y0 y1 y2 y3 y4 y5 y6 y7 y8 y9 y10 y11 y12 y13 y14 y15 y16 y17 y18)) ∧ (∀ y0 y1 y2 y3 y4 y5 y6 y7 y8 y9 y10 y11 y12 y13 y14 y15 y16 y17 y18, LeO (rotalaw22_SliceSplit.l0 k y0 y1 y2 y3 y4 y5 y6 y7 y8 y9 y10 y11 y12 y13 y14 y15 y16 y17 y18) (rotalaw22_SliceSplit.l0 (k + 1) y0 y1 y2 y3 y4 y5 y6 y7 y8 y9 y10 y11 y12 y13 y14 y15 y16 y17 y18))
  | 0 => ⟨fun _ _ _ _ _ _ _ _ _ r h => by simp [rotalaw22_SliceSplit.j0] at h, fun _ _ _ _ _ _ _ _ _ _ _ _ _ _ _ _ _ _ _ r h => by simp [rotalaw22_SliceSplit.j1] at h, fun _ _ _ _ _ _ _ _ _ _ _ _ _ _ _ _ _ _ _ r h => by simp [rotalaw22_SliceSplit.l0] at h⟩
  | k + 1 => by
    obtain ⟨ih0, ih1, ih2⟩ := rotalaw22_SliceSplit.mono_l k
    refine ⟨?_, ?_, ?_⟩
    · intro y0 y1 y2 y3 y4 y5 y6 y7 y8
      unfold rotalaw22_SliceSplit.j0
      repeat' first
      | (with_reducible exact ih0 _ _ _ _ _ _ _ _ _)
      | (with_reducible exact ih1 _ _ _ _ _ _ _ _ _ _ _ _ _ _ _ _ _ _ _)
      | (with_reducible exact ih2 _ _ _ _ _ _ _ _ _ _ _ _ _ _ _ _ _ _ _)
      | (with_reducible exact rotalaw22_awake.mono _)
      | (with_reducible exact slice_Run.mono _ _ _ _ _ _ _ _ _ _)
      | (with_reducible exact LeO.refl _)
      | (with_reducible exact LeO.none _)
      | (with_reducible refine LeO.ite ?_ ?_)
      | (with_reducible refine LeO.bind ?_ (fun _ => ?_))
      | exact ih0 _ _ _ _ _ _ _ _ _
      | exact ih1 _ _ _ _ _ _ _ _ _ _ _ _ _ _ _ _ _ _ _
      | exact ih2 _ _ _ _ _ _ _ _ _ _ _ _ _ _ _ _ _ _ _
      | exact rotalaw22_awake.mono _
      | exact slice_Run.mono _ _ _ _ _ _ _ _ _ _
      | exact LeO.none _
      | refine LeO.ite ?_ ?_
      | refine LeO.bind ?_ (fun _ => ?_)
    · intro y0 y1 y2 y3 y4 y5 y6 y7 y8 y9 y10 y11 y12 y13 y14 y15 y16 y17 y18
      unfold rotalaw22_SliceSplit.j1
      repeat' first
      | (with_reducible exact ih0 _ _ _ _ _ _ _ _ _)
      | (with_reducible exact ih1 _ _ _ _ _ _ _ _ _ _ _ _ _ _ _ _ _ _ _)
      | (with_reducible exact ih2 _ _ _ _ _ _ _ _ _ _ _ _ _ _ _ _ _ _ _)
      | (with_reducible exact rotalaw22_awake.mono _)
      | (with_reducible exact slice_Run.mono _ _ _ _ _ _ _ _ _ _)
      | (with_reducible exact LeO.refl _)
      | (with_reducible exact LeO.none _)
      | (with_reducible refine LeO.ite ?_ ?_)
      | (with_reducible refine LeO.bind ?_ (fun _ => ?_))
      | exact ih0 _ _ _ _ _ _ _ _ _
      | exact ih1 _ _ _ _ _ _ _ _ _ _ _ _ _ _ _ _ _ _ _
      | exact ih2 _ _ _ _ _ _ _ _ _ _ _ _ _ _ _ _ _ _ _
      | exact rotalaw22_awake.mono _
      | exact slice_Run.mono _ _ _ _ _ _ _ _ _ _
      | exact LeO.none _
      | refine LeO.ite ?_ ?_
      | refine LeO.bind ?_ (fun _ => ?_)
    · intro y0 y1 y2 y3 y4 y5 y6 y7 y8 y9 y10 y11 y12 y13 y14 y15 y16 y17 y18
      unfold rotalaw22_SliceSplit.l0
      repeat' first
      | (with_reducible exact ih0 _ _ _ _ _ _ _ _ _)
      | (with_reducible exact ih1 _ _ _ _ _ _ _ _ _ _ _ _ _ _ _ _ _ _ _)
      | (with_reducible exact ih2 _ _ _ _ _ _ _ _ _ _ _ _ _ _ _ _ _ _ _)
      | (with_reducible exact rotalaw22_awake.mono _)
      | (with_reducible exact slice_Run.mono _ _ _ _ _ _ _ _ _ _)
      | (with_reducible exact LeO.refl _)
      | (with_reducible exact LeO.none _)
      | (with_reducible refine LeO.ite ?_ ?_)
      | (with_reducible refine LeO.bind ?_ (fun _ => ?_))
      | exact ih0 _ _ _ _ _ _ _ _ _
      | exact ih1 _ _ _ _ _ _ _ _ _ _ _ _ _ _ _ _ _ _ _
      | exact ih2 _ _ _ _ _ _ _ _ _ _ _ _ _ _ _ _ _ _ _
      | exact rotalaw22_awake.mono _
      | exact slice_Run.mono _ _ _ _ _ _ _ _ _ _
      | exact LeO.none _
      | refine LeO.ite ?_ ?_
      | refine LeO.bind ?_ (fun _ => ?_)
theorem rotalaw22_SliceSplit.mono : ∀ a0 a1 a2 a3 a4 a5 a6 a7 a8 k, LeO (rotalaw22_SliceSplit.f k a0 a1 a2 a3 a4 a5 a6 a7 a8) (rotalaw22_SliceSplit.f (k + 1) a0 a1 a2 a3 a4 a5 a6 a7 a8) := by
  intro a0 a1 a2 a3 a4 a5 a6 a7 a8 k
  obtain ⟨ih0, ih1, ih2⟩ := rotalaw22_SliceSplit.mono_l k
  unfold rotalaw22_SliceSplit.f
  repeat' first
      | (with_reducible exact ih0 _ _ _ _ _ _ _ _ _)
      | (with_reducible exact ih1 _ _ _ _ _ _ _ _ _ _ _ _ _ _ _ _ _ _ _)
      | (with_reducible exact ih2 _ _ _ _ _ _ _ _ _ _ _ _ _ _ _ _ _ _ _)
      | (with_reducible exact rotalaw22_awake.mono _)
      | (with_reducible exact slice_Run.mono _ _ _ _ _ _ _ _ _ _)
      | (with_reducible exact LeO.refl _)
      | (with_reducible exact LeO.none _)
      | (with_reducible refine LeO.ite ?_ ?_)
      | (with_reducible refine LeO.bind ?_ (fun _ => ?_))
      | exact ih0 _ _ _ _ _ _ _ _ _
      | exact ih1 _ _ _ _ _ _ _ _ _ _ _ _ _ _ _ _ _ _ _
      | exact ih2 _ _ _ _ _ _ _ _ _ _ _ _ _ _ _ _ _ _ _
      | exact rotalaw22_awake.mono _
      | exact slice_Run.mono _ _ _ _ _ _ _ _ _ _
      | exact LeO.none _
      | refine LeO.ite ?_ ?_
      | refine LeO.bind ?_ (fun _ => ?_)
def rotalaw22_SliceSplit.T10 : Bool × List (List Nat × List Nat) := (true, [([], []), ([], []), ([], []), ([1, 2], [1, 2]), ([], []), ([0, 3, 4], [0, 3, 4]), ([5], [5]), ([6], [6]), ([6], [6]), ([6], [6]), ([], []), ([7, 5, 0, 1, 2, 3, 4, 5, 6, 7, 10], [7]), ([8, 11, 0, 1, 2, 3, 4, 5, 6, 7, 8, 10, 11], [8]), ([10, 9, 12, 0, 1, 2, 3, 4, 5, 6, 7, 8, 9, 10, 11, 12], [9, 10])])
def rotalaw22_SliceSplit.B10 : List Nat := [0, 0, 0, 6, 0, 31, 63, 127, 127, 127, 0, 1279, 3583, 8191]
theorem rotalaw22_SliceSplit.tab10 : rtab .any (opsOf Try.f9 10) = rotalaw22_SliceSplit.T10 := by kernel_rfl
theorem rotalaw22_SliceSplit.bits10 : waitsOk rotalaw22_SliceSplit.T10.2 rotalaw22_SliceSplit.B10 = true := by kernel_rfl
def rotalaw22_SliceSplit.T11 : Bool × List (List Nat × List Nat) := (true, [([], []), ([], []), ([], []), ([1, 2], [1, 2]), ([], []), ([], []), ([4, 5], [4, 5]), ([0, 3, 6], [0, 3, 6]), ([7], [7]), ([8], [8]), ([8], [8]), ([8], [8]), ([], []), ([9, 7, 0, 1, 2, 3, 4, 5, 6, 7, 8, 9, 12], [9]), ([10, 13, 0, 1, 2, 3, 4, 5, 6, 7, 8, 9, 10, 12, 13], [10]), ([12, 11, 14, 0, 1, 2, 3, 4, 5, 6, 7, 8, 9, 10, 11, 12, 13, 14], [11, 12])])
def rotalaw22_SliceSplit.B11 : List Nat := [0, 0, 0, 6, 0, 0, 48, 127, 255, 511, 511, 511, 0, 5119, 14335, 32767]
theorem rotalaw22_SliceSplit.tab11 : rtab .any (opsOf Try.f9 11) = rotalaw22_SliceSplit.T11 := by kernel_rfl
theorem rotalaw22_SliceSplit.bits11 : waitsOk rotalaw22_SliceSplit.T11.2 rotalaw22_SliceSplit.B11 = true := by kernel_rfl
set_option maxHeartbeats 8000000 in
set_option maxRecDepth 100000 in
theorem rotalaw22_SliceSplit.calls (k : Nat) (a0_0 : Bool) (a0_1 : Int) (a0_2 : Int) (a0_3 : Int) (a0_4 : Int) (a0_5 : Bool) (a0_6 : Int) (A1 : Option Addr) (c1 : Nat) (l1 : List Int) (a2 : Int) (r : Bool) (w : World) (hr1 : Kd.C (Kd.int .u64) w A1 l1.length l1) (hc1 : l1.length ≤ c1) (h : rotalaw22_SliceSplit.f k a0_0 a0_1 a0_2 a0_3 a0_4 a0_5 a0_6 l1 a2 = some r) (hr_ : Aside0 (r = true)) :
    Calls Try.prog 9 #[.agg #[.bool a0_0, .int .i64 a0_1, .int .i64 a0_2, .int .u64 a0_3, .int .u64 a0_4, .bool a0_5, .int .u64 a0_6], .slice A1 l1.length c1, .int .u64 a2] w fun e w' => e = .returned (.bool r) ∧ Below w.heap.size w w' := by
  have hu28 := Try.underlying28
  have HR1 := Aside0.mk hr1
  have HC1 := Aside0.mk hc1
  clear hr1 hc1
  have HB := Aside0.mk (Below.refl w.heap.size w)
  have H : (if a0_6 > 0 then (rotalaw22_SliceSplit.j0 k l1 a2 a0_0 a0_1 a0_2 a0_3 a0_4 a0_5 0) else (rotalaw22_SliceSplit.j0 k l1 a2 a0_0 a0_1 a0_2 a0_3 a0_4 a0_5 a0_6)) = some r := h
  clear h
  have HC4 := Aside0.mk H
  clear H
  go_enter Try.func9, Try.ntmps9
  go_upto_if 19 with (first | ((with_reducible refine gate_dst (N := 3) rfl ?_); refine box_event ?hg (N := 3) ?hd (cs := #[.bool a0_0, .int .i64 a0_1, .int .i64 a0_2, .int .u64 a0_3, .int .u64 a0_4, .bool a0_5, .int .u64 a0_6]) (t := 28) ?hr ?_; (case hd => rfl); (case hg => rfl); (case hr => first | (go_simp; done) | (go_simp; rfl)); intro gb172 hg w5 hbox hb; have n0_ := Aside0.mk (below_step (by repeat (first | (with_reducible first | exact HB.out | apply below_alloc | apply pw_below_drewN | apply below_drew1) | exact HB.out)) hb); have n1_ := Aside0.mk (hbox); have n2_ := Aside0.mk ((by rw [hg]; exact (below_size (by repeat (first | (with_reducible first | exact HB.out | apply below_alloc | apply pw_below_drewN | apply below_drew1) | exact HB.out))) : w.heap.size ≤ gb172)); have n3_ := Aside0.mk ((by rw [hg]; exact (below_size (by repeat (first | (with_reducible first | exact HB.out | apply below_alloc | apply pw_below_drewN | apply below_drew1) | exact HB.out))) : w.heap.size ≤ gb172)); clear HB; have HB := n0_; have BK172 := n1_; have GW172 := n2_; have GE172 := n3_; clear n0_ n1_ n2_ n3_; clear hb hbox hg; have hcz6_0 : w5.cell? ⟨gb172, 0, none⟩ = some (.bool a0_0) := (blk_cell BK172.out 0).trans rfl; have hcz6_1 : w5.cell? ⟨gb172, 1, none⟩ = some (.int .i64 a0_1) := (blk_cell BK172.out 1).trans rfl; have hcz6_2 : w5.cell? ⟨gb172, 2, none⟩ = some (.int .i64 a0_2) := (blk_cell BK172.out 2).trans rfl; have hcz6_3 : w5.cell? ⟨gb172, 3, none⟩ = some (.int .u64 a0_3) := (blk_cell BK172.out 3).trans rfl; have hcz6_4 : w5.cell? ⟨gb172, 4, none⟩ = some (.int .u64 a0_4) := (blk_cell BK172.out 4).trans rfl; have hcz6_5 : w5.cell? ⟨gb172, 5, none⟩ = some (.bool a0_5) := (blk_cell BK172.out 5).trans rfl; have hcz6_6 : w5.cell? ⟨gb172, 6, none⟩ = some (.int .u64 a0_6) := (blk_cell BK172.out 6).trans rfl; have hfz6_0 := blk_frozen BK172.out 0; have hfz6_1 := blk_frozen BK172.out 1; have hfz6_2 := blk_frozen BK172.out 2; have hfz6_3 := blk_frozen BK172.out 3; have hfz6_4 := blk_frozen BK172.out 4; have hfz6_5 := blk_frozen BK172.out 5; have hfz6_6 := blk_frozen BK172.out 6))
  (try simp only [Act.put, List.setIfInBounds_toArray, List.set_cons_zero, List.set_cons_succ])
  go_cut [] (fun wc => ∃ (kq : Nat) (x173006_3 : Int), Aside0 (rotalaw22_SliceSplit.j0 kq l1 a2 a0_0 a0_1 a0_2 a0_3 a0_4 a0_5 x173006_3 = some r) ∧ Aside0 (kq ≤ k) ∧ Aside0 (wc.heap[gb172]? = some (.cells #[.bool a0_0, .int .i64 a0_1, .int .i64 a0_2, .int .u64 a0_3, .int .u64 a0_4, .bool a0_5, .int .u64 x173006_3] 28 (0, 0))) ∧ Aside0 (Below w.heap.size w wc))
  case first =>
    have H := HC4.out
    clear HC4
    by_cases c7 : a0_6 > 0
    · rw [if_pos c7] at H
      have c7b0 : decide (0 < a0_6) = true := decide_eq_true c7
      clear c7
      (first | rw [c7b0] | (simp only [i64_w, i32_w]; rw [c7b0]) | skip)
      have H' := Aside0.mk H
      clear H
      have hcz8_0 : w5.cell? ⟨gb172, 0, none⟩ = some (.bool a0_0) := (blk_cell BK172.out 0).trans rfl
      have hcz8_1 : w5.cell? ⟨gb172, 1, none⟩ = some (.int .i64 a0_1) := (blk_cell BK172.out 1).trans rfl
      have hcz8_2 : w5.cell? ⟨gb172, 2, none⟩ = some (.int .i64 a0_2) := (blk_cell BK172.out 2).trans rfl
      have hcz8_3 : w5.cell? ⟨gb172, 3, none⟩ = some (.int .u64 a0_3) := (blk_cell BK172.out 3).trans rfl
      have hcz8_4 : w5.cell? ⟨gb172, 4, none⟩ = some (.int .u64 a0_4) := (blk_cell BK172.out 4).trans rfl
      have hcz8_5 : w5.cell? ⟨gb172, 5, none⟩ = some (.bool a0_5) := (blk_cell BK172.out 5).trans rfl
      have hcz8_6 : w5.cell? ⟨gb172, 6, none⟩ = some (.int .u64 a0_6) := (blk_cell BK172.out 6).trans rfl
      have hfz8_0 := blk_frozen BK172.out 0
      have hfz8_1 := blk_frozen BK172.out 1
      have hfz8_2 := blk_frozen BK172.out 2
      have hfz8_3 := blk_frozen BK172.out 3
      have hfz8_4 := blk_frozen BK172.out 4
      have hfz8_5 := blk_frozen BK172.out 5
      have hfz8_6 := blk_frozen BK172.out 6
      go_wp2
      go_meet
      case rel => exact ⟨_, (0), H', ⟨by first | omega | exact Nat.le_refl _⟩, ⟨by (with_reducible repeat (first | refine blk_drewN ?_ _ | refine blk_drew ?_ | refine blk_alloc ?_ _)); refine blk_put (cs := #[.bool a0_0, .int .i64 a0_1, .int .i64 a0_2, .int .u64 a0_3, .int .u64 a0_4, .bool a0_5, .int .u64 a0_6]) ?_ 6 _ rfl; (with_reducible repeat (first | refine blk_drewN ?_ _ | refine blk_drew ?_ | refine blk_alloc ?_ _)); exact BK172.out⟩, ⟨by repeat (first | (with_reducible first | exact HB.out | apply below_alloc | apply pw_below_drewN | apply below_drew1 | refine below_set ?_ GE172.out) | exact HB.out)⟩⟩
    · rw [if_neg c7] at H
      have c7b0 : decide (0 < a0_6) = false := decide_eq_false c7
      clear c7
      (first | rw [c7b0] | (simp only [i64_w, i32_w]; rw [c7b0]) | skip)
      have H' := Aside0.mk H
      clear H
      go_wp2
      go_meet
      case rel => exact ⟨_, (a0_6), H', ⟨by first | omega | exact Nat.le_refl _⟩, ⟨by (with_reducible repeat (first | refine blk_drewN ?_ _ | refine blk_drew ?_ | refine blk_alloc ?_ _)); exact BK172.out⟩, ⟨by repeat (first | (with_reducible first | exact HB.out | apply below_alloc | apply pw_below_drewN | apply below_drew1 | refine below_set ?_ GE172.out) | exact HB.out)⟩⟩
  case rest =>
    clear HC4
    try clear c1
    try clear p2
    try clear c7
    try clear c7b0
    try clear hcz6_0
    try clear hcz6_1
    try clear hcz6_2
    try clear hcz6_3
    try clear hcz6_4
    try clear hcz6_5
    try clear hcz6_6
    try clear hcz8_0
    try clear hcz8_1
    try clear hcz8_2
    try clear hcz8_3
    try clear hcz8_4
    try clear hcz8_5
    try clear hcz8_6
    try clear hfz6_0
    try clear hfz6_1
    try clear hfz6_2
    try clear hfz6_3
    try clear hfz6_4
    try clear hfz6_5
    try clear hfz6_6
    try clear hfz8_0
    try clear hfz8_1
    try clear hfz8_2
    try clear hfz8_3
    try clear hfz8_4
    try clear hfz8_5
    try clear hfz8_6
    obtain ⟨kq, x173006_3, HA, HJ3, BK172, HB⟩ := hcut
    cases kq with
    | zero => exact absurd HA.out (by simp [rotalaw22_SliceSplit.j0])
    | succ kj3 =>
      have H := HA.out
      clear HA
      simp only [rotalaw22_SliceSplit.j0] at H
      replace H := Option.bind_eq_some_iff.mp H
      obtain ⟨t173, A90, H⟩ := H
      replace H : ((slice_Run.f kj3 a0_0 a0_1 a0_2 a0_3 a0_4 a0_5 x173006_3 l1 t173).bind fun bt174 => (if bt174.1 > (l1.length : Int) then (rotalaw22_SliceSplit.j1 kj3 l1 t173 bt174.1 bt174.2.1 true a0_0 a0_1 a0_2 a0_3 a0_4 a0_5 x173006_3 bt174.2.2.1 bt174.2.2.2.1 bt174.2.2.2.2.1 bt174.2.2.2.2.2.1 bt174.2.2.2.2.2.2.1 bt174.2.2.2.2.2.2.2.1 bt174.2.2.2.2.2.2.2.2) else (rotalaw22_SliceSplit.j1 kj3 l1 t173 bt174.1 bt174.2.1 (decide (bt174.2.1 > t173)) a0_0 a0_1 a0_2 a0_3 a0_4 a0_5 x173006_3 bt174.2.2.1 bt174.2.2.2.1 bt174.2.2.2.2.1 bt174.2.2.2.2.2.1 bt174.2.2.2.2.2.2.1 bt174.2.2.2.2.2.2.2.1 bt174.2.2.2.2.2.2.2.2))) = some r := H
      have A9 := Aside0.mk A90
      clear A90
      replace H := Option.bind_eq_some_iff.mp H
      obtain ⟨⟨t174, t175, t176, t177, t178, t179, t180, t181, t182⟩, A100, H⟩ := H
      replace H : (if t174 > (l1.length : Int) then (rotalaw22_SliceSplit.j1 kj3 l1 t173 t174 t175 true a0_0 a0_1 a0_2 a0_3 a0_4 a0_5 x173006_3 t176 t177 t178 t179 t180 t181 t182) else (rotalaw22_SliceSplit.j1 kj3 l1 t173 t174 t175 (decide (t175 > t173)) a0_0 a0_1 a0_2 a0_3 a0_4 a0_5 x173006_3 t176 t177 t178 t179 t180 t181 t182)) = some r := H
      have A10 := Aside0.mk A100
      clear A100
      have HC11 := Aside0.mk H
      clear H
      go_upto_region 5 with (first | ((with_reducible refine gate_callee (f := 26) rfl ?_); refine goesL_ (some 23) rfl rfl Try.func26 (by kernel_rfl) rfl #[.int .u64 a2, .slice A1 l1.length c1] rfl (by (try simp only [List.map_toArray, List.map_cons, List.map_nil]); first | done | rfl | (simp only [List.length_drop, List.length_take]; rfl)) ?_; (with_reducible refine (rotalaw22_far.calls a2 _ _ l1 t173 _ ?side1 ?side2 A9.out).mono ?_); (case side1 => repeat (first | exact (Kd.C_below HR1.out HB.out) | (with_reducible refine Kd.C_alloc ?_ _) | (with_reducible refine Kd.C_drewN ?_ _) | (with_reducible refine Kd.C_drew ?_))); (case side2 => exact HC1.out); rintro e w' ⟨rfl, ⟨nd, rfl⟩⟩; refine ⟨_, rfl, ?_⟩; (try (rw [drewN_self wc]; generalize hq_ : World.drewN wc _ = wc; have n0_ : Aside0 (wc.heap[gb172]? = some (.cells #[.bool a0_0, .int .i64 a0_1, .int .i64 a0_2, .int .u64 a0_3, .int .u64 a0_4, .bool a0_5, .int .u64 x173006_3] 28 (0, 0))) := ⟨by rw [← hq_]; exact (by (with_reducible repeat (first | refine blk_drewN ?_ _ | refine blk_drew ?_ | refine blk_alloc ?_ _)); exact BK172.out)⟩; have n1_ : Aside0 (Below w.heap.size w wc) := ⟨by rw [← hq_]; exact (by repeat (first | (with_reducible first | exact HB.out | apply below_alloc | apply pw_below_drewN | apply below_drew1 | refine below_set ?_ GE172.out) | exact HB.out))⟩; clear BK172 HB hq_; have BK172 := n0_; have HB := n1_; clear n0_ n1_)); have hcz12_0 : wc.cell? ⟨gb172, 0, none⟩ = some (.bool a0_0) := (blk_cell BK172.out 0).trans rfl; have hcz12_1 : wc.cell? ⟨gb172, 1, none⟩ = some (.int .i64 a0_1) := (blk_cell BK172.out 1).trans rfl; have hcz12_2 : wc.cell? ⟨gb172, 2, none⟩ = some (.int .i64 a0_2) := (blk_cell BK172.out 2).trans rfl; have hcz12_3 : wc.cell? ⟨gb172, 3, none⟩ = some (.int .u64 a0_3) := (blk_cell BK172.out 3).trans rfl; have hcz12_4 : wc.cell? ⟨gb172, 4, none⟩ = some (.int .u64 a0_4) := (blk_cell BK172.out 4).trans rfl; have hcz12_5 : wc.cell? ⟨gb172, 5, none⟩ = some (.bool a0_5) := (blk_cell BK172.out 5).trans rfl; have hcz12_6 : wc.cell? ⟨gb172, 6, none⟩ = some (.int .u64 x173006_3) := (blk_cell BK172.out 6).trans rfl; have hfz12_0 := blk_frozen BK172.out 0; have hfz12_1 := blk_frozen BK172.out 1; have hfz12_2 := blk_frozen BK172.out 2; have hfz12_3 := blk_frozen BK172.out 3; have hfz12_4 := blk_frozen BK172.out 4; have hfz12_5 := blk_frozen BK172.out 5; have hfz12_6 := blk_frozen BK172.out 6) | ((with_reducible refine gate_callee (f := 27) rfl ?_); refine goesL_ (some 28) rfl rfl Try.func27 (by kernel_rfl) rfl #[.agg #[.bool a0_0, .int .i64 a0_1, .int .i64 a0_2, .int .u64 a0_3, .int .u64 a0_4, .bool a0_5, .int .u64 x173006_3], .slice A1 l1.length c1, .int .u64 t173] rfl (by (try simp only [List.map_toArray, List.map_cons, List.map_nil]); first | done | rfl | (simp only [List.length_drop, List.length_take]; rfl)) ?_; (with_reducible refine (slice_Run.calls kj3 a0_0 a0_1 a0_2 a0_3 a0_4 a0_5 x173006_3 _ _ l1 t173 t174 t175 t176 t177 t178 t179 t180 t181 t182 _ ?side1 ?side2 A10.out).mono ?_); (case side1 => repeat (first | exact (Kd.C_below HR1.out HB.out) | (with_reducible refine Kd.C_alloc ?_ _) | (with_reducible refine Kd.C_drewN ?_ _) | (with_reducible refine Kd.C_drew ?_))); (case side2 => exact HC1.out); rintro e w13 ⟨rfl, hb⟩; refine ⟨_, rfl, ?_⟩; have n0_ := Aside0.mk (blk_below (g := gb172) (o := .cells #[.bool a0_0, .int .i64 a0_1, .int .i64 a0_2, .int .u64 a0_3, .int .u64 a0_4, .bool a0_5, .int .u64 x173006_3] 28 (0, 0)) (by (with_reducible repeat (first | refine blk_drewN ?_ _ | refine blk_drew ?_ | refine blk_alloc ?_ _)); exact BK172.out) hb); have n1_ := Aside0.mk (below_step (by repeat (first | (with_reducible first | exact HB.out | apply below_alloc | apply pw_below_drewN | apply below_drew1 | refine below_set ?_ GE172.out) | exact HB.out)) hb); clear BK172; clear HB; have BK172 := n0_; have HB := n1_; clear n0_ n1_; (try clear hb); (try clear hb2); (try clear hk); (try clear hi)) | ((with_reducible refine gate_dst (N := 9) rfl ?_); refine box_event ?hg (N := 9) ?hd (cs := #[.bool false, .int .i64 0, .int .i64 0, .int .u64 0, .int .u64 0, .bool false, .int .u64 0]) (t := 28) ?hr ?_; (case hd => rfl); (case hg => rfl); (case hr => first | (go_simp; done) | (go_simp; rfl)); intro gb183 hg w14 hbox hb; have n0_ := Aside0.mk (blk_below (g := gb172) (o := .cells #[.bool a0_0, .int .i64 a0_1, .int .i64 a0_2, .int .u64 a0_3, .int .u64 a0_4, .bool a0_5, .int .u64 x173006_3] 28 (0, 0)) (by (with_reducible repeat (first | refine blk_drewN ?_ _ | refine blk_drew ?_ | refine blk_alloc ?_ _)); exact BK172.out) hb); have n1_ := Aside0.mk (below_step (by repeat (first | (with_reducible first | exact HB.out | apply below_alloc | apply pw_below_drewN | apply below_drew1 | refine below_set ?_ GE172.out) | exact HB.out)) hb); have n2_ := Aside0.mk (hbox); have n3_ := Aside0.mk ((by rw [hg]; exact (below_size (by repeat (first | (with_reducible first | exact HB.out | apply below_alloc | apply pw_below_drewN | apply below_drew1 | refine below_set ?_ GE172.out) | exact HB.out))) : w.heap.size ≤ gb183)); have n4_ := Aside0.mk ((by rw [hg]; exact (below_size (by repeat (first | (with_reducible first | exact HB.out | apply below_alloc | apply pw_below_drewN | apply below_drew1 | refine below_set ?_ GE172.out) | exact HB.out))) : w.heap.size ≤ gb183)); have n5_ := Aside0.mk ((by rw [hg]; exact Nat.ne_of_lt (blk_lt (g := gb172) (o := .cells #[.bool a0_0, .int .i64 a0_1, .int .i64 a0_2, .int .u64 a0_3, .int .u64 a0_4, .bool a0_5, .int .u64 x173006_3] 28 (0, 0)) (by (with_reducible repeat (first | refine blk_drewN ?_ _ | refine blk_drew ?_ | refine blk_alloc ?_ _)); exact BK172.out)) : gb172 ≠ gb183)); have n6_ := Aside0.mk ((by rw [hg]; exact Nat.ne_of_gt (blk_lt (g := gb172) (o := .cells #[.bool a0_0, .int .i64 a0_1, .int .i64 a0_2, .int .u64 a0_3, .int .u64 a0_4, .bool a0_5, .int .u64 x173006_3] 28 (0, 0)) (by (with_reducible repeat (first | refine blk_drewN ?_ _ | refine blk_drew ?_ | refine blk_alloc ?_ _)); exact BK172.out)) : gb183 ≠ gb172)); clear BK172; clear HB; have BK172 := n0_; have HB := n1_; have BK183 := n2_; have GW183 := n3_; have GE183 := n4_; have NB172_183 := n5_; have NB183_172 := n6_; clear n0_ n1_ n2_ n3_ n4_ n5_ n6_; clear hb hbox hg; have hnb15 := NB183_172.out; have hnc15 := NB172_183.out; have hcz16_0 : w14.cell? ⟨gb183, 0, none⟩ = some (.bool false) := (blk_cell BK183.out 0).trans rfl; have hcz16_1 : w14.cell? ⟨gb183, 1, none⟩ = some (.int .i64 0) := (blk_cell BK183.out 1).trans rfl; have hcz16_2 : w14.cell? ⟨gb183, 2, none⟩ = some (.int .i64 0) := (blk_cell BK183.out 2).trans rfl; have hcz16_3 : w14.cell? ⟨gb183, 3, none⟩ = some (.int .u64 0) := (blk_cell BK183.out 3).trans rfl; have hcz16_4 : w14.cell? ⟨gb183, 4, none⟩ = some (.int .u64 0) := (blk_cell BK183.out 4).trans rfl; have hcz16_5 : w14.cell? ⟨gb183, 5, none⟩ = some (.bool false) := (blk_cell BK183.out 5).trans rfl; have hcz16_6 : w14.cell? ⟨gb183, 6, none⟩ = some (.int .u64 0) := (blk_cell BK183.out 6).trans rfl; have hfz16_0 := blk_frozen BK183.out 0; have hfz16_1 := blk_frozen BK183.out 1; have hfz16_2 := blk_frozen BK183.out 2; have hfz16_3 := blk_frozen BK183.out 3; have hfz16_4 := blk_frozen BK183.out 4; have hfz16_5 := blk_frozen BK183.out 5; have hfz16_6 := blk_frozen BK183.out 6))
      (try simp only [Act.put, List.setIfInBounds_toArray, List.set_cons_zero, List.set_cons_succ])
      go_cut [40] (fun v40 wc => ∃ (kq : Nat) (x40_10 : Bool), v40 = .bool x40_10 ∧ Aside0 (rotalaw22_SliceSplit.j1 kq l1 t173 t174 t175 x40_10 a0_0 a0_1 a0_2 a0_3 a0_4 a0_5 x173006_3 t176 t177 t178 t179 t180 t181 t182 = some r) ∧ Aside0 (kq ≤ kj3) ∧ Aside0 (wc.heap[gb172]? = some (.cells #[.bool a0_0, .int .i64 a0_1, .int .i64 a0_2, .int .u64 a0_3, .int .u64 a0_4, .bool a0_5, .int .u64 x173006_3] 28 (0, 0))) ∧ Aside0 (wc.heap[gb183]? = some (.cells #[.bool t176, .int .i64 t177, .int .i64 t178, .int .u64 t179, .int .u64 t180, .bool t181, .int .u64 t182] 28 (0, 0))) ∧ Aside0 (Below w.heap.size w wc))
      case first =>
        have H := HC11.out
        clear HC11
        by_cases c17 : t174 > (l1.length : Int)
        · rw [if_pos c17] at H
          have c17b0 : decide ((l1.length : Int) < t174) = true := decide_eq_true c17
          clear c17
          (first | rw [c17b0] | (simp only [i64_w, i32_w]; rw [c17b0]) | skip)
          have H' := Aside0.mk H
          clear H
          go_wp2
          go_meet
          case rel => exact ⟨_, (true), (by first | rfl | (simp; done) | (simp [*]; done)), H', ⟨by have := HJ3.out; first | omega | exact Nat.le_refl _⟩, ⟨by (with_reducible repeat (first | refine blk_drewN ?_ _ | refine blk_drew ?_ | refine blk_alloc ?_ _)); refine blk_far ?_ NB172_183.out _; (with_reducible repeat (first | refine blk_drewN ?_ _ | refine blk_drew ?_ | refine blk_alloc ?_ _)); refine blk_far ?_ NB172_183.out _; (with_reducible repeat (first | refine blk_drewN ?_ _ | refine blk_drew ?_ | refine blk_alloc ?_ _)); refine blk_far ?_ NB172_183.out _; (with_reducible repeat (first | refine blk_drewN ?_ _ | refine blk_drew ?_ | refine blk_alloc ?_ _)); refine blk_far ?_ NB172_183.out _; (with_reducible repeat (first | refine blk_drewN ?_ _ | refine blk_drew ?_ | refine blk_alloc ?_ _)); refine blk_far ?_ NB172_183.out _; (with_reducible repeat (first | refine blk_drewN ?_ _ | refine blk_drew ?_ | refine blk_alloc ?_ _)); refine blk_far ?_ NB172_183.out _; (with_reducible repeat (first | refine blk_drewN ?_ _ | refine blk_drew ?_ | refine blk_alloc ?_ _)); refine blk_far ?_ NB172_183.out _; (with_reducible repeat (first | refine blk_drewN ?_ _ | refine blk_drew ?_ | refine blk_alloc ?_ _)); exact BK172.out⟩, ⟨by (with_reducible repeat (first | refine blk_drewN ?_ _ | refine blk_drew ?_ | refine blk_alloc ?_ _)); refine blk_put (cs := #[.bool t176, .int .i64 t177, .int .i64 t178, .int .u64 t179, .int .u64 t180, .bool t181, .int .u64 0]) ?_ 6 _ rfl; (with_reducible repeat (first | refine blk_drewN ?_ _ | refine blk_drew ?_ | refine blk_alloc ?_ _)); refine blk_put (cs := #[.bool t176, .int .i64 t177, .int .i64 t178, .int .u64 t179, .int .u64 t180, .bool false, .int .u64 0]) ?_ 5 _ rfl; (with_reducible repeat (first | refine blk_drewN ?_ _ | refine blk_drew ?_ | refine blk_alloc ?_ _)); refine blk_put (cs := #[.bool t176, .int .i64 t177, .int .i64 t178, .int .u64 t179, .int .u64 0, .bool false, .int .u64 0]) ?_ 4 _ rfl; (with_reducible repeat (first | refine blk_drewN ?_ _ | refine blk_drew ?_ | refine blk_alloc ?_ _)); refine blk_put (cs := #[.bool t176, .int .i64 t177, .int .i64 t178, .int .u64 0, .int .u64 0, .bool false, .int .u64 0]) ?_ 3 _ rfl; (with_reducible repeat (first | refine blk_drewN ?_ _ | refine blk_drew ?_ | refine blk_alloc ?_ _)); refine blk_put (cs := #[.bool t176, .int .i64 t177, .int .i64 0, .int .u64 0, .int .u64 0, .bool false, .int .u64 0]) ?_ 2 _ rfl; (with_reducible repeat (first | refine blk_drewN ?_ _ | refine blk_drew ?_ | refine blk_alloc ?_ _)); refine blk_put (cs := #[.bool t176, .int .i64 0, .int .i64 0, .int .u64 0, .int .u64 0, .bool false, .int .u64 0]) ?_ 1 _ rfl; (with_reducible repeat (first | refine blk_drewN ?_ _ | refine blk_drew ?_ | refine blk_alloc ?_ _)); refine blk_put (cs := #[.bool false, .int .i64 0, .int .i64 0, .int .u64 0, .int .u64 0, .bool false, .int .u64 0]) ?_ 0 _ rfl; (with_reducible repeat (first | refine blk_drewN ?_ _ | refine blk_drew ?_ | refine blk_alloc ?_ _)); exact BK183.out⟩, ⟨by repeat (first | (with_reducible first | exact HB.out | apply below_alloc | apply pw_below_drewN | apply below_drew1 | refine below_set ?_ GE172.out | refine below_set ?_ GE183.out) | exact HB.out)⟩⟩
        · rw [if_neg c17] at H
          have c17b0 : decide ((l1.length : Int) < t174) = false := decide_eq_false c17
          clear c17
          (first | rw [c17b0] | (simp only [i64_w, i32_w]; rw [c17b0]) | skip)
          have H' := Aside0.mk H
          clear H
          go_wp2
          go_meet
          case rel => exact ⟨_, (decide (t175 > t173)), (by first | rfl | (simp; done) | (simp [*]; done)), H', ⟨by have := HJ3.out; first | omega | exact Nat.le_refl _⟩, ⟨by (with_reducible repeat (first | refine blk_drewN ?_ _ | refine blk_drew ?_ | refine blk_alloc ?_ _)); refine blk_far ?_ NB172_183.out _; (with_reducible repeat (first | refine blk_drewN ?_ _ | refine blk_drew ?_ | refine blk_alloc ?_ _)); refine blk_far ?_ NB172_183.out _; (with_reducible repeat (first | refine blk_drewN ?_ _ | refine blk_drew ?_ | refine blk_alloc ?_ _)); refine blk_far ?_ NB172_183.out _; (with_reducible repeat (first | refine blk_drewN ?_ _ | refine blk_drew ?_ | refine blk_alloc ?_ _)); refine blk_far ?_ NB172_183.out _; (with_reducible repeat (first | refine blk_drewN ?_ _ | refine blk_drew ?_ | refine blk_alloc ?_ _)); refine blk_far ?_ NB172_183.out _; (with_reducible repeat (first | refine blk_drewN ?_ _ | refine blk_drew ?_ | refine blk_alloc ?_ _)); refine blk_far ?_ NB172_183.out _; (with_reducible repeat (first | refine blk_drewN ?_ _ | refine blk_drew ?_ | refine blk_alloc ?_ _)); refine blk_far ?_ NB172_183.out _; (with_reducible repeat (first | refine blk_drewN ?_ _ | refine blk_drew ?_ | refine blk_alloc ?_ _)); exact BK172.out⟩, ⟨by (with_reducible repeat (first | refine blk_drewN ?_ _ | refine blk_drew ?_ | refine blk_alloc ?_ _)); refine blk_put (cs := #[.bool t176, .int .i64 t177, .int .i64 t178, .int .u64 t179, .int .u64 t180, .bool t181, .int .u64 0]) ?_ 6 _ rfl; (with_reducible repeat (first | refine blk_drewN ?_ _ | refine blk_drew ?_ | refine blk_alloc ?_ _)); refine blk_put (cs := #[.bool t176, .int .i64 t177, .int .i64 t178, .int .u64 t179, .int .u64 t180, .bool false, .int .u64 0]) ?_ 5 _ rfl; (with_reducible repeat (first | refine blk_drewN ?_ _ | refine blk_drew ?_ | refine blk_alloc ?_ _)); refine blk_put (cs := #[.bool t176, .int .i64 t177, .int .i64 t178, .int .u64 t179, .int .u64 0, .bool false, .int .u64 0]) ?_ 4 _ rfl; (with_reducible repeat (first | refine blk_drewN ?_ _ | refine blk_drew ?_ | refine blk_alloc ?_ _)); refine blk_put (cs := #[.bool t176, .int .i64 t177, .int .i64 t178, .int .u64 0, .int .u64 0, .bool false, .int .u64 0]) ?_ 3 _ rfl; (with_reducible repeat (first | refine blk_drewN ?_ _ | refine blk_drew ?_ | refine blk_alloc ?_ _)); refine blk_put (cs := #[.bool t176, .int .i64 t177, .int .i64 0, .int .u64 0, .int .u64 0, .bool false, .int .u64 0]) ?_ 2 _ rfl; (with_reducible repeat (first | refine blk_drewN ?_ _ | refine blk_drew ?_ | refine blk_alloc ?_ _)); refine blk_put (cs := #[.bool t176, .int .i64 0, .int .i64 0, .int .u64 0, .int .u64 0, .bool false, .int .u64 0]) ?_ 1 _ rfl; (with_reducible repeat (first | refine blk_drewN ?_ _ | refine blk_drew ?_ | refine blk_alloc ?_ _)); refine blk_put (cs := #[.bool false, .int .i64 0, .int .i64 0, .int .u64 0, .int .u64 0, .bool false, .int .u64 0]) ?_ 0 _ rfl; (with_reducible repeat (first | refine blk_drewN ?_ _ | refine blk_drew ?_ | refine blk_alloc ?_ _)); exact BK183.out⟩, ⟨by repeat (first | (with_reducible first | exact HB.out | apply below_alloc | apply pw_below_drewN | apply below_drew1 | refine below_set ?_ GE172.out | refine below_set ?_ GE183.out) | exact HB.out)⟩⟩
      case rest =>
        clear HC11
        try clear c1
        try clear c2
        try clear p2
        try clear c7
        try clear c7b0
        try clear c9
        try clear c15
        try clear c17
        try clear c17b0
        try clear hcz12_0
        try clear hcz12_1
        try clear hcz12_2
        try clear hcz12_3
        try clear hcz12_4
        try clear hcz12_5
        try clear hcz12_6
        try clear hcz16_0
        try clear hcz16_1
        try clear hcz16_2
        try clear hcz16_3
        try clear hcz16_4
        try clear hcz16_5
        try clear hcz16_6
        try clear hcz6_0
        try clear hcz6_1
        try clear hcz6_2
        try clear hcz6_3
        try clear hcz6_4
        try clear hcz6_5
        try clear hcz6_6
        try clear hcz8_0
        try clear hcz8_1
        try clear hcz8_2
        try clear hcz8_3
        try clear hcz8_4
        try clear hcz8_5
        try clear hcz8_6
        try clear hfz12_0
        try clear hfz12_1
        try clear hfz12_2
        try clear hfz12_3
        try clear hfz12_4
        try clear hfz12_5
        try clear hfz12_6
        try clear hfz16_0
        try clear hfz16_1
        try clear hfz16_2
        try clear hfz16_3
        try clear hfz16_4
        try clear hfz16_5
        try clear hfz16_6
        try clear hfz6_0
        try clear hfz6_1
        try clear hfz6_2
        try clear hfz6_3
        try clear hfz6_4
        try clear hfz6_5
        try clear hfz6_6
        try clear hfz8_0
        try clear hfz8_1
        try clear hfz8_2
        try clear hfz8_3
        try clear hfz8_4
        try clear hfz8_5
        try clear hfz8_6
        try clear p2
        obtain ⟨kq, x40_10, rfl, HA, HJ10, BK172, BK183, HB⟩ := hcut
        cases kq with
        | zero => exact absurd HA.out (by simp [rotalaw22_SliceSplit.j1])
        | succ kj10 =>
          have H := HA.out
          clear HA
          simp only [rotalaw22_SliceSplit.j1] at H
          by_cases c18 : x40_10 = true
          · subst c18
            have H1 : (some false) = some r := by rw [if_pos rfl] at H; exact H
            clear H
            have H := H1
            clear H1
            exact absurd (hr_.out ▸ H) (by decide)
          · replace c18 := Bool.eq_false_iff.mpr c18
            subst c18
            have H1 : (rotalaw22_SliceSplit.l0 kj10 l1 t173 t174 t175 0 a0_0 a0_1 a0_2 a0_3 a0_4 a0_5 x173006_3 t176 t177 t178 t179 t180 t181 t182) = some r := by rw [if_neg (show ¬ (false = true) by decide)] at H; exact H
            clear H
            have H := H1
            clear H1
            have H' := Aside0.mk H
            clear H
            go_wp2
            go_loopg [10] kj10 (fun kq v10 w' => ∃ (x10_3 : Int), v10 = .int .i64 x10_3 ∧ Aside0 (rotalaw22_SliceSplit.l0 kq l1 t173 t174 t175 x10_3 a0_0 a0_1 a0_2 a0_3 a0_4 a0_5 x173006_3 t176 t177 t178 t179 t180 t181 t182 = some r) ∧ Aside0 (kq ≤ kj10) ∧ Aside0 (w'.heap[gb172]? = some (.cells #[.bool a0_0, .int .i64 a0_1, .int .i64 a0_2, .int .u64 a0_3, .int .u64 a0_4, .bool a0_5, .int .u64 x173006_3] 28 (0, 0))) ∧ Aside0 (w'.heap[gb183]? = some (.cells #[.bool t176, .int .i64 t177, .int .i64 t178, .int .u64 t179, .int .u64 t180, .bool t181, .int .u64 t182] 28 (0, 0))) ∧ Aside0 (Below w.heap.size w w'))
            case atStart => exact ⟨(0), (by first | rfl | (simp; done) | (simp [*]; done)), H', ⟨Nat.le_refl _⟩, ⟨by (with_reducible repeat (first | refine blk_drewN ?_ _ | refine blk_drew ?_ | refine blk_alloc ?_ _)); exact BK172.out⟩, ⟨by (with_reducible repeat (first | refine blk_drewN ?_ _ | refine blk_drew ?_ | refine blk_alloc ?_ _)); exact BK183.out⟩, ⟨by repeat (first | (with_reducible first | exact HB.out | apply below_alloc | apply pw_below_drewN | apply below_drew1 | refine below_set ?_ GE172.out | refine below_set ?_ GE183.out) | exact HB.out)⟩⟩
            case round =>
              clear H'
              try clear c1
              try clear c2
              try clear p2
              try clear c7
              try clear c7b0
              try clear c9
              try clear c15
              try clear c17
              try clear c17b0
              try clear c18
              try clear hcz12_0
              try clear hcz12_1
              try clear hcz12_2
              try clear hcz12_3
              try clear hcz12_4
              try clear hcz12_5
              try clear hcz12_6
              try clear hcz16_0
              try clear hcz16_1
              try clear hcz16_2
              try clear hcz16_3
              try clear hcz16_4
              try clear hcz16_5
              try clear hcz16_6
              try clear hcz6_0
              try clear hcz6_1
              try clear hcz6_2
              try clear hcz6_3
              try clear hcz6_4
              try clear hcz6_5
              try clear hcz6_6
              try clear hcz8_0
              try clear hcz8_1
              try clear hcz8_2
              try clear hcz8_3
              try clear hcz8_4
              try clear hcz8_5
              try clear hcz8_6
              try clear hfz12_0
              try clear hfz12_1
              try clear hfz12_2
              try clear hfz12_3
              try clear hfz12_4
              try clear hfz12_5
              try clear hfz12_6
              try clear hfz16_0
              try clear hfz16_1
              try clear hfz16_2
              try clear hfz16_3
              try clear hfz16_4
              try clear hfz16_5
              try clear hfz16_6
              try clear hfz6_0
              try clear hfz6_1
              try clear hfz6_2
              try clear hfz6_3
              try clear hfz6_4
              try clear hfz6_5
              try clear hfz6_6
              try clear hfz8_0
              try clear hfz8_1
              try clear hfz8_2
              try clear hfz8_3
              try clear hfz8_4
              try clear hfz8_5
              try clear hfz8_6
              try clear p2
              obtain ⟨x10_3, rfl, HA, HK3, BK172, BK183, HB⟩ := hrel
              cases gk with
              | zero => exact absurd HA.out (by simp [rotalaw22_SliceSplit.l0])
              | succ k3 =>
                have H := HA.out
                clear HA
                simp only [rotalaw22_SliceSplit.l0] at H
                by_cases c19 : x10_3 ≤ t174
                · rw [if_pos c19] at H
                  have c19b0 : decide (x10_3 ≤ t174) = true := decide_eq_true c19
                  clear c19
                  by_cases c20 : 0 ≤ x10_3
                  · rw [if_pos c20] at H
                    have c20b0 := eq_true c20
                    have c20b1 : decide (0 ≤ x10_3) = true := decide_eq_true c20
                    clear c20
                    by_cases c21 : x10_3 ≤ (l1.length : Int)
                    · rw [if_pos c21] at H
                      have c21b0 := eq_true c21
                      have c21b1 : decide (x10_3 ≤ (l1.length : Int)) = true := decide_eq_true c21
                      clear c21
                      replace H := Option.bind_eq_some_iff.mp H
                      obtain ⟨⟨t186, t187, t188, t189, t190, t191, t192, t193, t194⟩, A220, H⟩ := H
                      replace H : (if 0 ≤ t186 then (if t186 ≤ (l1.length : Int) then ((slice_Run.f k3 t188 t189 t190 t191 t192 t193 t194 (l1.drop (t186 : Int).toNat) (IntKind.u64.wrap (t173 - t187))).bind fun bt197 => (if t186 = x10_3 then (if (wrap64 (t186 + bt197.1)) = t174 then (if (IntKind.u64.wrap (t187 + bt197.2.1)) = t175 then (if (!(bt197.2.2.1 == t176) || (((!(bt197.2.2.2.1 == t177) || (!(bt197.2.2.2.2.1 == t178))) || (!(bt197.2.2.2.2.2.1 == t179))) || (!(bt197.2.2.2.2.2.2.1 == t180) || (!(bt197.2.2.2.2.2.2.2.1 == t181) || (!(bt197.2.2.2.2.2.2.2.2 == t182)))))) = true then (some false) else (rotalaw22_SliceSplit.l0 k3 l1 t173 t174 t175 (wrap64 (x10_3 + 1)) a0_0 a0_1 a0_2 a0_3 a0_4 a0_5 x173006_3 t176 t177 t178 t179 t180 t181 t182)) else (some false)) else (some false)) else (some false))) else (none)) else (none)) = some r := H
                      have A22 := Aside0.mk A220
                      clear A220
                      by_cases c23 : 0 ≤ t186
                      · rw [if_pos c23] at H
                        have c23b0 := eq_true c23
                        have c23b1 : decide (0 ≤ t186) = true := decide_eq_true c23
                        clear c23
                        by_cases c24 : t186 ≤ (l1.length : Int)
                        · rw [if_pos c24] at H
                          have c24b0 := eq_true c24
                          have c24b1 : decide (t186 ≤ (l1.length : Int)) = true := decide_eq_true c24
                          clear c24
                          replace H := Option.bind_eq_some_iff.mp H
                          obtain ⟨⟨t197, t198, t199, t200, t201, t202, t203, t204, t205⟩, A250, H⟩ := H
                          replace H : (if t186 = x10_3 then (if (wrap64 (t186 + t197)) = t174 then (if (IntKind.u64.wrap (t187 + t198)) = t175 then (if (!(t199 == t176) || (((!(t200 == t177) || (!(t201 == t178))) || (!(t202 == t179))) || (!(t203 == t180) || (!(t204 == t181) || (!(t205 == t182)))))) = true then (some false) else (rotalaw22_SliceSplit.l0 k3 l1 t173 t174 t175 (wrap64 (x10_3 + 1)) a0_0 a0_1 a0_2 a0_3 a0_4 a0_5 x173006_3 t176 t177 t178 t179 t180 t181 t182)) else (some false)) else (some false)) else (some false)) = some r := H
                          have A25 := Aside0.mk A250
                          clear A250
                          by_cases c26 : t186 = x10_3
                          · rw [if_pos c26] at H
                            have c26b0 : (t186 == x10_3) = true := beq_iff_eq.mpr c26
                            have c26b1 : (t186 != x10_3) = false := bne_eq_false_iff_eq.mpr c26
                            clear c26
                            by_cases c27 : (wrap64 (t186 + t197)) = t174
                            · rw [if_pos c27] at H
                              have c27b0 : ((wrap64 (t186 + t197)) == t174) = true := beq_iff_eq.mpr c27
                              have c27b1 : ((wrap64 (t186 + t197)) != t174) = false := bne_eq_false_iff_eq.mpr c27
                              clear c27
                              by_cases c28 : (IntKind.u64.wrap (t187 + t198)) = t175
                              · rw [if_pos c28] at H
                                have c28b0 : ((IntKind.u64.wrap (t187 + t198)) == t175) = true := beq_iff_eq.mpr c28
                                have c28b1 : ((IntKind.u64.wrap (t187 + t198)) != t175) = false := bne_eq_false_iff_eq.mpr c28
                                clear c28
                                by_cases c29 : (!(t199 == t176) || (((!(t200 == t177) || (!(t201 == t178))) || (!(t202 == t179))) || (!(t203 == t180) || (!(t204 == t181) || (!(t205 == t182)))))) = true
                                · rw [if_pos c29] at H
                                  have c29b0 : (!(t199 == t176) || (((!(t200 == t177) || (!(t201 == t178))) || (!(t202 == t179))) || (!(t203 == t180) || (!(t204 == t181) || (!(t205 == t182)))))) = true := c29
                                  clear c29
                                  exact absurd (hr_.out ▸ H) (by decide)
                                · rw [if_neg c29] at H
                                  have c29b0 : (!(t199 == t176) || (((!(t200 == t177) || (!(t201 == t178))) || (!(t202 == t179))) || (!(t203 == t180) || (!(t204 == t181) || (!(t205 == t182)))))) = false := by simpa using c29
                                  clear c29
                                  have H' := Aside0.mk H
                                  clear H
                                  try go_wp2
                                  have n0_ := Aside0.mk (blk_drew BK172.out)
                                  have n1_ := Aside0.mk (blk_drew BK183.out)
                                  have n2_ := Aside0.mk (below_drew1 HB.out)
                                  clear BK172
                                  clear BK183
                                  clear HB
                                  have BK172 := n0_
                                  have BK183 := n1_
                                  have HB := n2_
                                  clear n0_ n1_ n2_
                                  obtain ⟨i031, hi031, _, hsz31, _⟩ := info_parts info24
                                  obtain ⟨hcut31, hA31, hC31⟩ := print_take_of (P := Try.prog) (Value.int .u64) 0 47 24 .i64 Try.underlying47 hi031 hsz31 A1 c1 l1 x10_3 (of_decide_eq_true (by first | (with_reducible assumption) | assumption)) (of_decide_eq_true (by first | (with_reducible assumption) | assumption)) HC1.out
                                  have HR185 := Aside0.mk (Kd.C_of_reads (h1 := fun _ => rfl) (hA31 _ (Kd.reads_of_C HR1.out)))
                                  have HC185 := Aside0.mk hC31
                                  clear hA31 hC31 hi031 hsz31
                                  refine start_ (n := 14) (S := fun w' => w'.cell? ⟨gb172, 0, none⟩ = some (.bool a0_0) ∧ w'.cell? ⟨gb172, 1, none⟩ = some (.int .i64 a0_1) ∧ w'.cell? ⟨gb172, 2, none⟩ = some (.int .i64 a0_2) ∧ w'.cell? ⟨gb172, 3, none⟩ = some (.int .u64 a0_3) ∧ w'.cell? ⟨gb172, 4, none⟩ = some (.int .u64 a0_4) ∧ w'.cell? ⟨gb172, 5, none⟩ = some (.bool a0_5) ∧ w'.cell? ⟨gb172, 6, none⟩ = some (.int .u64 x173006_3)) (ds := []) #[false, false, false, false, false, false, false, false, false, false, false, false, false, false] (by kernel_rfl) rfl rfl ⟨(blk_cell BK172.out 0).trans rfl, (blk_cell BK172.out 1).trans rfl, (blk_cell BK172.out 2).trans rfl, (blk_cell BK172.out 3).trans rfl, (blk_cell BK172.out 4).trans rfl, (blk_cell BK172.out 5).trans rfl, (blk_cell BK172.out 6).trans rfl⟩ (fun hHeld => ?_); refine with_tabW rotalaw22_SliceSplit.tab10 rotalaw22_SliceSplit.bits10 (fun HT_ HW_ => ?_)
                                  generalize wr.drew = w30 at BK172 BK183 HB HR185 hHeld ⊢
                                  refine pure_ (i := 1) (N := some 48) (v := ?_) (a' := ?_) #[false, true, false, false, false, false, false, false, false, false, false, false, false, false] rfl rfl (any_of HT_.out (by kernel_rfl)) (fun _ _ _ h => h) (Or.inl ⟨by rfl, ?_⟩) ?_ ?_
                                  rotate_left
                                  · intro w'
                                    go_simp
                                    with_reducible rfl
                                  rotate_left
                                  · simp only [Act.put, List.setIfInBounds_toArray, List.set_cons_zero, List.set_cons_succ, i64_w, i32_w]
                                    rfl
                                  refine pure_ (i := 2) (N := some 49) (v := ?_) (a' := ?_) #[false, true, true, false, false, false, false, false, false, false, false, false, false, false] rfl rfl (any_of HT_.out (by kernel_rfl)) (fun _ _ _ h => h) (Or.inl ⟨by rfl, ?_⟩) ?_ ?_
                                  rotate_left
                                  · intro w'
                                    go_simp
                                    with_reducible rfl
                                  rotate_left
                                  · simp only [Act.put, List.setIfInBounds_toArray, List.set_cons_zero, List.set_cons_succ, i64_w, i32_w]
                                    rfl
                                  refine pure_ (i := 3) (N := some 50) (v := ?_) (a' := ?_) #[false, true, true, true, false, false, false, false, false, false, false, false, false, false] rfl rfl (any_of HT_.out (by kernel_rfl)) (fun _ _ _ h => h) (Or.inl ⟨by rfl, ?_⟩) ?_ ?_
                                  rotate_left
                                  · intro w'
                                    go_simp
                                    with_reducible rfl
                                  rotate_left
                                  · simp only [Act.put, List.setIfInBounds_toArray, List.set_cons_zero, List.set_cons_succ, i64_w, i32_w]
                                    rfl
                                  refine pure_ (i := 4) (N := some 51) (v := ?_) (a' := ?_) #[false, true, true, true, true, false, false, false, false, false, false, false, false, false] rfl rfl (any_of HT_.out (by kernel_rfl)) (fun _ _ _ h => h) (Or.inl ⟨by rfl, ?_⟩) ?_ ?_
                                  rotate_left
                                  · intro w'
                                    go_simp
                                    with_reducible rfl
                                  rotate_left
                                  · simp only [Act.put, List.setIfInBounds_toArray, List.set_cons_zero, List.set_cons_succ, i64_w, i32_w]
                                    rfl
                                  refine take_ (i := 0) (N := some 47) (v := ?_) (a' := ?_) #[true, true, true, true, true, false, false, false, false, false, false, false, false, false] rfl rfl (take_ofW HT_.out HW_.out (by kernel_rfl)) (fun _ _ _ h => h) (Or.inl ⟨by rfl, ?_⟩) hHeld ?_ ?_
                                  rotate_left
                                  · rintro w' ⟨s0, s1, s2, s3, s4, s5, s6⟩
                                    go_simp
                                    with_reducible rfl
                                  rotate_left
                                  · simp only [Act.put, List.setIfInBounds_toArray, List.set_cons_zero, List.set_cons_succ, i64_w, i32_w]
                                    rfl
                                  refine join_ (σ := Nat) 3 #[true, true, true, true, true, true, true, true, true, true, true, false, false, false] (fun s_ => [(52, .tuple #[.int .i64 t186, .int .u64 t187, .agg #[.bool t188, .int .i64 t189, .int .i64 t190, .int .u64 t191, .int .u64 t192, .bool t193, .int .u64 t194]]), (13, .pointer (some ⟨s_, 0, none⟩)), (46, .tuple #[.int .i64 t186, .int .u64 t187, .agg #[.bool t188, .int .i64 t189, .int .i64 t190, .int .u64 t191, .int .u64 t192, .bool t193, .int .u64 t194]]), (53, .int .i64 t186), (54, .int .u64 t187), (55, .agg #[.bool t188, .int .i64 t189, .int .i64 t190, .int .u64 t191, .int .u64 t192, .bool t193, .int .u64 t194])]) (fun s_ w' => (w'.cell? ⟨gb172, 0, none⟩ = some (.bool a0_0) ∧ w'.cell? ⟨gb172, 1, none⟩ = some (.int .i64 a0_1) ∧ w'.cell? ⟨gb172, 2, none⟩ = some (.int .i64 a0_2) ∧ w'.cell? ⟨gb172, 3, none⟩ = some (.int .u64 a0_3) ∧ w'.cell? ⟨gb172, 4, none⟩ = some (.int .u64 a0_4) ∧ w'.cell? ⟨gb172, 5, none⟩ = some (.bool a0_5) ∧ w'.cell? ⟨gb172, 6, none⟩ = some (.int .u64 x173006_3)) ∧ (w'.heap[gb172]? = some (.cells #[.bool a0_0, .int .i64 a0_1, .int .i64 a0_2, .int .u64 a0_3, .int .u64 a0_4, .bool a0_5, .int .u64 x173006_3] 28 (0, 0))) ∧ (w'.heap[gb183]? = some (.cells #[.bool t176, .int .i64 t177, .int .i64 t178, .int .u64 t179, .int .u64 t180, .bool t181, .int .u64 t182] 28 (0, 0))) ∧ (w'.heap[s_]? = some (.cells #[.bool false, .int .i64 0, .int .i64 0, .int .u64 0, .int .u64 0, .bool false, .int .u64 0] 28 (0, 0))) ∧ (w.heap.size ≤ s_) ∧ (w.heap.size ≤ s_) ∧ (gb172 ≠ s_) ∧ (s_ ≠ gb172) ∧ (gb183 ≠ s_) ∧ (s_ ≠ gb183) ∧ (Below w.heap.size w w')) ?_ ?_
                                  rotate_left
                                  · intro hCont
                                    refine two_ (i := 5) (j := 10) (Ni := some 52) (Nj := some 13) #[true, true, true, true, true, true, false, false, false, false, false, false, false, false] #[true, true, true, true, true, false, false, false, false, false, true, false, false, false] rfl rfl rfl rfl (two_of HT_.out (by kernel_rfl)) (by decide) (by decide) (fun K hK => ?_) (fun K hK => ?_)
                                    · skip
                                      refine goes_ Try.func27 (by kernel_rfl) rfl #[.agg #[.bool a0_0, .int .i64 a0_1, .int .i64 a0_2, .int .u64 a0_3, .int .u64 a0_4, .bool a0_5, .int .u64 x173006_3], .slice A1 (l1.take (x10_3 : Int).toNat).length c1, .int .u64 t173] (by rfl) rfl rfl (by (try simp only [List.map_toArray, List.map_cons, List.map_nil]); first | done | (rw [show (l1.take (x10_3 : Int).toNat).length = x10_3.toNat from (by rw [List.length_take]; have h_ : (x10_3 : Int) ≤ (l1.length : Int) := of_decide_eq_true (by first | (with_reducible assumption) | assumption); omega)] <;> rfl) | rfl | (simp only [List.length_drop, List.length_take]; rfl)) ?_
                                      with_reducible refine (slice_Run.calls k3 a0_0 a0_1 a0_2 a0_3 a0_4 a0_5 x173006_3 _ _ (l1.take (x10_3 : Int).toNat) t173 t186 t187 t188 t189 t190 t191 t192 t193 t194 _ ?side1 ?side2 A22.out).mono ?_
                                      (case side1 => repeat (first | exact (Kd.C_below HR185.out HB.out) | (with_reducible refine Kd.C_alloc ?_ _) | (with_reducible refine Kd.C_drewN ?_ _) | (with_reducible refine Kd.C_drew ?_)))
                                      (case side2 => exact HC185.out)
                                      rintro e w32 ⟨rfl, hb⟩
                                      refine ⟨_, rfl, ?_⟩
                                      have n0_ := Aside0.mk (blk_below (g := gb172) (o := .cells #[.bool a0_0, .int .i64 a0_1, .int .i64 a0_2, .int .u64 a0_3, .int .u64 a0_4, .bool a0_5, .int .u64 x173006_3] 28 (0, 0)) (by (with_reducible repeat (first | refine blk_drewN ?_ _ | refine blk_drew ?_ | refine blk_alloc ?_ _)); exact BK172.out) hb)
                                      have n1_ := Aside0.mk (blk_below (g := gb183) (o := .cells #[.bool t176, .int .i64 t177, .int .i64 t178, .int .u64 t179, .int .u64 t180, .bool t181, .int .u64 t182] 28 (0, 0)) (by (with_reducible repeat (first | refine blk_drewN ?_ _ | refine blk_drew ?_ | refine blk_alloc ?_ _)); exact BK183.out) hb)
                                      have n2_ := Aside0.mk (below_step (by repeat (first | (with_reducible first | exact HB.out | apply below_alloc | apply pw_below_drewN | apply below_drew1 | refine below_set ?_ GE172.out | refine below_set ?_ GE183.out) | exact HB.out)) hb)
                                      clear BK172
                                      clear BK183
                                      clear HB
                                      have BK172 := n0_
                                      have BK183 := n1_
                                      have HB := n2_
                                      clear n0_ n1_ n2_
                                      (try clear hb)
                                      (try clear hb2)
                                      (try clear hk)
                                      (try clear hi)
                                      refine hK.out _ _ ⟨(blk_cell BK172.out 0).trans rfl, (blk_cell BK172.out 1).trans rfl, (blk_cell BK172.out 2).trans rfl, (blk_cell BK172.out 3).trans rfl, (blk_cell BK172.out 4).trans rfl, (blk_cell BK172.out 5).trans rfl, (blk_cell BK172.out 6).trans rfl⟩ (fun hHeld => ?_)
                                      clear hK K
                                      refine norm_ (a' := ?_) ?_ ?_
                                      rotate_left
                                      · show Act.put _ (some 52) _ = _
                                        simp only [Act.put, List.setIfInBounds_toArray, List.set_cons_zero, List.set_cons_succ, i64_w, i32_w]
                                        rfl
                                      refine pure_ (i := 6) (N := some 46) (v := ?_) (a' := ?_) #[true, true, true, true, true, true, true, false, false, false, false, false, false, false] rfl rfl (any_of HT_.out (by kernel_rfl)) (fun _ _ _ h => h) (Or.inl ⟨by rfl, ?_⟩) ?_ ?_
                                      rotate_left
                                      · intro w'
                                        go_simp
                                        with_reducible rfl
                                      rotate_left
                                      · simp only [Act.put, List.setIfInBounds_toArray, List.set_cons_zero, List.set_cons_succ, i64_w, i32_w]
                                        rfl
                                      refine pure_ (i := 7) (N := some 53) (v := ?_) (a' := ?_) #[true, true, true, true, true, true, true, true, false, false, false, false, false, false] rfl rfl (any_of HT_.out (by kernel_rfl)) (fun _ _ _ h => h) (Or.inl ⟨by rfl, ?_⟩) ?_ ?_
                                      rotate_left
                                      · intro w'
                                        go_simp
                                        with_reducible rfl
                                      rotate_left
                                      · simp only [Act.put, List.setIfInBounds_toArray, List.set_cons_zero, List.set_cons_succ, i64_w, i32_w]
                                        rfl
                                      refine pure_ (i := 8) (N := some 54) (v := ?_) (a' := ?_) #[true, true, true, true, true, true, true, true, true, false, false, false, false, false] rfl rfl (any_of HT_.out (by kernel_rfl)) (fun _ _ _ h => h) (Or.inl ⟨by rfl, ?_⟩) ?_ ?_
                                      rotate_left
                                      · intro w'
                                        go_simp
                                        with_reducible rfl
                                      rotate_left
                                      · simp only [Act.put, List.setIfInBounds_toArray, List.set_cons_zero, List.set_cons_succ, i64_w, i32_w]
                                        rfl
                                      refine pure_ (i := 9) (N := some 55) (v := ?_) (a' := ?_) #[true, true, true, true, true, true, true, true, true, true, false, false, false, false] rfl rfl (any_of HT_.out (by kernel_rfl)) (fun _ _ _ h => h) (Or.inl ⟨by rfl, ?_⟩) ?_ ?_
                                      rotate_left
                                      · intro w'
                                        go_simp
                                        with_reducible rfl
                                      rotate_left
                                      · simp only [Act.put, List.setIfInBounds_toArray, List.set_cons_zero, List.set_cons_succ, i64_w, i32_w]
                                        rfl
                                      refine one_ (i := 10) (N := some 13) #[true, true, true, true, true, true, true, true, true, true, true, false, false, false] rfl rfl (one_of HT_.out (by kernel_rfl)) (by decide) (fun K hK => ?_)
                                      refine box_step ?hg (N := 13) ?hd (cs := #[.bool false, .int .i64 0, .int .i64 0, .int .u64 0, .int .u64 0, .bool false, .int .u64 0]) (t := 28) ?hr ?_; (case hd => rfl); (case hg => rfl); (case hr => first | (go_simp; done) | (go_simp; rfl))
                                      intro gb195 hg w33 hbox hb
                                      have n0_ := Aside0.mk (blk_below (g := gb172) (o := .cells #[.bool a0_0, .int .i64 a0_1, .int .i64 a0_2, .int .u64 a0_3, .int .u64 a0_4, .bool a0_5, .int .u64 x173006_3] 28 (0, 0)) (by (with_reducible repeat (first | refine blk_drewN ?_ _ | refine blk_drew ?_ | refine blk_alloc ?_ _)); exact BK172.out) hb)
                                      have n1_ := Aside0.mk (blk_below (g := gb183) (o := .cells #[.bool t176, .int .i64 t177, .int .i64 t178, .int .u64 t179, .int .u64 t180, .bool t181, .int .u64 t182] 28 (0, 0)) (by (with_reducible repeat (first | refine blk_drewN ?_ _ | refine blk_drew ?_ | refine blk_alloc ?_ _)); exact BK183.out) hb)
                                      have n2_ := Aside0.mk (below_step (by repeat (first | (with_reducible first | exact HB.out | apply below_alloc | apply pw_below_drewN | apply below_drew1 | refine below_set ?_ GE172.out | refine below_set ?_ GE183.out) | exact HB.out)) hb)
                                      have n3_ := Aside0.mk (hbox)
                                      have n4_ := Aside0.mk ((by rw [hg]; exact (below_size (by repeat (first | (with_reducible first | exact HB.out | apply below_alloc | apply pw_below_drewN | apply below_drew1 | refine below_set ?_ GE172.out | refine below_set ?_ GE183.out) | exact HB.out))) : w.heap.size ≤ gb195))
                                      have n5_ := Aside0.mk ((by rw [hg]; exact (below_size (by repeat (first | (with_reducible first | exact HB.out | apply below_alloc | apply pw_below_drewN | apply below_drew1 | refine below_set ?_ GE172.out | refine below_set ?_ GE183.out) | exact HB.out))) : w.heap.size ≤ gb195))
                                      have n6_ := Aside0.mk ((by rw [hg]; exact Nat.ne_of_lt (blk_lt (g := gb172) (o := .cells #[.bool a0_0, .int .i64 a0_1, .int .i64 a0_2, .int .u64 a0_3, .int .u64 a0_4, .bool a0_5, .int .u64 x173006_3] 28 (0, 0)) (by (with_reducible repeat (first | refine blk_drewN ?_ _ | refine blk_drew ?_ | refine blk_alloc ?_ _)); exact BK172.out)) : gb172 ≠ gb195))
                                      have n7_ := Aside0.mk ((by rw [hg]; exact Nat.ne_of_gt (blk_lt (g := gb172) (o := .cells #[.bool a0_0, .int .i64 a0_1, .int .i64 a0_2, .int .u64 a0_3, .int .u64 a0_4, .bool a0_5, .int .u64 x173006_3] 28 (0, 0)) (by (with_reducible repeat (first | refine blk_drewN ?_ _ | refine blk_drew ?_ | refine blk_alloc ?_ _)); exact BK172.out)) : gb195 ≠ gb172))
                                      have n8_ := Aside0.mk ((by rw [hg]; exact Nat.ne_of_lt (blk_lt (g := gb183) (o := .cells #[.bool t176, .int .i64 t177, .int .i64 t178, .int .u64 t179, .int .u64 t180, .bool t181, .int .u64 t182] 28 (0, 0)) (by (with_reducible repeat (first | refine blk_drewN ?_ _ | refine blk_drew ?_ | refine blk_alloc ?_ _)); exact BK183.out)) : gb183 ≠ gb195))
                                      have n9_ := Aside0.mk ((by rw [hg]; exact Nat.ne_of_gt (blk_lt (g := gb183) (o := .cells #[.bool t176, .int .i64 t177, .int .i64 t178, .int .u64 t179, .int .u64 t180, .bool t181, .int .u64 t182] 28 (0, 0)) (by (with_reducible repeat (first | refine blk_drewN ?_ _ | refine blk_drew ?_ | refine blk_alloc ?_ _)); exact BK183.out)) : gb195 ≠ gb183))
                                      clear BK172
                                      clear BK183
                                      clear HB
                                      have BK172 := n0_
                                      have BK183 := n1_
                                      have HB := n2_
                                      have BK195 := n3_
                                      have GW195 := n4_
                                      have GE195 := n5_
                                      have NB172_195 := n6_
                                      have NB195_172 := n7_
                                      have NB183_195 := n8_
                                      have NB195_183 := n9_
                                      clear n0_ n1_ n2_ n3_ n4_ n5_ n6_ n7_ n8_ n9_
                                      clear hb hbox hg
                                      refine hK.out _ _ ⟨(blk_cell BK172.out 0).trans rfl, (blk_cell BK172.out 1).trans rfl, (blk_cell BK172.out 2).trans rfl, (blk_cell BK172.out 3).trans rfl, (blk_cell BK172.out 4).trans rfl, (blk_cell BK172.out 5).trans rfl, (blk_cell BK172.out 6).trans rfl⟩ (fun hHeld => ?_)
                                      clear hK K
                                      refine norm_ (a' := ?_) ?_ ?_
                                      rotate_left
                                      · show Act.put _ (some 13) _ = _
                                        simp only [Act.put, List.setIfInBounds_toArray, List.set_cons_zero, List.set_cons_succ, i64_w, i32_w]
                                        rfl
                                      exact norm_ (by simp only [putAll, Act.put, List.setIfInBounds_toArray, List.set_cons_zero, List.set_cons_succ]) (hCont (gb195) _ ⟨hHeld, (by (with_reducible repeat (first | refine blk_drewN ?_ _ | refine blk_drew ?_ | refine blk_alloc ?_ _)); exact BK172.out), (by (with_reducible repeat (first | refine blk_drewN ?_ _ | refine blk_drew ?_ | refine blk_alloc ?_ _)); exact BK183.out), (by (with_reducible repeat (first | refine blk_drewN ?_ _ | refine blk_drew ?_ | refine blk_alloc ?_ _)); exact BK195.out), GW195.out, GE195.out, NB172_195.out, NB195_172.out, NB183_195.out, NB195_183.out, (by repeat (first | (with_reducible first | exact HB.out | apply below_alloc | apply pw_below_drewN | apply below_drew1 | refine below_set ?_ GE172.out | refine below_set ?_ GE183.out | refine below_set ?_ GE195.out) | exact HB.out))⟩)
                                    · skip
                                      refine box_step ?hg (N := 13) ?hd (cs := #[.bool false, .int .i64 0, .int .i64 0, .int .u64 0, .int .u64 0, .bool false, .int .u64 0]) (t := 28) ?hr ?_; (case hd => rfl); (case hg => rfl); (case hr => first | (go_simp; done) | (go_simp; rfl))
                                      intro gb195 hg w32 hbox hb
                                      have n0_ := Aside0.mk (blk_below (g := gb172) (o := .cells #[.bool a0_0, .int .i64 a0_1, .int .i64 a0_2, .int .u64 a0_3, .int .u64 a0_4, .bool a0_5, .int .u64 x173006_3] 28 (0, 0)) (by (with_reducible repeat (first | refine blk_drewN ?_ _ | refine blk_drew ?_ | refine blk_alloc ?_ _)); exact BK172.out) hb)
                                      have n1_ := Aside0.mk (blk_below (g := gb183) (o := .cells #[.bool t176, .int .i64 t177, .int .i64 t178, .int .u64 t179, .int .u64 t180, .bool t181, .int .u64 t182] 28 (0, 0)) (by (with_reducible repeat (first | refine blk_drewN ?_ _ | refine blk_drew ?_ | refine blk_alloc ?_ _)); exact BK183.out) hb)
                                      have n2_ := Aside0.mk (below_step (by repeat (first | (with_reducible first | exact HB.out | apply below_alloc | apply pw_below_drewN | apply below_drew1 | refine below_set ?_ GE172.out | refine below_set ?_ GE183.out) | exact HB.out)) hb)
                                      have n3_ := Aside0.mk (hbox)
                                      have n4_ := Aside0.mk ((by rw [hg]; exact (below_size (by repeat (first | (with_reducible first | exact HB.out | apply below_alloc | apply pw_below_drewN | apply below_drew1 | refine below_set ?_ GE172.out | refine below_set ?_ GE183.out) | exact HB.out))) : w.heap.size ≤ gb195))
                                      have n5_ := Aside0.mk ((by rw [hg]; exact (below_size (by repeat (first | (with_reducible first | exact HB.out | apply below_alloc | apply pw_below_drewN | apply below_drew1 | refine below_set ?_ GE172.out | refine below_set ?_ GE183.out) | exact HB.out))) : w.heap.size ≤ gb195))
                                      have n6_ := Aside0.mk ((by rw [hg]; exact Nat.ne_of_lt (blk_lt (g := gb172) (o := .cells #[.bool a0_0, .int .i64 a0_1, .int .i64 a0_2, .int .u64 a0_3, .int .u64 a0_4, .bool a0_5, .int .u64 x173006_3] 28 (0, 0)) (by (with_reducible repeat (first | refine blk_drewN ?_ _ | refine blk_drew ?_ | refine blk_alloc ?_ _)); exact BK172.out)) : gb172 ≠ gb195))
                                      have n7_ := Aside0.mk ((by rw [hg]; exact Nat.ne_of_gt (blk_lt (g := gb172) (o := .cells #[.bool a0_0, .int .i64 a0_1, .int .i64 a0_2, .int .u64 a0_3, .int .u64 a0_4, .bool a0_5, .int .u64 x173006_3] 28 (0, 0)) (by (with_reducible repeat (first | refine blk_drewN ?_ _ | refine blk_drew ?_ | refine blk_alloc ?_ _)); exact BK172.out)) : gb195 ≠ gb172))
                                      have n8_ := Aside0.mk ((by rw [hg]; exact Nat.ne_of_lt (blk_lt (g := gb183) (o := .cells #[.bool t176, .int .i64 t177, .int .i64 t178, .int .u64 t179, .int .u64 t180, .bool t181, .int .u64 t182] 28 (0, 0)) (by (with_reducible repeat (first | refine blk_drewN ?_ _ | refine blk_drew ?_ | refine blk_alloc ?_ _)); exact BK183.out)) : gb183 ≠ gb195))
                                      have n9_ := Aside0.mk ((by rw [hg]; exact Nat.ne_of_gt (blk_lt (g := gb183) (o := .cells #[.bool t176, .int .i64 t177, .int .i64 t178, .int .u64 t179, .int .u64 t180, .bool t181, .int .u64 t182] 28 (0, 0)) (by (with_reducible repeat (first | refine blk_drewN ?_ _ | refine blk_drew ?_ | refine blk_alloc ?_ _)); exact BK183.out)) : gb195 ≠ gb183))
                                      clear BK172
                                      clear BK183
                                      clear HB
                                      have BK172 := n0_
                                      have BK183 := n1_
                                      have HB := n2_
                                      have BK195 := n3_
                                      have GW195 := n4_
                                      have GE195 := n5_
                                      have NB172_195 := n6_
                                      have NB195_172 := n7_
                                      have NB183_195 := n8_
                                      have NB195_183 := n9_
                                      clear n0_ n1_ n2_ n3_ n4_ n5_ n6_ n7_ n8_ n9_
                                      clear hb hbox hg
                                      refine hK.out _ _ ⟨(blk_cell BK172.out 0).trans rfl, (blk_cell BK172.out 1).trans rfl, (blk_cell BK172.out 2).trans rfl, (blk_cell BK172.out 3).trans rfl, (blk_cell BK172.out 4).trans rfl, (blk_cell BK172.out 5).trans rfl, (blk_cell BK172.out 6).trans rfl⟩ (fun hHeld => ?_)
                                      clear hK K
                                      refine norm_ (a' := ?_) ?_ ?_
                                      rotate_left
                                      · show Act.put _ (some 13) _ = _
                                        simp only [Act.put, List.setIfInBounds_toArray, List.set_cons_zero, List.set_cons_succ, i64_w, i32_w]
                                        rfl
                                      refine one_ (i := 5) (N := some 52) #[true, true, true, true, true, true, false, false, false, false, true, false, false, false] rfl rfl (one_of HT_.out (by kernel_rfl)) (by decide) (fun K hK => ?_)
                                      refine goes_ Try.func27 (by kernel_rfl) rfl #[.agg #[.bool a0_0, .int .i64 a0_1, .int .i64 a0_2, .int .u64 a0_3, .int .u64 a0_4, .bool a0_5, .int .u64 x173006_3], .slice A1 (l1.take (x10_3 : Int).toNat).length c1, .int .u64 t173] (by rfl) rfl rfl (by (try simp only [List.map_toArray, List.map_cons, List.map_nil]); first | done | (rw [show (l1.take (x10_3 : Int).toNat).length = x10_3.toNat from (by rw [List.length_take]; have h_ : (x10_3 : Int) ≤ (l1.length : Int) := of_decide_eq_true (by first | (with_reducible assumption) | assumption); omega)] <;> rfl) | rfl | (simp only [List.length_drop, List.length_take]; rfl)) ?_
                                      with_reducible refine (slice_Run.calls k3 a0_0 a0_1 a0_2 a0_3 a0_4 a0_5 x173006_3 _ _ (l1.take (x10_3 : Int).toNat) t173 t186 t187 t188 t189 t190 t191 t192 t193 t194 _ ?side1 ?side2 A22.out).mono ?_
                                      (case side1 => repeat (first | exact (Kd.C_below HR185.out HB.out) | (with_reducible refine Kd.C_alloc ?_ _) | (with_reducible refine Kd.C_drewN ?_ _) | (with_reducible refine Kd.C_drew ?_)))
                                      (case side2 => exact HC185.out)
                                      rintro e w33 ⟨rfl, hb⟩
                                      refine ⟨_, rfl, ?_⟩
                                      have n0_ := Aside0.mk (blk_below (g := gb172) (o := .cells #[.bool a0_0, .int .i64 a0_1, .int .i64 a0_2, .int .u64 a0_3, .int .u64 a0_4, .bool a0_5, .int .u64 x173006_3] 28 (0, 0)) (by (with_reducible repeat (first | refine blk_drewN ?_ _ | refine blk_drew ?_ | refine blk_alloc ?_ _)); exact BK172.out) hb)
                                      have n1_ := Aside0.mk (blk_below (g := gb183) (o := .cells #[.bool t176, .int .i64 t177, .int .i64 t178, .int .u64 t179, .int .u64 t180, .bool t181, .int .u64 t182] 28 (0, 0)) (by (with_reducible repeat (first | refine blk_drewN ?_ _ | refine blk_drew ?_ | refine blk_alloc ?_ _)); exact BK183.out) hb)
                                      have n2_ := Aside0.mk (blk_below (g := gb195) (o := .cells #[.bool false, .int .i64 0, .int .i64 0, .int .u64 0, .int .u64 0, .bool false, .int .u64 0] 28 (0, 0)) (by (with_reducible repeat (first | refine blk_drewN ?_ _ | refine blk_drew ?_ | refine blk_alloc ?_ _)); exact BK195.out) hb)
                                      have n3_ := Aside0.mk (below_step (by repeat (first | (with_reducible first | exact HB.out | apply below_alloc | apply pw_below_drewN | apply below_drew1 | refine below_set ?_ GE172.out | refine below_set ?_ GE183.out | refine below_set ?_ GE195.out) | exact HB.out)) hb)
                                      clear BK172
                                      clear BK183
                                      clear BK195
                                      clear HB
                                      have BK172 := n0_
                                      have BK183 := n1_
                                      have BK195 := n2_
                                      have HB := n3_
                                      clear n0_ n1_ n2_ n3_
                                      (try clear hb)
                                      (try clear hb2)
                                      (try clear hk)
                                      (try clear hi)
                                      refine hK.out _ _ ⟨(blk_cell BK172.out 0).trans rfl, (blk_cell BK172.out 1).trans rfl, (blk_cell BK172.out 2).trans rfl, (blk_cell BK172.out 3).trans rfl, (blk_cell BK172.out 4).trans rfl, (blk_cell BK172.out 5).trans rfl, (blk_cell BK172.out 6).trans rfl⟩ (fun hHeld => ?_)
                                      clear hK K
                                      refine norm_ (a' := ?_) ?_ ?_
                                      rotate_left
                                      · show Act.put _ (some 52) _ = _
                                        simp only [Act.put, List.setIfInBounds_toArray, List.set_cons_zero, List.set_cons_succ, i64_w, i32_w]
                                        rfl
                                      refine pure_ (i := 6) (N := some 46) (v := ?_) (a' := ?_) #[true, true, true, true, true, true, true, false, false, false, true, false, false, false] rfl rfl (any_of HT_.out (by kernel_rfl)) (fun _ _ _ h => h) (Or.inl ⟨by rfl, ?_⟩) ?_ ?_
                                      rotate_left
                                      · intro w'
                                        go_simp
                                        with_reducible rfl
                                      rotate_left
                                      · simp only [Act.put, List.setIfInBounds_toArray, List.set_cons_zero, List.set_cons_succ, i64_w, i32_w]
                                        rfl
                                      refine pure_ (i := 7) (N := some 53) (v := ?_) (a' := ?_) #[true, true, true, true, true, true, true, true, false, false, true, false, false, false] rfl rfl (any_of HT_.out (by kernel_rfl)) (fun _ _ _ h => h) (Or.inl ⟨by rfl, ?_⟩) ?_ ?_
                                      rotate_left
                                      · intro w'
                                        go_simp
                                        with_reducible rfl
                                      rotate_left
                                      · simp only [Act.put, List.setIfInBounds_toArray, List.set_cons_zero, List.set_cons_succ, i64_w, i32_w]
                                        rfl
                                      refine pure_ (i := 8) (N := some 54) (v := ?_) (a' := ?_) #[true, true, true, true, true, true, true, true, true, false, true, false, false, false] rfl rfl (any_of HT_.out (by kernel_rfl)) (fun _ _ _ h => h) (Or.inl ⟨by rfl, ?_⟩) ?_ ?_
                                      rotate_left
                                      · intro w'
                                        go_simp
                                        with_reducible rfl
                                      rotate_left
                                      · simp only [Act.put, List.setIfInBounds_toArray, List.set_cons_zero, List.set_cons_succ, i64_w, i32_w]
                                        rfl
                                      refine pure_ (i := 9) (N := some 55) (v := ?_) (a' := ?_) #[true, true, true, true, true, true, true, true, true, true, true, false, false, false] rfl rfl (any_of HT_.out (by kernel_rfl)) (fun _ _ _ h => h) (Or.inl ⟨by rfl, ?_⟩) ?_ ?_
                                      rotate_left
                                      · intro w'
                                        go_simp
                                        with_reducible rfl
                                      rotate_left
                                      · simp only [Act.put, List.setIfInBounds_toArray, List.set_cons_zero, List.set_cons_succ, i64_w, i32_w]
                                        rfl
                                      exact norm_ (by simp only [putAll, Act.put, List.setIfInBounds_toArray, List.set_cons_zero, List.set_cons_succ]) (hCont (gb195) _ ⟨hHeld, (by (with_reducible repeat (first | refine blk_drewN ?_ _ | refine blk_drew ?_ | refine blk_alloc ?_ _)); exact BK172.out), (by (with_reducible repeat (first | refine blk_drewN ?_ _ | refine blk_drew ?_ | refine blk_alloc ?_ _)); exact BK183.out), (by (with_reducible repeat (first | refine blk_drewN ?_ _ | refine blk_drew ?_ | refine blk_alloc ?_ _)); exact BK195.out), GW195.out, GE195.out, NB172_195.out, NB195_172.out, NB183_195.out, NB195_183.out, (by repeat (first | (with_reducible first | exact HB.out | apply below_alloc | apply pw_below_drewN | apply below_drew1 | refine below_set ?_ GE172.out | refine below_set ?_ GE183.out | refine below_set ?_ GE195.out) | exact HB.out))⟩)
                                  rintro gb195 w34 ⟨hS_, h0_, h1_, h2_, h3_, h4_, h5_, h6_, h7_, h8_, h9_⟩
                                  have n0_ : Aside0 (w34.heap[gb172]? = some (.cells #[.bool a0_0, .int .i64 a0_1, .int .i64 a0_2, .int .u64 a0_3, .int .u64 a0_4, .bool a0_5, .int .u64 x173006_3] 28 (0, 0))) := ⟨h0_⟩
                                  have n1_ : Aside0 (w34.heap[gb183]? = some (.cells #[.bool t176, .int .i64 t177, .int .i64 t178, .int .u64 t179, .int .u64 t180, .bool t181, .int .u64 t182] 28 (0, 0))) := ⟨h1_⟩
                                  have n2_ : Aside0 (w34.heap[gb195]? = some (.cells #[.bool false, .int .i64 0, .int .i64 0, .int .u64 0, .int .u64 0, .bool false, .int .u64 0] 28 (0, 0))) := ⟨h2_⟩
                                  have n3_ : Aside0 (w.heap.size ≤ gb195) := ⟨h3_⟩
                                  have n4_ : Aside0 (w.heap.size ≤ gb195) := ⟨h4_⟩
                                  have n5_ : Aside0 (gb172 ≠ gb195) := ⟨h5_⟩
                                  have n6_ : Aside0 (gb195 ≠ gb172) := ⟨h6_⟩
                                  have n7_ : Aside0 (gb183 ≠ gb195) := ⟨h7_⟩
                                  have n8_ : Aside0 (gb195 ≠ gb183) := ⟨h8_⟩
                                  have n9_ : Aside0 (Below w.heap.size w w34) := ⟨h9_⟩
                                  clear BK172
                                  clear BK183
                                  clear HB
                                  clear h0_ h1_ h2_ h3_ h4_ h5_ h6_ h7_ h8_ h9_
                                  have BK172 := n0_
                                  have BK183 := n1_
                                  have BK195 := n2_
                                  have GW195 := n3_
                                  have GE195 := n4_
                                  have NB172_195 := n5_
                                  have NB195_172 := n6_
                                  have NB183_195 := n7_
                                  have NB195_183 := n8_
                                  have HB := n9_
                                  clear n0_ n1_ n2_ n3_ n4_ n5_ n6_ n7_ n8_ n9_
                                  have hHeld : w34.cell? ⟨gb172, 0, none⟩ = some (.bool a0_0) ∧ w34.cell? ⟨gb172, 1, none⟩ = some (.int .i64 a0_1) ∧ w34.cell? ⟨gb172, 2, none⟩ = some (.int .i64 a0_2) ∧ w34.cell? ⟨gb172, 3, none⟩ = some (.int .u64 a0_3) ∧ w34.cell? ⟨gb172, 4, none⟩ = some (.int .u64 a0_4) ∧ w34.cell? ⟨gb172, 5, none⟩ = some (.bool a0_5) ∧ w34.cell? ⟨gb172, 6, none⟩ = some (.int .u64 x173006_3) := hS_
                                  refine norm_ (a' := ?_) ?_ ?_
                                  rotate_left
                                  · simp only [putAll, Act.put, List.setIfInBounds_toArray, List.set_cons_zero, List.set_cons_succ]
                                    rfl
                                  refine pure_ (i := 11) (N := some 11) (v := ?_) (a' := ?_) #[true, true, true, true, true, true, true, true, true, true, true, true, false, false] rfl rfl (any_of HT_.out (by kernel_rfl)) (fun _ _ _ h => h) (Or.inl ⟨by rfl, ?_⟩) ?_ ?_
                                  rotate_left
                                  · intro w'
                                    go_simp
                                    with_reducible rfl
                                  rotate_left
                                  · simp only [Act.put, List.setIfInBounds_toArray, List.set_cons_zero, List.set_cons_succ, i64_w, i32_w]
                                    rfl
                                  refine pure_ (i := 12) (N := some 12) (v := ?_) (a' := ?_) #[true, true, true, true, true, true, true, true, true, true, true, true, true, false] rfl rfl (any_of HT_.out (by kernel_rfl)) (fun _ _ _ h => h) (Or.inl ⟨by rfl, ?_⟩) ?_ ?_
                                  rotate_left
                                  · intro w'
                                    go_simp
                                    with_reducible rfl
                                  rotate_left
                                  · simp only [Act.put, List.setIfInBounds_toArray, List.set_cons_zero, List.set_cons_succ, i64_w, i32_w]
                                    rfl
                                  refine one_ (i := 13) (N := none) #[true, true, true, true, true, true, true, true, true, true, true, true, true, true] rfl rfl (one_of HT_.out (by kernel_rfl)) (by decide) (fun K hK => ?_)
                                  have hs35 : w34.cell? ⟨gb195, 0, none⟩ = some (.bool false) := (blk_cell BK195.out 0).trans rfl
                                  have hfs35 := blk_frozen BK195.out 0
                                  have hns35_0 := NB172_195.out
                                  have hns35_1 := NB183_195.out
                                  have hms35_0 := NB195_172.out
                                  have hms35_1 := NB195_183.out
                                  have hs36 : w34.cell? ⟨gb195, 1, none⟩ = some (.int .i64 0) := (blk_cell BK195.out 1).trans rfl
                                  have hfs36 := blk_frozen BK195.out 1
                                  have hns36_0 := NB172_195.out
                                  have hns36_1 := NB183_195.out
                                  have hms36_0 := NB195_172.out
                                  have hms36_1 := NB195_183.out
                                  have hs37 : w34.cell? ⟨gb195, 2, none⟩ = some (.int .i64 0) := (blk_cell BK195.out 2).trans rfl
                                  have hfs37 := blk_frozen BK195.out 2
                                  have hns37_0 := NB172_195.out
                                  have hns37_1 := NB183_195.out
                                  have hms37_0 := NB195_172.out
                                  have hms37_1 := NB195_183.out
                                  have hs38 : w34.cell? ⟨gb195, 3, none⟩ = some (.int .u64 0) := (blk_cell BK195.out 3).trans rfl
                                  have hfs38 := blk_frozen BK195.out 3
                                  have hns38_0 := NB172_195.out
                                  have hns38_1 := NB183_195.out
                                  have hms38_0 := NB195_172.out
                                  have hms38_1 := NB195_183.out
                                  have hs39 : w34.cell? ⟨gb195, 4, none⟩ = some (.int .u64 0) := (blk_cell BK195.out 4).trans rfl
                                  have hfs39 := blk_frozen BK195.out 4
                                  have hns39_0 := NB172_195.out
                                  have hns39_1 := NB183_195.out
                                  have hms39_0 := NB195_172.out
                                  have hms39_1 := NB195_183.out
                                  have hs40 : w34.cell? ⟨gb195, 5, none⟩ = some (.bool false) := (blk_cell BK195.out 5).trans rfl
                                  have hfs40 := blk_frozen BK195.out 5
                                  have hns40_0 := NB172_195.out
                                  have hns40_1 := NB183_195.out
                                  have hms40_0 := NB195_172.out
                                  have hms40_1 := NB195_183.out
                                  have hs41 : w34.cell? ⟨gb195, 6, none⟩ = some (.int .u64 0) := (blk_cell BK195.out 6).trans rfl
                                  have hfs41 := blk_frozen BK195.out 6
                                  have hns41_0 := NB172_195.out
                                  have hns41_1 := NB183_195.out
                                  have hms41_0 := NB195_172.out
                                  have hms41_1 := NB195_183.out
                                  refine skip_ (w1 := ?_) (by rfl) rfl ?_ ?_
                                  rotate_left
                                  · go_simp
                                    rfl
                                  refine hK.out _ _ ⟨((cell_far (p := ⟨gb195, _, none⟩) NB172_195.out _).trans (((cell_far (p := ⟨gb195, _, none⟩) NB172_195.out _).trans (((cell_far (p := ⟨gb195, _, none⟩) NB172_195.out _).trans (((cell_far (p := ⟨gb195, _, none⟩) NB172_195.out _).trans (((cell_far (p := ⟨gb195, _, none⟩) NB172_195.out _).trans (((cell_far (p := ⟨gb195, _, none⟩) NB172_195.out _).trans (((cell_far (p := ⟨gb195, _, none⟩) NB172_195.out _).trans (hHeld.1)))))))))))))), ((cell_far (p := ⟨gb195, _, none⟩) NB172_195.out _).trans (((cell_far (p := ⟨gb195, _, none⟩) NB172_195.out _).trans (((cell_far (p := ⟨gb195, _, none⟩) NB172_195.out _).trans (((cell_far (p := ⟨gb195, _, none⟩) NB172_195.out _).trans (((cell_far (p := ⟨gb195, _, none⟩) NB172_195.out _).trans (((cell_far (p := ⟨gb195, _, none⟩) NB172_195.out _).trans (((cell_far (p := ⟨gb195, _, none⟩) NB172_195.out _).trans (hHeld.2.1)))))))))))))), ((cell_far (p := ⟨gb195, _, none⟩) NB172_195.out _).trans (((cell_far (p := ⟨gb195, _, none⟩) NB172_195.out _).trans (((cell_far (p := ⟨gb195, _, none⟩) NB172_195.out _).trans (((cell_far (p := ⟨gb195, _, none⟩) NB172_195.out _).trans (((cell_far (p := ⟨gb195, _, none⟩) NB172_195.out _).trans (((cell_far (p := ⟨gb195, _, none⟩) NB172_195.out _).trans (((cell_far (p := ⟨gb195, _, none⟩) NB172_195.out _).trans (hHeld.2.2.1)))))))))))))), ((cell_far (p := ⟨gb195, _, none⟩) NB172_195.out _).trans (((cell_far (p := ⟨gb195, _, none⟩) NB172_195.out _).trans (((cell_far (p := ⟨gb195, _, none⟩) NB172_195.out _).trans (((cell_far (p := ⟨gb195, _, none⟩) NB172_195.out _).trans (((cell_far (p := ⟨gb195, _, none⟩) NB172_195.out _).trans (((cell_far (p := ⟨gb195, _, none⟩) NB172_195.out _).trans (((cell_far (p := ⟨gb195, _, none⟩) NB172_195.out _).trans (hHeld.2.2.2.1)))))))))))))), ((cell_far (p := ⟨gb195, _, none⟩) NB172_195.out _).trans (((cell_far (p := ⟨gb195, _, none⟩) NB172_195.out _).trans (((cell_far (p := ⟨gb195, _, none⟩) NB172_195.out _).trans (((cell_far (p := ⟨gb195, _, none⟩) NB172_195.out _).trans (((cell_far (p := ⟨gb195, _, none⟩) NB172_195.out _).trans (((cell_far (p := ⟨gb195, _, none⟩) NB172_195.out _).trans (((cell_far (p := ⟨gb195, _, none⟩) NB172_195.out _).trans (hHeld.2.2.2.2.1)))))))))))))), ((cell_far (p := ⟨gb195, _, none⟩) NB172_195.out _).trans (((cell_far (p := ⟨gb195, _, none⟩) NB172_195.out _).trans (((cell_far (p := ⟨gb195, _, none⟩) NB172_195.out _).trans (((cell_far (p := ⟨gb195, _, none⟩) NB172_195.out _).trans (((cell_far (p := ⟨gb195, _, none⟩) NB172_195.out _).trans (((cell_far (p := ⟨gb195, _, none⟩) NB172_195.out _).trans (((cell_far (p := ⟨gb195, _, none⟩) NB172_195.out _).trans (hHeld.2.2.2.2.2.1)))))))))))))), ((cell_far (p := ⟨gb195, _, none⟩) NB172_195.out _).trans (((cell_far (p := ⟨gb195, _, none⟩) NB172_195.out _).trans (((cell_far (p := ⟨gb195, _, none⟩) NB172_195.out _).trans (((cell_far (p := ⟨gb195, _, none⟩) NB172_195.out _).trans (((cell_far (p := ⟨gb195, _, none⟩) NB172_195.out _).trans (((cell_far (p := ⟨gb195, _, none⟩) NB172_195.out _).trans (((cell_far (p := ⟨gb195, _, none⟩) NB172_195.out _).trans (hHeld.2.2.2.2.2.2))))))))))))))⟩ (fun hHeld => ?_)
                                  clear hK K
                                  refine done_ (done_of HT_.out (by kernel_rfl)) ?_
                                  try go_wp2
                                  have n0_ : Aside0 ((((((((w34.setCell ⟨gb195, 0, none⟩ (.bool t188)).setCell ⟨gb195, 1, none⟩ (.int .i64 t189)).setCell ⟨gb195, 2, none⟩ (.int .i64 t190)).setCell ⟨gb195, 3, none⟩ (.int .u64 t191)).setCell ⟨gb195, 4, none⟩ (.int .u64 t192)).setCell ⟨gb195, 5, none⟩ (.bool t193)).setCell ⟨gb195, 6, none⟩ (.int .u64 t194)).heap[gb172]? = some (.cells #[.bool a0_0, .int .i64 a0_1, .int .i64 a0_2, .int .u64 a0_3, .int .u64 a0_4, .bool a0_5, .int .u64 x173006_3] 28 (0, 0))) := ⟨by (with_reducible repeat (first | refine blk_drewN ?_ _ | refine blk_drew ?_ | refine blk_alloc ?_ _)); refine blk_far ?_ NB172_195.out _; (with_reducible repeat (first | refine blk_drewN ?_ _ | refine blk_drew ?_ | refine blk_alloc ?_ _)); refine blk_far ?_ NB172_195.out _; (with_reducible repeat (first | refine blk_drewN ?_ _ | refine blk_drew ?_ | refine blk_alloc ?_ _)); refine blk_far ?_ NB172_195.out _; (with_reducible repeat (first | refine blk_drewN ?_ _ | refine blk_drew ?_ | refine blk_alloc ?_ _)); refine blk_far ?_ NB172_195.out _; (with_reducible repeat (first | refine blk_drewN ?_ _ | refine blk_drew ?_ | refine blk_alloc ?_ _)); refine blk_far ?_ NB172_195.out _; (with_reducible repeat (first | refine blk_drewN ?_ _ | refine blk_drew ?_ | refine blk_alloc ?_ _)); refine blk_far ?_ NB172_195.out _; (with_reducible repeat (first | refine blk_drewN ?_ _ | refine blk_drew ?_ | refine blk_alloc ?_ _)); refine blk_far ?_ NB172_195.out _; (with_reducible repeat (first | refine blk_drewN ?_ _ | refine blk_drew ?_ | refine blk_alloc ?_ _)); exact BK172.out⟩
                                  have n1_ : Aside0 ((((((((w34.setCell ⟨gb195, 0, none⟩ (.bool t188)).setCell ⟨gb195, 1, none⟩ (.int .i64 t189)).setCell ⟨gb195, 2, none⟩ (.int .i64 t190)).setCell ⟨gb195, 3, none⟩ (.int .u64 t191)).setCell ⟨gb195, 4, none⟩ (.int .u64 t192)).setCell ⟨gb195, 5, none⟩ (.bool t193)).setCell ⟨gb195, 6, none⟩ (.int .u64 t194)).heap[gb183]? = some (.cells #[.bool t176, .int .i64 t177, .int .i64 t178, .int .u64 t179, .int .u64 t180, .bool t181, .int .u64 t182] 28 (0, 0))) := ⟨by (with_reducible repeat (first | refine blk_drewN ?_ _ | refine blk_drew ?_ | refine blk_alloc ?_ _)); refine blk_far ?_ NB183_195.out _; (with_reducible repeat (first | refine blk_drewN ?_ _ | refine blk_drew ?_ | refine blk_alloc ?_ _)); refine blk_far ?_ NB183_195.out _; (with_reducible repeat (first | refine blk_drewN ?_ _ | refine blk_drew ?_ | refine blk_alloc ?_ _)); refine blk_far ?_ NB183_195.out _; (with_reducible repeat (first | refine blk_drewN ?_ _ | refine blk_drew ?_ | refine blk_alloc ?_ _)); refine blk_far ?_ NB183_195.out _; (with_reducible repeat (first | refine blk_drewN ?_ _ | refine blk_drew ?_ | refine blk_alloc ?_ _)); refine blk_far ?_ NB183_195.out _; (with_reducible repeat (first | refine blk_drewN ?_ _ | refine blk_drew ?_ | refine blk_alloc ?_ _)); refine blk_far ?_ NB183_195.out _; (with_reducible repeat (first | refine blk_drewN ?_ _ | refine blk_drew ?_ | refine blk_alloc ?_ _)); refine blk_far ?_ NB183_195.out _; (with_reducible repeat (first | refine blk_drewN ?_ _ | refine blk_drew ?_ | refine blk_alloc ?_ _)); exact BK183.out⟩
                                  have n2_ : Aside0 ((((((((w34.setCell ⟨gb195, 0, none⟩ (.bool t188)).setCell ⟨gb195, 1, none⟩ (.int .i64 t189)).setCell ⟨gb195, 2, none⟩ (.int .i64 t190)).setCell ⟨gb195, 3, none⟩ (.int .u64 t191)).setCell ⟨gb195, 4, none⟩ (.int .u64 t192)).setCell ⟨gb195, 5, none⟩ (.bool t193)).setCell ⟨gb195, 6, none⟩ (.int .u64 t194)).heap[gb195]? = some (.cells #[.bool t188, .int .i64 t189, .int .i64 t190, .int .u64 t191, .int .u64 t192, .bool t193, .int .u64 t194] 28 (0, 0))) := ⟨by (with_reducible repeat (first | refine blk_drewN ?_ _ | refine blk_drew ?_ | refine blk_alloc ?_ _)); refine blk_put (cs := #[.bool t188, .int .i64 t189, .int .i64 t190, .int .u64 t191, .int .u64 t192, .bool t193, .int .u64 0]) ?_ 6 _ rfl; (with_reducible repeat (first | refine blk_drewN ?_ _ | refine blk_drew ?_ | refine blk_alloc ?_ _)); refine blk_put (cs := #[.bool t188, .int .i64 t189, .int .i64 t190, .int .u64 t191, .int .u64 t192, .bool false, .int .u64 0]) ?_ 5 _ rfl; (with_reducible repeat (first | refine blk_drewN ?_ _ | refine blk_drew ?_ | refine blk_alloc ?_ _)); refine blk_put (cs := #[.bool t188, .int .i64 t189, .int .i64 t190, .int .u64 t191, .int .u64 0, .bool false, .int .u64 0]) ?_ 4 _ rfl; (with_reducible repeat (first | refine blk_drewN ?_ _ | refine blk_drew ?_ | refine blk_alloc ?_ _)); refine blk_put (cs := #[.bool t188, .int .i64 t189, .int .i64 t190, .int .u64 0, .int .u64 0, .bool false, .int .u64 0]) ?_ 3 _ rfl; (with_reducible repeat (first | refine blk_drewN ?_ _ | refine blk_drew ?_ | refine blk_alloc ?_ _)); refine blk_put (cs := #[.bool t188, .int .i64 t189, .int .i64 0, .int .u64 0, .int .u64 0, .bool false, .int .u64 0]) ?_ 2 _ rfl; (with_reducible repeat (first | refine blk_drewN ?_ _ | refine blk_drew ?_ | refine blk_alloc ?_ _)); refine blk_put (cs := #[.bool t188, .int .i64 0, .int .i64 0, .int .u64 0, .int .u64 0, .bool false, .int .u64 0]) ?_ 1 _ rfl; (with_reducible repeat (first | refine blk_drewN ?_ _ | refine blk_drew ?_ | refine blk_alloc ?_ _)); refine blk_put (cs := #[.bool false, .int .i64 0, .int .i64 0, .int .u64 0, .int .u64 0, .bool false, .int .u64 0]) ?_ 0 _ rfl; (with_reducible repeat (first | refine blk_drewN ?_ _ | refine blk_drew ?_ | refine blk_alloc ?_ _)); exact BK195.out⟩
                                  have n3_ : Aside0 (Below w.heap.size w (((((((w34.setCell ⟨gb195, 0, none⟩ (.bool t188)).setCell ⟨gb195, 1, none⟩ (.int .i64 t189)).setCell ⟨gb195, 2, none⟩ (.int .i64 t190)).setCell ⟨gb195, 3, none⟩ (.int .u64 t191)).setCell ⟨gb195, 4, none⟩ (.int .u64 t192)).setCell ⟨gb195, 5, none⟩ (.bool t193)).setCell ⟨gb195, 6, none⟩ (.int .u64 t194))) := ⟨by repeat (first | (with_reducible first | exact HB.out | apply below_alloc | apply pw_below_drewN | apply below_drew1 | refine below_set ?_ GE172.out | refine below_set ?_ GE183.out | refine below_set ?_ GE195.out) | exact HB.out)⟩
                                  (try clear BK172)
                                  (try clear BK183)
                                  (try clear BK195)
                                  (try clear HB)
                                  generalize (((((((w34.setCell ⟨gb195, 0, none⟩ (.bool t188)).setCell ⟨gb195, 1, none⟩ (.int .i64 t189)).setCell ⟨gb195, 2, none⟩ (.int .i64 t190)).setCell ⟨gb195, 3, none⟩ (.int .u64 t191)).setCell ⟨gb195, 4, none⟩ (.int .u64 t192)).setCell ⟨gb195, 5, none⟩ (.bool t193)).setCell ⟨gb195, 6, none⟩ (.int .u64 t194)) = w42 at n0_ n1_ n2_ n3_ ⊢
                                  have BK172 := n0_
                                  have BK183 := n1_
                                  have BK195 := n2_
                                  have HB := n3_
                                  clear n0_ n1_ n2_ n3_
                                  have n0_ := Aside0.mk (blk_drew BK172.out)
                                  have n1_ := Aside0.mk (blk_drew BK183.out)
                                  have n2_ := Aside0.mk (blk_drew BK195.out)
                                  have n3_ := Aside0.mk (below_drew1 HB.out)
                                  clear BK172
                                  clear BK183
                                  clear BK195
                                  clear HB
                                  have BK172 := n0_
                                  have BK183 := n1_
                                  have BK195 := n2_
                                  have HB := n3_
                                  clear n0_ n1_ n2_ n3_
                                  obtain ⟨i044, hi044, _, hsz44, _⟩ := info_parts info24
                                  obtain ⟨A44, hcut44, hA44, hC44⟩ := print_drop_of (P := Try.prog) (Value.int .u64) 0 47 24 .i64 Try.underlying47 hi044 hsz44 A1 c1 l1 t186 (of_decide_eq_true (by first | (with_reducible assumption) | assumption)) (of_decide_eq_true (by first | (with_reducible assumption) | assumption)) HC1.out
                                  have HR196 := Aside0.mk (Kd.C_of_reads (h1 := fun _ => rfl) (hA44 _ (Kd.reads_of_C HR1.out)))
                                  have HC196 := Aside0.mk hC44
                                  clear hA44 hC44 hi044 hsz44
                                  refine start_ (n := 16) (S := fun w' => w'.cell? ⟨gb195, 0, none⟩ = some (.bool t188) ∧ w'.cell? ⟨gb195, 1, none⟩ = some (.int .i64 t189) ∧ w'.cell? ⟨gb195, 2, none⟩ = some (.int .i64 t190) ∧ w'.cell? ⟨gb195, 3, none⟩ = some (.int .u64 t191) ∧ w'.cell? ⟨gb195, 4, none⟩ = some (.int .u64 t192) ∧ w'.cell? ⟨gb195, 5, none⟩ = some (.bool t193) ∧ w'.cell? ⟨gb195, 6, none⟩ = some (.int .u64 t194)) (ds := []) #[false, false, false, false, false, false, false, false, false, false, false, false, false, false, false, false] (by kernel_rfl) rfl rfl ⟨(blk_cell BK195.out 0).trans rfl, (blk_cell BK195.out 1).trans rfl, (blk_cell BK195.out 2).trans rfl, (blk_cell BK195.out 3).trans rfl, (blk_cell BK195.out 4).trans rfl, (blk_cell BK195.out 5).trans rfl, (blk_cell BK195.out 6).trans rfl⟩ (fun hHeld => ?_); refine with_tabW rotalaw22_SliceSplit.tab11 rotalaw22_SliceSplit.bits11 (fun HT_ HW_ => ?_)
                                  generalize w42.drew = w43 at BK172 BK183 BK195 HB HR196 hHeld ⊢
                                  refine pure_ (i := 1) (N := some 58) (v := ?_) (a' := ?_) #[false, true, false, false, false, false, false, false, false, false, false, false, false, false, false, false] rfl rfl (any_of HT_.out (by kernel_rfl)) (fun _ _ _ h => h) (Or.inl ⟨by rfl, ?_⟩) ?_ ?_
                                  rotate_left
                                  · intro w'
                                    go_simp
                                    with_reducible rfl
                                  rotate_left
                                  · simp only [Act.put, List.setIfInBounds_toArray, List.set_cons_zero, List.set_cons_succ, i64_w, i32_w]
                                    rfl
                                  refine pure_ (i := 2) (N := some 59) (v := ?_) (a' := ?_) #[false, true, true, false, false, false, false, false, false, false, false, false, false, false, false, false] rfl rfl (any_of HT_.out (by kernel_rfl)) (fun _ _ _ h => h) (Or.inl ⟨by rfl, ?_⟩) ?_ ?_
                                  rotate_left
                                  · intro w'
                                    go_simp
                                    with_reducible rfl
                                  rotate_left
                                  · simp only [Act.put, List.setIfInBounds_toArray, List.set_cons_zero, List.set_cons_succ, i64_w, i32_w]
                                    rfl
                                  refine pure_ (i := 3) (N := some 60) (v := ?_) (a' := ?_) #[false, true, true, true, false, false, false, false, false, false, false, false, false, false, false, false] rfl rfl (any_of HT_.out (by kernel_rfl)) (fun _ _ _ h => h) (Or.inl ⟨by rfl, ?_⟩) ?_ ?_
                                  rotate_left
                                  · intro w'
                                    go_simp
                                    with_reducible rfl
                                  rotate_left
                                  · simp only [Act.put, List.setIfInBounds_toArray, List.set_cons_zero, List.set_cons_succ, i64_w, i32_w]
                                    rfl
                                  refine pure_ (i := 4) (N := some 61) (v := ?_) (a' := ?_) #[false, true, true, true, true, false, false, false, false, false, false, false, false, false, false, false] rfl rfl (any_of HT_.out (by kernel_rfl)) (fun _ _ _ h => h) (Or.inl ⟨by rfl, ?_⟩) ?_ ?_
                                  rotate_left
                                  · intro w'
                                    go_simp
                                    with_reducible rfl
                                  rotate_left
                                  · simp only [Act.put, List.setIfInBounds_toArray, List.set_cons_zero, List.set_cons_succ, i64_w, i32_w]
                                    rfl
                                  refine pure_ (i := 5) (N := some 62) (v := ?_) (a' := ?_) #[false, true, true, true, true, true, false, false, false, false, false, false, false, false, false, false] rfl rfl (any_of HT_.out (by kernel_rfl)) (fun _ _ _ h => h) (Or.inl ⟨by rfl, ?_⟩) ?_ ?_
                                  rotate_left
                                  · intro w'
                                    go_simp
                                    with_reducible rfl
                                  rotate_left
                                  · simp only [Act.put, List.setIfInBounds_toArray, List.set_cons_zero, List.set_cons_succ, i64_w, i32_w]
                                    rfl
                                  refine pure_ (i := 6) (N := some 63) (v := ?_) (a' := ?_) #[false, true, true, true, true, true, true, false, false, false, false, false, false, false, false, false] rfl rfl (any_of HT_.out (by kernel_rfl)) (fun _ _ _ h => h) (Or.inl ⟨by rfl, ?_⟩) ?_ ?_
                                  rotate_left
                                  · intro w'
                                    go_simp
                                    with_reducible rfl
                                  rotate_left
                                  · simp only [Act.put, List.setIfInBounds_toArray, List.set_cons_zero, List.set_cons_succ, i64_w, i32_w]
                                    rfl
                                  refine take_ (i := 0) (N := some 57) (v := ?_) (a' := ?_) #[true, true, true, true, true, true, true, false, false, false, false, false, false, false, false, false] rfl rfl (take_ofW HT_.out HW_.out (by kernel_rfl)) (fun _ _ _ h => h) (Or.inl ⟨by rfl, ?_⟩) hHeld ?_ ?_
                                  rotate_left
                                  · rintro w' ⟨s0, s1, s2, s3, s4, s5, s6⟩
                                    go_simp
                                    with_reducible rfl
                                  rotate_left
                                  · simp only [Act.put, List.setIfInBounds_toArray, List.set_cons_zero, List.set_cons_succ, i64_w, i32_w]
                                    rfl
                                  refine join_ (σ := Nat) 3 #[true, true, true, true, true, true, true, true, true, true, true, true, true, false, false, false] (fun s_ => [(64, .tuple #[.int .i64 t197, .int .u64 t198, .agg #[.bool t199, .int .i64 t200, .int .i64 t201, .int .u64 t202, .int .u64 t203, .bool t204, .int .u64 t205]]), (16, .pointer (some ⟨s_, 0, none⟩)), (56, .tuple #[.int .i64 t197, .int .u64 t198, .agg #[.bool t199, .int .i64 t200, .int .i64 t201, .int .u64 t202, .int .u64 t203, .bool t204, .int .u64 t205]]), (65, .int .i64 t197), (66, .int .u64 t198), (67, .agg #[.bool t199, .int .i64 t200, .int .i64 t201, .int .u64 t202, .int .u64 t203, .bool t204, .int .u64 t205])]) (fun s_ w' => (w'.cell? ⟨gb195, 0, none⟩ = some (.bool t188) ∧ w'.cell? ⟨gb195, 1, none⟩ = some (.int .i64 t189) ∧ w'.cell? ⟨gb195, 2, none⟩ = some (.int .i64 t190) ∧ w'.cell? ⟨gb195, 3, none⟩ = some (.int .u64 t191) ∧ w'.cell? ⟨gb195, 4, none⟩ = some (.int .u64 t192) ∧ w'.cell? ⟨gb195, 5, none⟩ = some (.bool t193) ∧ w'.cell? ⟨gb195, 6, none⟩ = some (.int .u64 t194)) ∧ (w'.heap[gb172]? = some (.cells #[.bool a0_0, .int .i64 a0_1, .int .i64 a0_2, .int .u64 a0_3, .int .u64 a0_4, .bool a0_5, .int .u64 x173006_3] 28 (0, 0))) ∧ (w'.heap[gb183]? = some (.cells #[.bool t176, .int .i64 t177, .int .i64 t178, .int .u64 t179, .int .u64 t180, .bool t181, .int .u64 t182] 28 (0, 0))) ∧ (w'.heap[gb195]? = some (.cells #[.bool t188, .int .i64 t189, .int .i64 t190, .int .u64 t191, .int .u64 t192, .bool t193, .int .u64 t194] 28 (0, 0))) ∧ (w'.heap[s_]? = some (.cells #[.bool false, .int .i64 0, .int .i64 0, .int .u64 0, .int .u64 0, .bool false, .int .u64 0] 28 (0, 0))) ∧ (w.heap.size ≤ s_) ∧ (w.heap.size ≤ s_) ∧ (gb172 ≠ s_) ∧ (s_ ≠ gb172) ∧ (gb183 ≠ s_) ∧ (s_ ≠ gb183) ∧ (gb195 ≠ s_) ∧ (s_ ≠ gb195) ∧ (Below w.heap.size w w')) ?_ ?_
                                  rotate_left
                                  · intro hCont
                                    refine two_ (i := 7) (j := 12) (Ni := some 64) (Nj := some 16) #[true, true, true, true, true, true, true, true, false, false, false, false, false, false, false, false] #[true, true, true, true, true, true, true, false, false, false, false, false, true, false, false, false] rfl rfl rfl rfl (two_of HT_.out (by kernel_rfl)) (by decide) (by decide) (fun K hK => ?_) (fun K hK => ?_)
                                    · skip
                                      refine goes_ Try.func27 (by kernel_rfl) rfl #[.agg #[.bool t188, .int .i64 t189, .int .i64 t190, .int .u64 t191, .int .u64 t192, .bool t193, .int .u64 t194], .slice A44 (l1.drop (t186 : Int).toNat).length (c1 - t186.toNat), .int .u64 (IntKind.u64.wrap (t173 - t187))] (by rfl) rfl rfl (by (try simp only [List.map_toArray, List.map_cons, List.map_nil]); first | done | (rw [show (l1.drop (t186 : Int).toNat).length = (l1.length - t186.toNat) from List.length_drop] <;> rfl) | rfl | (simp only [List.length_drop, List.length_take]; rfl)) ?_
                                      with_reducible refine (slice_Run.calls k3 t188 t189 t190 t191 t192 t193 t194 _ _ (l1.drop (t186 : Int).toNat) (IntKind.u64.wrap (t173 - t187)) t197 t198 t199 t200 t201 t202 t203 t204 t205 _ ?side1 ?side2 A25.out).mono ?_
                                      (case side1 => repeat (first | exact (Kd.C_below HR196.out HB.out) | (with_reducible refine Kd.C_alloc ?_ _) | (with_reducible refine Kd.C_drewN ?_ _) | (with_reducible refine Kd.C_drew ?_)))
                                      (case side2 => exact HC196.out)
                                      rintro e w45 ⟨rfl, hb⟩
                                      refine ⟨_, rfl, ?_⟩
                                      have n0_ := Aside0.mk (blk_below (g := gb172) (o := .cells #[.bool a0_0, .int .i64 a0_1, .int .i64 a0_2, .int .u64 a0_3, .int .u64 a0_4, .bool a0_5, .int .u64 x173006_3] 28 (0, 0)) (by (with_reducible repeat (first | refine blk_drewN ?_ _ | refine blk_drew ?_ | refine blk_alloc ?_ _)); exact BK172.out) hb)
                                      have n1_ := Aside0.mk (blk_below (g := gb183) (o := .cells #[.bool t176, .int .i64 t177, .int .i64 t178, .int .u64 t179, .int .u64 t180, .bool t181, .int .u64 t182] 28 (0, 0)) (by (with_reducible repeat (first | refine blk_drewN ?_ _ | refine blk_drew ?_ | refine blk_alloc ?_ _)); exact BK183.out) hb)
                                      have n2_ := Aside0.mk (blk_below (g := gb195) (o := .cells #[.bool t188, .int .i64 t189, .int .i64 t190, .int .u64 t191, .int .u64 t192, .bool t193, .int .u64 t194] 28 (0, 0)) (by (with_reducible repeat (first | refine blk_drewN ?_ _ | refine blk_drew ?_ | refine blk_alloc ?_ _)); exact BK195.out) hb)
                                      have n3_ := Aside0.mk (below_step (by repeat (first | (with_reducible first | exact HB.out | apply below_alloc | apply pw_below_drewN | apply below_drew1 | refine below_set ?_ GE172.out | refine below_set ?_ GE183.out | refine below_set ?_ GE195.out) | exact HB.out)) hb)
                                      clear BK172
                                      clear BK183
                                      clear BK195
                                      clear HB
                                      have BK172 := n0_
                                      have BK183 := n1_
                                      have BK195 := n2_
                                      have HB := n3_
                                      clear n0_ n1_ n2_ n3_
                                      (try clear hb)
                                      (try clear hb2)
                                      (try clear hk)
                                      (try clear hi)
                                      refine hK.out _ _ ⟨(blk_cell BK195.out 0).trans rfl, (blk_cell BK195.out 1).trans rfl, (blk_cell BK195.out 2).trans rfl, (blk_cell BK195.out 3).trans rfl, (blk_cell BK195.out 4).trans rfl, (blk_cell BK195.out 5).trans rfl, (blk_cell BK195.out 6).trans rfl⟩ (fun hHeld => ?_)
                                      clear hK K
                                      refine norm_ (a' := ?_) ?_ ?_
                                      rotate_left
                                      · show Act.put _ (some 64) _ = _
                                        simp only [Act.put, List.setIfInBounds_toArray, List.set_cons_zero, List.set_cons_succ, i64_w, i32_w]
                                        rfl
                                      refine pure_ (i := 8) (N := some 56) (v := ?_) (a' := ?_) #[true, true, true, true, true, true, true, true, true, false, false, false, false, false, false, false] rfl rfl (any_of HT_.out (by kernel_rfl)) (fun _ _ _ h => h) (Or.inl ⟨by rfl, ?_⟩) ?_ ?_
                                      rotate_left
                                      · intro w'
                                        go_simp
                                        with_reducible rfl
                                      rotate_left
                                      · simp only [Act.put, List.setIfInBounds_toArray, List.set_cons_zero, List.set_cons_succ, i64_w, i32_w]
                                        rfl
                                      refine pure_ (i := 9) (N := some 65) (v := ?_) (a' := ?_) #[true, true, true, true, true, true, true, true, true, true, false, false, false, false, false, false] rfl rfl (any_of HT_.out (by kernel_rfl)) (fun _ _ _ h => h) (Or.inl ⟨by rfl, ?_⟩) ?_ ?_
                                      rotate_left
                                      · intro w'
                                        go_simp
                                        with_reducible rfl
                                      rotate_left
                                      · simp only [Act.put, List.setIfInBounds_toArray, List.set_cons_zero, List.set_cons_succ, i64_w, i32_w]
                                        rfl
                                      refine pure_ (i := 10) (N := some 66) (v := ?_) (a' := ?_) #[true, true, true, true, true, true, true, true, true, true, true, false, false, false, false, false] rfl rfl (any_of HT_.out (by kernel_rfl)) (fun _ _ _ h => h) (Or.inl ⟨by rfl, ?_⟩) ?_ ?_
                                      rotate_left
                                      · intro w'
                                        go_simp
                                        with_reducible rfl
                                      rotate_left
                                      · simp only [Act.put, List.setIfInBounds_toArray, List.set_cons_zero, List.set_cons_succ, i64_w, i32_w]
                                        rfl
                                      refine pure_ (i := 11) (N := some 67) (v := ?_) (a' := ?_) #[true, true, true, true, true, true, true, true, true, true, true, true, false, false, false, false] rfl rfl (any_of HT_.out (by kernel_rfl)) (fun _ _ _ h => h) (Or.inl ⟨by rfl, ?_⟩) ?_ ?_
                                      rotate_left
                                      · intro w'
                                        go_simp
                                        with_reducible rfl
                                      rotate_left
                                      · simp only [Act.put, List.setIfInBounds_toArray, List.set_cons_zero, List.set_cons_succ, i64_w, i32_w]
                                        rfl
                                      refine one_ (i := 12) (N := some 16) #[true, true, true, true, true, true, true, true, true, true, true, true, true, false, false, false] rfl rfl (one_of HT_.out (by kernel_rfl)) (by decide) (fun K hK => ?_)
                                      refine box_step ?hg (N := 16) ?hd (cs := #[.bool false, .int .i64 0, .int .i64 0, .int .u64 0, .int .u64 0, .bool false, .int .u64 0]) (t := 28) ?hr ?_; (case hd => rfl); (case hg => rfl); (case hr => first | (go_simp; done) | (go_simp; rfl))
                                      intro gb206 hg w46 hbox hb
                                      have n0_ := Aside0.mk (blk_below (g := gb172) (o := .cells #[.bool a0_0, .int .i64 a0_1, .int .i64 a0_2, .int .u64 a0_3, .int .u64 a0_4, .bool a0_5, .int .u64 x173006_3] 28 (0, 0)) (by (with_reducible repeat (first | refine blk_drewN ?_ _ | refine blk_drew ?_ | refine blk_alloc ?_ _)); exact BK172.out) hb)
                                      have n1_ := Aside0.mk (blk_below (g := gb183) (o := .cells #[.bool t176, .int .i64 t177, .int .i64 t178, .int .u64 t179, .int .u64 t180, .bool t181, .int .u64 t182] 28 (0, 0)) (by (with_reducible repeat (first | refine blk_drewN ?_ _ | refine blk_drew ?_ | refine blk_alloc ?_ _)); exact BK183.out) hb)
                                      have n2_ := Aside0.mk (blk_below (g := gb195) (o := .cells #[.bool t188, .int .i64 t189, .int .i64 t190, .int .u64 t191, .int .u64 t192, .bool t193, .int .u64 t194] 28 (0, 0)) (by (with_reducible repeat (first | refine blk_drewN ?_ _ | refine blk_drew ?_ | refine blk_alloc ?_ _)); exact BK195.out) hb)
                                      have n3_ := Aside0.mk (below_step (by repeat (first | (with_reducible first | exact HB.out | apply below_alloc | apply pw_below_drewN | apply below_drew1 | refine below_set ?_ GE172.out | refine below_set ?_ GE183.out | refine below_set ?_ GE195.out) | exact HB.out)) hb)
                                      have n4_ := Aside0.mk (hbox)
                                      have n5_ := Aside0.mk ((by rw [hg]; exact (below_size (by repeat (first | (with_reducible first | exact HB.out | apply below_alloc | apply pw_below_drewN | apply below_drew1 | refine below_set ?_ GE172.out | refine below_set ?_ GE183.out | refine below_set ?_ GE195.out) | exact HB.out))) : w.heap.size ≤ gb206))
                                      have n6_ := Aside0.mk ((by rw [hg]; exact (below_size (by repeat (first | (with_reducible first | exact HB.out | apply below_alloc | apply pw_below_drewN | apply below_drew1 | refine below_set ?_ GE172.out | refine below_set ?_ GE183.out | refine below_set ?_ GE195.out) | exact HB.out))) : w.heap.size ≤ gb206))
                                      have n7_ := Aside0.mk ((by rw [hg]; exact Nat.ne_of_lt (blk_lt (g := gb172) (o := .cells #[.bool a0_0, .int .i64 a0_1, .int .i64 a0_2, .int .u64 a0_3, .int .u64 a0_4, .bool a0_5, .int .u64 x173006_3] 28 (0, 0)) (by (with_reducible repeat (first | refine blk_drewN ?_ _ | refine blk_drew ?_ | refine blk_alloc ?_ _)); exact BK172.out)) : gb172 ≠ gb206))
                                      have n8_ := Aside0.mk ((by rw [hg]; exact Nat.ne_of_gt (blk_lt (g := gb172) (o := .cells #[.bool a0_0, .int .i64 a0_1, .int .i64 a0_2, .int .u64 a0_3, .int .u64 a0_4, .bool a0_5, .int .u64 x173006_3] 28 (0, 0)) (by (with_reducible repeat (first | refine blk_drewN ?_ _ | refine blk_drew ?_ | refine blk_alloc ?_ _)); exact BK172.out)) : gb206 ≠ gb172))
                                      have n9_ := Aside0.mk ((by rw [hg]; exact Nat.ne_of_lt (blk_lt (g := gb183) (o := .cells #[.bool t176, .int .i64 t177, .int .i64 t178, .int .u64 t179, .int .u64 t180, .bool t181, .int .u64 t182] 28 (0, 0)) (by (with_reducible repeat (first | refine blk_drewN ?_ _ | refine blk_drew ?_ | refine blk_alloc ?_ _)); exact BK183.out)) : gb183 ≠ gb206))
                                      have n10_ := Aside0.mk ((by rw [hg]; exact Nat.ne_of_gt (blk_lt (g := gb183) (o := .cells #[.bool t176, .int .i64 t177, .int .i64 t178, .int .u64 t179, .int .u64 t180, .bool t181, .int .u64 t182] 28 (0, 0)) (by (with_reducible repeat (first | refine blk_drewN ?_ _ | refine blk_drew ?_ | refine blk_alloc ?_ _)); exact BK183.out)) : gb206 ≠ gb183))
                                      have n11_ := Aside0.mk ((by rw [hg]; exact Nat.ne_of_lt (blk_lt (g := gb195) (o := .cells #[.bool t188, .int .i64 t189, .int .i64 t190, .int .u64 t191, .int .u64 t192, .bool t193, .int .u64 t194] 28 (0, 0)) (by (with_reducible repeat (first | refine blk_drewN ?_ _ | refine blk_drew ?_ | refine blk_alloc ?_ _)); exact BK195.out)) : gb195 ≠ gb206))
                                      have n12_ := Aside0.mk ((by rw [hg]; exact Nat.ne_of_gt (blk_lt (g := gb195) (o := .cells #[.bool t188, .int .i64 t189, .int .i64 t190, .int .u64 t191, .int .u64 t192, .bool t193, .int .u64 t194] 28 (0, 0)) (by (with_reducible repeat (first | refine blk_drewN ?_ _ | refine blk_drew ?_ | refine blk_alloc ?_ _)); exact BK195.out)) : gb206 ≠ gb195))
                                      clear BK172
                                      clear BK183
                                      clear BK195
                                      clear HB
                                      have BK172 := n0_
                                      have BK183 := n1_
                                      have BK195 := n2_
                                      have HB := n3_
                                      have BK206 := n4_
                                      have GW206 := n5_
                                      have GE206 := n6_
                                      have NB172_206 := n7_
                                      have NB206_172 := n8_
                                      have NB183_206 := n9_
                                      have NB206_183 := n10_
                                      have NB195_206 := n11_
                                      have NB206_195 := n12_
                                      clear n0_ n1_ n2_ n3_ n4_ n5_ n6_ n7_ n8_ n9_ n10_ n11_ n12_
                                      clear hb hbox hg
                                      refine hK.out _ _ ⟨(blk_cell BK195.out 0).trans rfl, (blk_cell BK195.out 1).trans rfl, (blk_cell BK195.out 2).trans rfl, (blk_cell BK195.out 3).trans rfl, (blk_cell BK195.out 4).trans rfl, (blk_cell BK195.out 5).trans rfl, (blk_cell BK195.out 6).trans rfl⟩ (fun hHeld => ?_)
                                      clear hK K
                                      refine norm_ (a' := ?_) ?_ ?_
                                      rotate_left
                                      · show Act.put _ (some 16) _ = _
                                        simp only [Act.put, List.setIfInBounds_toArray, List.set_cons_zero, List.set_cons_succ, i64_w, i32_w]
                                        rfl
                                      exact norm_ (by simp only [putAll, Act.put, List.setIfInBounds_toArray, List.set_cons_zero, List.set_cons_succ]) (hCont (gb206) _ ⟨hHeld, (by (with_reducible repeat (first | refine blk_drewN ?_ _ | refine blk_drew ?_ | refine blk_alloc ?_ _)); exact BK172.out), (by (with_reducible repeat (first | refine blk_drewN ?_ _ | refine blk_drew ?_ | refine blk_alloc ?_ _)); exact BK183.out), (by (with_reducible repeat (first | refine blk_drewN ?_ _ | refine blk_drew ?_ | refine blk_alloc ?_ _)); exact BK195.out), (by (with_reducible repeat (first | refine blk_drewN ?_ _ | refine blk_drew ?_ | refine blk_alloc ?_ _)); exact BK206.out), GW206.out, GE206.out, NB172_206.out, NB206_172.out, NB183_206.out, NB206_183.out, NB195_206.out, NB206_195.out, (by repeat (first | (with_reducible first | exact HB.out | apply below_alloc | apply pw_below_drewN | apply below_drew1 | refine below_set ?_ GE172.out | refine below_set ?_ GE183.out | refine below_set ?_ GE195.out | refine below_set ?_ GE206.out) | exact HB.out))⟩)
                                    · skip
                                      refine box_step ?hg (N := 16) ?hd (cs := #[.bool false, .int .i64 0, .int .i64 0, .int .u64 0, .int .u64 0, .bool false, .int .u64 0]) (t := 28) ?hr ?_; (case hd => rfl); (case hg => rfl); (case hr => first | (go_simp; done) | (go_simp; rfl))
                                      intro gb206 hg w45 hbox hb
                                      have n0_ := Aside0.mk (blk_below (g := gb172) (o := .cells #[.bool a0_0, .int .i64 a0_1, .int .i64 a0_2, .int .u64 a0_3, .int .u64 a0_4, .bool a0_5, .int .u64 x173006_3] 28 (0, 0)) (by (with_reducible repeat (first | refine blk_drewN ?_ _ | refine blk_drew ?_ | refine blk_alloc ?_ _)); exact BK172.out) hb)
                                      have n1_ := Aside0.mk (blk_below (g := gb183) (o := .cells #[.bool t176, .int .i64 t177, .int .i64 t178, .int .u64 t179, .int .u64 t180, .bool t181, .int .u64 t182] 28 (0, 0)) (by (with_reducible repeat (first | refine blk_drewN ?_ _ | refine blk_drew ?_ | refine blk_alloc ?_ _)); exact BK183.out) hb)
                                      have n2_ := Aside0.mk (blk_below (g := gb195) (o := .cells #[.bool t188, .int .i64 t189, .int .i64 t190, .int .u64 t191, .int .u64 t192, .bool t193, .int .u64 t194] 28 (0, 0)) (by (with_reducible repeat (first | refine blk_drewN ?_ _ | refine blk_drew ?_ | refine blk_alloc ?_ _)); exact BK195.out) hb)
                                      have n3_ := Aside0.mk (below_step (by repeat (first | (with_reducible first | exact HB.out | apply below_alloc | apply pw_below_drewN | apply below_drew1 | refine below_set ?_ GE172.out | refine below_set ?_ GE183.out | refine below_set ?_ GE195.out) | exact HB.out)) hb)
                                      have n4_ := Aside0.mk (hbox)
                                      have n5_ := Aside0.mk ((by rw [hg]; exact (below_size (by repeat (first | (with_reducible first | exact HB.out | apply below_alloc | apply pw_below_drewN | apply below_drew1 | refine below_set ?_ GE172.out | refine below_set ?_ GE183.out | refine below_set ?_ GE195.out) | exact HB.out))) : w.heap.size ≤ gb206))
                                      have n6_ := Aside0.mk ((by rw [hg]; exact (below_size (by repeat (first | (with_reducible first | exact HB.out | apply below_alloc | apply pw_below_drewN | apply below_drew1 | refine below_set ?_ GE172.out | refine below_set ?_ GE183.out | refine below_set ?_ GE195.out) | exact HB.out))) : w.heap.size ≤ gb206))
                                      have n7_ := Aside0.mk ((by rw [hg]; exact Nat.ne_of_lt (blk_lt (g := gb172) (o := .cells #[.bool a0_0, .int .i64 a0_1, .int .i64 a0_2, .int .u64 a0_3, .int .u64 a0_4, .bool a0_5, .int .u64 x173006_3] 28 (0, 0)) (by (with_reducible repeat (first | refine blk_drewN ?_ _ | refine blk_drew ?_ | refine blk_alloc ?_ _)); exact BK172.out)) : gb172 ≠ gb206))
                                      have n8_ := Aside0.mk ((by rw [hg]; exact Nat.ne_of_gt (blk_lt (g := gb172) (o := .cells #[.bool a0_0, .int .i64 a0_1, .int .i64 a0_2, .int .u64 a0_3, .int .u64 a0_4, .bool a0_5, .int .u64 x173006_3] 28 (0, 0)) (by (with_reducible repeat (first | refine blk_drewN ?_ _ | refine blk_drew ?_ | refine blk_alloc ?_ _)); exact BK172.out)) : gb206 ≠ gb172))
                                      have n9_ := Aside0.mk ((by rw [hg]; exact Nat.ne_of_lt (blk_lt (g := gb183) (o := .cells #[.bool t176, .int .i64 t177, .int .i64 t178, .int .u64 t179, .int .u64 t180, .bool t181, .int .u64 t182] 28 (0, 0)) (by (with_reducible repeat (first | refine blk_drewN ?_ _ | refine blk_drew ?_ | refine blk_alloc ?_ _)); exact BK183.out)) : gb183 ≠ gb206))
                                      have n10_ := Aside0.mk ((by rw [hg]; exact Nat.ne_of_gt (blk_lt (g := gb183) (o := .cells #[.bool t176, .int .i64 t177, .int .i64 t178, .int .u64 t179, .int .u64 t180, .bool t181, .int .u64 t182] 28 (0, 0)) (by (with_reducible repeat (first | refine blk_drewN ?_ _ | refine blk_drew ?_ | refine blk_alloc ?_ _)); exact BK183.out)) : gb206 ≠ gb183))
                                      have n11_ := Aside0.mk ((by rw [hg]; exact Nat.ne_of_lt (blk_lt (g := gb195) (o := .cells #[.bool t188, .int .i64 t189, .int .i64 t190, .int .u64 t191, .int .u64 t192, .bool t193, .int .u64 t194] 28 (0, 0)) (by (with_reducible repeat (first | refine blk_drewN ?_ _ | refine blk_drew ?_ | refine blk_alloc ?_ _)); exact BK195.out)) : gb195 ≠ gb206))
                                      have n12_ := Aside0.mk ((by rw [hg]; exact Nat.ne_of_gt (blk_lt (g := gb195) (o := .cells #[.bool t188, .int .i64 t189, .int .i64 t190, .int .u64 t191, .int .u64 t192, .bool t193, .int .u64 t194] 28 (0, 0)) (by (with_reducible repeat (first | refine blk_drewN ?_ _ | refine blk_drew ?_ | refine blk_alloc ?_ _)); exact BK195.out)) : gb206 ≠ gb195))
                                      clear BK172
                                      clear BK183
                                      clear BK195
                                      clear HB
                                      have BK172 := n0_
                                      have BK183 := n1_
                                      have BK195 := n2_
                                      have HB := n3_
                                      have BK206 := n4_
                                      have GW206 := n5_
                                      have GE206 := n6_
                                      have NB172_206 := n7_
                                      have NB206_172 := n8_
                                      have NB183_206 := n9_
                                      have NB206_183 := n10_
                                      have NB195_206 := n11_
                                      have NB206_195 := n12_
                                      clear n0_ n1_ n2_ n3_ n4_ n5_ n6_ n7_ n8_ n9_ n10_ n11_ n12_
                                      clear hb hbox hg
                                      refine hK.out _ _ ⟨(blk_cell BK195.out 0).trans rfl, (blk_cell BK195.out 1).trans rfl, (blk_cell BK195.out 2).trans rfl, (blk_cell BK195.out 3).trans rfl, (blk_cell BK195.out 4).trans rfl, (blk_cell BK195.out 5).trans rfl, (blk_cell BK195.out 6).trans rfl⟩ (fun hHeld => ?_)
                                      clear hK K
                                      refine norm_ (a' := ?_) ?_ ?_
                                      rotate_left
                                      · show Act.put _ (some 16) _ = _
                                        simp only [Act.put, List.setIfInBounds_toArray, List.set_cons_zero, List.set_cons_succ, i64_w, i32_w]
                                        rfl
                                      refine one_ (i := 7) (N := some 64) #[true, true, true, true, true, true, true, true, false, false, false, false, true, false, false, false] rfl rfl (one_of HT_.out (by kernel_rfl)) (by decide) (fun K hK => ?_)
                                      refine goes_ Try.func27 (by kernel_rfl) rfl #[.agg #[.bool t188, .int .i64 t189, .int .i64 t190, .int .u64 t191, .int .u64 t192, .bool t193, .int .u64 t194], .slice A44 (l1.drop (t186 : Int).toNat).length (c1 - t186.toNat), .int .u64 (IntKind.u64.wrap (t173 - t187))] (by rfl) rfl rfl (by (try simp only [List.map_toArray, List.map_cons, List.map_nil]); first | done | (rw [show (l1.drop (t186 : Int).toNat).length = (l1.length - t186.toNat) from List.length_drop] <;> rfl) | rfl | (simp only [List.length_drop, List.length_take]; rfl)) ?_
                                      with_reducible refine (slice_Run.calls k3 t188 t189 t190 t191 t192 t193 t194 _ _ (l1.drop (t186 : Int).toNat) (IntKind.u64.wrap (t173 - t187)) t197 t198 t199 t200 t201 t202 t203 t204 t205 _ ?side1 ?side2 A25.out).mono ?_
                                      (case side1 => repeat (first | exact (Kd.C_below HR196.out HB.out) | (with_reducible refine Kd.C_alloc ?_ _) | (with_reducible refine Kd.C_drewN ?_ _) | (with_reducible refine Kd.C_drew ?_)))
                                      (case side2 => exact HC196.out)
                                      rintro e w46 ⟨rfl, hb⟩
                                      refine ⟨_, rfl, ?_⟩
                                      have n0_ := Aside0.mk (blk_below (g := gb172) (o := .cells #[.bool a0_0, .int .i64 a0_1, .int .i64 a0_2, .int .u64 a0_3, .int .u64 a0_4, .bool a0_5, .int .u64 x173006_3] 28 (0, 0)) (by (with_reducible repeat (first | refine blk_drewN ?_ _ | refine blk_drew ?_ | refine blk_alloc ?_ _)); exact BK172.out) hb)
                                      have n1_ := Aside0.mk (blk_below (g := gb183) (o := .cells #[.bool t176, .int .i64 t177, .int .i64 t178, .int .u64 t179, .int .u64 t180, .bool t181, .int .u64 t182] 28 (0, 0)) (by (with_reducible repeat (first | refine blk_drewN ?_ _ | refine blk_drew ?_ | refine blk_alloc ?_ _)); exact BK183.out) hb)
                                      have n2_ := Aside0.mk (blk_below (g := gb195) (o := .cells #[.bool t188, .int .i64 t189, .int .i64 t190, .int .u64 t191, .int .u64 t192, .bool t193, .int .u64 t194] 28 (0, 0)) (by (with_reducible repeat (first | refine blk_drewN ?_ _ | refine blk_drew ?_ | refine blk_alloc ?_ _)); exact BK195.out) hb)
                                      have n3_ := Aside0.mk (blk_below (g := gb206) (o := .cells #[.bool false, .int .i64 0, .int .i64 0, .int .u64 0, .int .u64 0, .bool false, .int .u64 0] 28 (0, 0)) (by (with_reducible repeat (first | refine blk_drewN ?_ _ | refine blk_drew ?_ | refine blk_alloc ?_ _)); exact BK206.out) hb)
                                      have n4_ := Aside0.mk (below_step (by repeat (first | (with_reducible first | exact HB.out | apply below_alloc | apply pw_below_drewN | apply below_drew1 | refine below_set ?_ GE172.out | refine below_set ?_ GE183.out | refine below_set ?_ GE195.out | refine below_set ?_ GE206.out) | exact HB.out)) hb)
                                      clear BK172
                                      clear BK183
                                      clear BK195
                                      clear BK206
                                      clear HB
                                      have BK172 := n0_
                                      have BK183 := n1_
                                      have BK195 := n2_
                                      have BK206 := n3_
                                      have HB := n4_
                                      clear n0_ n1_ n2_ n3_ n4_
                                      (try clear hb)
                                      (try clear hb2)
                                      (try clear hk)
                                      (try clear hi)
                                      refine hK.out _ _ ⟨(blk_cell BK195.out 0).trans rfl, (blk_cell BK195.out 1).trans rfl, (blk_cell BK195.out 2).trans rfl, (blk_cell BK195.out 3).trans rfl, (blk_cell BK195.out 4).trans rfl, (blk_cell BK195.out 5).trans rfl, (blk_cell BK195.out 6).trans rfl⟩ (fun hHeld => ?_)
                                      clear hK K
                                      refine norm_ (a' := ?_) ?_ ?_
                                      rotate_left
                                      · show Act.put _ (some 64) _ = _
                                        simp only [Act.put, List.setIfInBounds_toArray, List.set_cons_zero, List.set_cons_succ, i64_w, i32_w]
                                        rfl
                                      refine pure_ (i := 8) (N := some 56) (v := ?_) (a' := ?_) #[true, true, true, true, true, true, true, true, true, false, false, false, true, false, false, false] rfl rfl (any_of HT_.out (by kernel_rfl)) (fun _ _ _ h => h) (Or.inl ⟨by rfl, ?_⟩) ?_ ?_
                                      rotate_left
                                      · intro w'
                                        go_simp
                                        with_reducible rfl
                                      rotate_left
                                      · simp only [Act.put, List.setIfInBounds_toArray, List.set_cons_zero, List.set_cons_succ, i64_w, i32_w]
                                        rfl
                                      refine pure_ (i := 9) (N := some 65) (v := ?_) (a' := ?_) #[true, true, true, true, true, true, true, true, true, true, false, false, true, false, false, false] rfl rfl (any_of HT_.out (by kernel_rfl)) (fun _ _ _ h => h) (Or.inl ⟨by rfl, ?_⟩) ?_ ?_
                                      rotate_left
                                      · intro w'
                                        go_simp
                                        with_reducible rfl
                                      rotate_left
                                      · simp only [Act.put, List.setIfInBounds_toArray, List.set_cons_zero, List.set_cons_succ, i64_w, i32_w]
                                        rfl
                                      refine pure_ (i := 10) (N := some 66) (v := ?_) (a' := ?_) #[true, true, true, true, true, true, true, true, true, true, true, false, true, false, false, false] rfl rfl (any_of HT_.out (by kernel_rfl)) (fun _ _ _ h => h) (Or.inl ⟨by rfl, ?_⟩) ?_ ?_
                                      rotate_left
                                      · intro w'
                                        go_simp
                                        with_reducible rfl
                                      rotate_left
                                      · simp only [Act.put, List.setIfInBounds_toArray, List.set_cons_zero, List.set_cons_succ, i64_w, i32_w]
                                        rfl
                                      refine pure_ (i := 11) (N := some 67) (v := ?_) (a' := ?_) #[true, true, true, true, true, true, true, true, true, true, true, true, true, false, false, false] rfl rfl (any_of HT_.out (by kernel_rfl)) (fun _ _ _ h => h) (Or.inl ⟨by rfl, ?_⟩) ?_ ?_
                                      rotate_left
                                      · intro w'
                                        go_simp
                                        with_reducible rfl
                                      rotate_left
                                      · simp only [Act.put, List.setIfInBounds_toArray, List.set_cons_zero, List.set_cons_succ, i64_w, i32_w]
                                        rfl
                                      exact norm_ (by simp only [putAll, Act.put, List.setIfInBounds_toArray, List.set_cons_zero, List.set_cons_succ]) (hCont (gb206) _ ⟨hHeld, (by (with_reducible repeat (first | refine blk_drewN ?_ _ | refine blk_drew ?_ | refine blk_alloc ?_ _)); exact BK172.out), (by (with_reducible repeat (first | refine blk_drewN ?_ _ | refine blk_drew ?_ | refine blk_alloc ?_ _)); exact BK183.out), (by (with_reducible repeat (first | refine blk_drewN ?_ _ | refine blk_drew ?_ | refine blk_alloc ?_ _)); exact BK195.out), (by (with_reducible repeat (first | refine blk_drewN ?_ _ | refine blk_drew ?_ | refine blk_alloc ?_ _)); exact BK206.out), GW206.out, GE206.out, NB172_206.out, NB206_172.out, NB183_206.out, NB206_183.out, NB195_206.out, NB206_195.out, (by repeat (first | (with_reducible first | exact HB.out | apply below_alloc | apply pw_below_drewN | apply below_drew1 | refine below_set ?_ GE172.out | refine below_set ?_ GE183.out | refine below_set ?_ GE195.out | refine below_set ?_ GE206.out) | exact HB.out))⟩)
                                  rintro gb206 w47 ⟨hS_, h0_, h1_, h2_, h3_, h4_, h5_, h6_, h7_, h8_, h9_, h10_, h11_, h12_⟩
                                  have n0_ : Aside0 (w47.heap[gb172]? = some (.cells #[.bool a0_0, .int .i64 a0_1, .int .i64 a0_2, .int .u64 a0_3, .int .u64 a0_4, .bool a0_5, .int .u64 x173006_3] 28 (0, 0))) := ⟨h0_⟩
                                  have n1_ : Aside0 (w47.heap[gb183]? = some (.cells #[.bool t176, .int .i64 t177, .int .i64 t178, .int .u64 t179, .int .u64 t180, .bool t181, .int .u64 t182] 28 (0, 0))) := ⟨h1_⟩
                                  have n2_ : Aside0 (w47.heap[gb195]? = some (.cells #[.bool t188, .int .i64 t189, .int .i64 t190, .int .u64 t191, .int .u64 t192, .bool t193, .int .u64 t194] 28 (0, 0))) := ⟨h2_⟩
                                  have n3_ : Aside0 (w47.heap[gb206]? = some (.cells #[.bool false, .int .i64 0, .int .i64 0, .int .u64 0, .int .u64 0, .bool false, .int .u64 0] 28 (0, 0))) := ⟨h3_⟩
                                  have n4_ : Aside0 (w.heap.size ≤ gb206) := ⟨h4_⟩
                                  have n5_ : Aside0 (w.heap.size ≤ gb206) := ⟨h5_⟩
                                  have n6_ : Aside0 (gb172 ≠ gb206) := ⟨h6_⟩
                                  have n7_ : Aside0 (gb206 ≠ gb172) := ⟨h7_⟩
                                  have n8_ : Aside0 (gb183 ≠ gb206) := ⟨h8_⟩
                                  have n9_ : Aside0 (gb206 ≠ gb183) := ⟨h9_⟩
                                  have n10_ : Aside0 (gb195 ≠ gb206) := ⟨h10_⟩
                                  have n11_ : Aside0 (gb206 ≠ gb195) := ⟨h11_⟩
                                  have n12_ : Aside0 (Below w.heap.size w w47) := ⟨h12_⟩
                                  clear BK172
                                  clear BK183
                                  clear BK195
                                  clear HB
                                  clear h0_ h1_ h2_ h3_ h4_ h5_ h6_ h7_ h8_ h9_ h10_ h11_ h12_
                                  have BK172 := n0_
                                  have BK183 := n1_
                                  have BK195 := n2_
                                  have BK206 := n3_
                                  have GW206 := n4_
                                  have GE206 := n5_
                                  have NB172_206 := n6_
                                  have NB206_172 := n7_
                                  have NB183_206 := n8_
                                  have NB206_183 := n9_
                                  have NB195_206 := n10_
                                  have NB206_195 := n11_
                                  have HB := n12_
                                  clear n0_ n1_ n2_ n3_ n4_ n5_ n6_ n7_ n8_ n9_ n10_ n11_ n12_
                                  have hHeld : w47.cell? ⟨gb195, 0, none⟩ = some (.bool t188) ∧ w47.cell? ⟨gb195, 1, none⟩ = some (.int .i64 t189) ∧ w47.cell? ⟨gb195, 2, none⟩ = some (.int .i64 t190) ∧ w47.cell? ⟨gb195, 3, none⟩ = some (.int .u64 t191) ∧ w47.cell? ⟨gb195, 4, none⟩ = some (.int .u64 t192) ∧ w47.cell? ⟨gb195, 5, none⟩ = some (.bool t193) ∧ w47.cell? ⟨gb195, 6, none⟩ = some (.int .u64 t194) := hS_
                                  refine norm_ (a' := ?_) ?_ ?_
                                  rotate_left
                                  · simp only [putAll, Act.put, List.setIfInBounds_toArray, List.set_cons_zero, List.set_cons_succ]
                                    rfl
                                  refine pure_ (i := 13) (N := some 14) (v := ?_) (a' := ?_) #[true, true, true, true, true, true, true, true, true, true, true, true, true, true, false, false] rfl rfl (any_of HT_.out (by kernel_rfl)) (fun _ _ _ h => h) (Or.inl ⟨by rfl, ?_⟩) ?_ ?_
                                  rotate_left
                                  · intro w'
                                    go_simp
                                    with_reducible rfl
                                  rotate_left
                                  · simp only [Act.put, List.setIfInBounds_toArray, List.set_cons_zero, List.set_cons_succ, i64_w, i32_w]
                                    rfl
                                  refine pure_ (i := 14) (N := some 15) (v := ?_) (a' := ?_) #[true, true, true, true, true, true, true, true, true, true, true, true, true, true, true, false] rfl rfl (any_of HT_.out (by kernel_rfl)) (fun _ _ _ h => h) (Or.inl ⟨by rfl, ?_⟩) ?_ ?_
                                  rotate_left
                                  · intro w'
                                    go_simp
                                    with_reducible rfl
                                  rotate_left
                                  · simp only [Act.put, List.setIfInBounds_toArray, List.set_cons_zero, List.set_cons_succ, i64_w, i32_w]
                                    rfl
                                  refine one_ (i := 15) (N := none) #[true, true, true, true, true, true, true, true, true, true, true, true, true, true, true, true] rfl rfl (one_of HT_.out (by kernel_rfl)) (by decide) (fun K hK => ?_)
                                  have hs48 : w47.cell? ⟨gb206, 0, none⟩ = some (.bool false) := (blk_cell BK206.out 0).trans rfl
                                  have hfs48 := blk_frozen BK206.out 0
                                  have hns48_0 := NB172_206.out
                                  have hns48_1 := NB183_206.out
                                  have hns48_2 := NB195_206.out
                                  have hms48_0 := NB206_172.out
                                  have hms48_1 := NB206_183.out
                                  have hms48_2 := NB206_195.out
                                  have hs49 : w47.cell? ⟨gb206, 1, none⟩ = some (.int .i64 0) := (blk_cell BK206.out 1).trans rfl
                                  have hfs49 := blk_frozen BK206.out 1
                                  have hns49_0 := NB172_206.out
                                  have hns49_1 := NB183_206.out
                                  have hns49_2 := NB195_206.out
                                  have hms49_0 := NB206_172.out
                                  have hms49_1 := NB206_183.out
                                  have hms49_2 := NB206_195.out
                                  have hs50 : w47.cell? ⟨gb206, 2, none⟩ = some (.int .i64 0) := (blk_cell BK206.out 2).trans rfl
                                  have hfs50 := blk_frozen BK206.out 2
                                  have hns50_0 := NB172_206.out
                                  have hns50_1 := NB183_206.out
                                  have hns50_2 := NB195_206.out
                                  have hms50_0 := NB206_172.out
                                  have hms50_1 := NB206_183.out
                                  have hms50_2 := NB206_195.out
                                  have hs51 : w47.cell? ⟨gb206, 3, none⟩ = some (.int .u64 0) := (blk_cell BK206.out 3).trans rfl
                                  have hfs51 := blk_frozen BK206.out 3
                                  have hns51_0 := NB172_206.out
                                  have hns51_1 := NB183_206.out
                                  have hns51_2 := NB195_206.out
                                  have hms51_0 := NB206_172.out
                                  have hms51_1 := NB206_183.out
                                  have hms51_2 := NB206_195.out
                                  have hs52 : w47.cell? ⟨gb206, 4, none⟩ = some (.int .u64 0) := (blk_cell BK206.out 4).trans rfl
                                  have hfs52 := blk_frozen BK206.out 4
                                  have hns52_0 := NB172_206.out
                                  have hns52_1 := NB183_206.out
                                  have hns52_2 := NB195_206.out
                                  have hms52_0 := NB206_172.out
                                  have hms52_1 := NB206_183.out
                                  have hms52_2 := NB206_195.out
                                  have hs53 : w47.cell? ⟨gb206, 5, none⟩ = some (.bool false) := (blk_cell BK206.out 5).trans rfl
                                  have hfs53 := blk_frozen BK206.out 5
                                  have hns53_0 := NB172_206.out
                                  have hns53_1 := NB183_206.out
                                  have hns53_2 := NB195_206.out
                                  have hms53_0 := NB206_172.out
                                  have hms53_1 := NB206_183.out
                                  have hms53_2 := NB206_195.out
                                  have hs54 : w47.cell? ⟨gb206, 6, none⟩ = some (.int .u64 0) := (blk_cell BK206.out 6).trans rfl
                                  have hfs54 := blk_frozen BK206.out 6
                                  have hns54_0 := NB172_206.out
                                  have hns54_1 := NB183_206.out
                                  have hns54_2 := NB195_206.out
                                  have hms54_0 := NB206_172.out
                                  have hms54_1 := NB206_183.out
                                  have hms54_2 := NB206_195.out
                                  refine skip_ (w1 := ?_) (by rfl) rfl ?_ ?_
                                  rotate_left
                                  · go_simp
                                    rfl
                                  refine hK.out _ _ ⟨((cell_far (p := ⟨gb206, _, none⟩) NB195_206.out _).trans (((cell_far (p := ⟨gb206, _, none⟩) NB195_206.out _).trans (((cell_far (p := ⟨gb206, _, none⟩) NB195_206.out _).trans (((cell_far (p := ⟨gb206, _, none⟩) NB195_206.out _).trans (((cell_far (p := ⟨gb206, _, none⟩) NB195_206.out _).trans (((cell_far (p := ⟨gb206, _, none⟩) NB195_206.out _).trans (((cell_far (p := ⟨gb206, _, none⟩) NB195_206.out _).trans (hHeld.1)))))))))))))), ((cell_far (p := ⟨gb206, _, none⟩) NB195_206.out _).trans (((cell_far (p := ⟨gb206, _, none⟩) NB195_206.out _).trans (((cell_far (p := ⟨gb206, _, none⟩) NB195_206.out _).trans (((cell_far (p := ⟨gb206, _, none⟩) NB195_206.out _).trans (((cell_far (p := ⟨gb206, _, none⟩) NB195_206.out _).trans (((cell_far (p := ⟨gb206, _, none⟩) NB195_206.out _).trans (((cell_far (p := ⟨gb206, _, none⟩) NB195_206.out _).trans (hHeld.2.1)))))))))))))), ((cell_far (p := ⟨gb206, _, none⟩) NB195_206.out _).trans (((cell_far (p := ⟨gb206, _, none⟩) NB195_206.out _).trans (((cell_far (p := ⟨gb206, _, none⟩) NB195_206.out _).trans (((cell_far (p := ⟨gb206, _, none⟩) NB195_206.out _).trans (((cell_far (p := ⟨gb206, _, none⟩) NB195_206.out _).trans (((cell_far (p := ⟨gb206, _, none⟩) NB195_206.out _).trans (((cell_far (p := ⟨gb206, _, none⟩) NB195_206.out _).trans (hHeld.2.2.1)))))))))))))), ((cell_far (p := ⟨gb206, _, none⟩) NB195_206.out _).trans (((cell_far (p := ⟨gb206, _, none⟩) NB195_206.out _).trans (((cell_far (p := ⟨gb206, _, none⟩) NB195_206.out _).trans (((cell_far (p := ⟨gb206, _, none⟩) NB195_206.out _).trans (((cell_far (p := ⟨gb206, _, none⟩) NB195_206.out _).trans (((cell_far (p := ⟨gb206, _, none⟩) NB195_206.out _).trans (((cell_far (p := ⟨gb206, _, none⟩) NB195_206.out _).trans (hHeld.2.2.2.1)))))))))))))), ((cell_far (p := ⟨gb206, _, none⟩) NB195_206.out _).trans (((cell_far (p := ⟨gb206, _, none⟩) NB195_206.out _).trans (((cell_far (p := ⟨gb206, _, none⟩) NB195_206.out _).trans (((cell_far (p := ⟨gb206, _, none⟩) NB195_206.out _).trans (((cell_far (p := ⟨gb206, _, none⟩) NB195_206.out _).trans (((cell_far (p := ⟨gb206, _, none⟩) NB195_206.out _).trans (((cell_far (p := ⟨gb206, _, none⟩) NB195_206.out _).trans (hHeld.2.2.2.2.1)))))))))))))), ((cell_far (p := ⟨gb206, _, none⟩) NB195_206.out _).trans (((cell_far (p := ⟨gb206, _, none⟩) NB195_206.out _).trans (((cell_far (p := ⟨gb206, _, none⟩) NB195_206.out _).trans (((cell_far (p := ⟨gb206, _, none⟩) NB195_206.out _).trans (((cell_far (p := ⟨gb206, _, none⟩) NB195_206.out _).trans (((cell_far (p := ⟨gb206, _, none⟩) NB195_206.out _).trans (((cell_far (p := ⟨gb206, _, none⟩) NB195_206.out _).trans (hHeld.2.2.2.2.2.1)))))))))))))), ((cell_far (p := ⟨gb206, _, none⟩) NB195_206.out _).trans (((cell_far (p := ⟨gb206, _, none⟩) NB195_206.out _).trans (((cell_far (p := ⟨gb206, _, none⟩) NB195_206.out _).trans (((cell_far (p := ⟨gb206, _, none⟩) NB195_206.out _).trans (((cell_far (p := ⟨gb206, _, none⟩) NB195_206.out _).trans (((cell_far (p := ⟨gb206, _, none⟩) NB195_206.out _).trans (((cell_far (p := ⟨gb206, _, none⟩) NB195_206.out _).trans (hHeld.2.2.2.2.2.2))))))))))))))⟩ (fun hHeld => ?_)
                                  clear hK K
                                  refine done_ (done_of HT_.out (by kernel_rfl)) ?_
                                  have hnb55 := NB206_172.out
                                  have hnc55 := NB172_206.out
                                  have hnb56 := NB206_183.out
                                  have hnc56 := NB183_206.out
                                  have hnb57 := NB206_195.out
                                  have hnc57 := NB195_206.out
                                  have hcz58_0 : w47.cell? ⟨gb206, 0, none⟩ = some (.bool false) := (blk_cell BK206.out 0).trans rfl
                                  have hcz58_1 : w47.cell? ⟨gb206, 1, none⟩ = some (.int .i64 0) := (blk_cell BK206.out 1).trans rfl
                                  have hcz58_2 : w47.cell? ⟨gb206, 2, none⟩ = some (.int .i64 0) := (blk_cell BK206.out 2).trans rfl
                                  have hcz58_3 : w47.cell? ⟨gb206, 3, none⟩ = some (.int .u64 0) := (blk_cell BK206.out 3).trans rfl
                                  have hcz58_4 : w47.cell? ⟨gb206, 4, none⟩ = some (.int .u64 0) := (blk_cell BK206.out 4).trans rfl
                                  have hcz58_5 : w47.cell? ⟨gb206, 5, none⟩ = some (.bool false) := (blk_cell BK206.out 5).trans rfl
                                  have hcz58_6 : w47.cell? ⟨gb206, 6, none⟩ = some (.int .u64 0) := (blk_cell BK206.out 6).trans rfl
                                  have hfz58_0 := blk_frozen BK206.out 0
                                  have hfz58_1 := blk_frozen BK206.out 1
                                  have hfz58_2 := blk_frozen BK206.out 2
                                  have hfz58_3 := blk_frozen BK206.out 3
                                  have hfz58_4 := blk_frozen BK206.out 4
                                  have hfz58_5 := blk_frozen BK206.out 5
                                  have hfz58_6 := blk_frozen BK206.out 6
                                  have hnb59 := NB183_172.out
                                  have hnc59 := NB172_183.out
                                  have hnb60 := NB183_195.out
                                  have hnc60 := NB195_183.out
                                  have hcz61_0 : w47.cell? ⟨gb183, 0, none⟩ = some (.bool t176) := (blk_cell BK183.out 0).trans rfl
                                  have hcz61_1 : w47.cell? ⟨gb183, 1, none⟩ = some (.int .i64 t177) := (blk_cell BK183.out 1).trans rfl
                                  have hcz61_2 : w47.cell? ⟨gb183, 2, none⟩ = some (.int .i64 t178) := (blk_cell BK183.out 2).trans rfl
                                  have hcz61_3 : w47.cell? ⟨gb183, 3, none⟩ = some (.int .u64 t179) := (blk_cell BK183.out 3).trans rfl
                                  have hcz61_4 : w47.cell? ⟨gb183, 4, none⟩ = some (.int .u64 t180) := (blk_cell BK183.out 4).trans rfl
                                  have hcz61_5 : w47.cell? ⟨gb183, 5, none⟩ = some (.bool t181) := (blk_cell BK183.out 5).trans rfl
                                  have hcz61_6 : w47.cell? ⟨gb183, 6, none⟩ = some (.int .u64 t182) := (blk_cell BK183.out 6).trans rfl
                                  have hfz61_0 := blk_frozen BK183.out 0
                                  have hfz61_1 := blk_frozen BK183.out 1
                                  have hfz61_2 := blk_frozen BK183.out 2
                                  have hfz61_3 := blk_frozen BK183.out 3
                                  have hfz61_4 := blk_frozen BK183.out 4
                                  have hfz61_5 := blk_frozen BK183.out 5
                                  have hfz61_6 := blk_frozen BK183.out 6
                                  try go_wp2
                                  go_roundg k3
                                  case measure => have := HJ3.out; have := HJ10.out; have := HK3.out; omega
                                  case rel => exact ⟨(wrap64 (x10_3 + 1)), (by first | rfl | (simp; done) | (simp [*]; done)), H', ⟨by have := HJ3.out; have := HJ10.out; have := HK3.out; omega⟩, ⟨by (with_reducible repeat (first | refine blk_drewN ?_ _ | refine blk_drew ?_ | refine blk_alloc ?_ _)); refine blk_far ?_ NB172_206.out _; (with_reducible repeat (first | refine blk_drewN ?_ _ | refine blk_drew ?_ | refine blk_alloc ?_ _)); refine blk_far ?_ NB172_206.out _; (with_reducible repeat (first | refine blk_drewN ?_ _ | refine blk_drew ?_ | refine blk_alloc ?_ _)); refine blk_far ?_ NB172_206.out _; (with_reducible repeat (first | refine blk_drewN ?_ _ | refine blk_drew ?_ | refine blk_alloc ?_ _)); refine blk_far ?_ NB172_206.out _; (with_reducible repeat (first | refine blk_drewN ?_ _ | refine blk_drew ?_ | refine blk_alloc ?_ _)); refine blk_far ?_ NB172_206.out _; (with_reducible repeat (first | refine blk_drewN ?_ _ | refine blk_drew ?_ | refine blk_alloc ?_ _)); refine blk_far ?_ NB172_206.out _; (with_reducible repeat (first | refine blk_drewN ?_ _ | refine blk_drew ?_ | refine blk_alloc ?_ _)); refine blk_far ?_ NB172_206.out _; (with_reducible repeat (first | refine blk_drewN ?_ _ | refine blk_drew ?_ | refine blk_alloc ?_ _)); exact BK172.out⟩, ⟨by (with_reducible repeat (first | refine blk_drewN ?_ _ | refine blk_drew ?_ | refine blk_alloc ?_ _)); refine blk_far ?_ NB183_206.out _; (with_reducible repeat (first | refine blk_drewN ?_ _ | refine blk_drew ?_ | refine blk_alloc ?_ _)); refine blk_far ?_ NB183_206.out _; (with_reducible repeat (first | refine blk_drewN ?_ _ | refine blk_drew ?_ | refine blk_alloc ?_ _)); refine blk_far ?_ NB183_206.out _; (with_reducible repeat (first | refine blk_drewN ?_ _ | refine blk_drew ?_ | refine blk_alloc ?_ _)); refine blk_far ?_ NB183_206.out _; (with_reducible repeat (first | refine blk_drewN ?_ _ | refine blk_drew ?_ | refine blk_alloc ?_ _)); refine blk_far ?_ NB183_206.out _; (with_reducible repeat (first | refine blk_drewN ?_ _ | refine blk_drew ?_ | refine blk_alloc ?_ _)); refine blk_far ?_ NB183_206.out _; (with_reducible repeat (first | refine blk_drewN ?_ _ | refine blk_drew ?_ | refine blk_alloc ?_ _)); refine blk_far ?_ NB183_206.out _; (with_reducible repeat (first | refine blk_drewN ?_ _ | refine blk_drew ?_ | refine blk_alloc ?_ _)); exact BK183.out⟩, ⟨by repeat (first | (with_reducible first | exact HB.out | apply below_alloc | apply pw_below_drewN | apply below_drew1 | refine below_set ?_ GE172.out | refine below_set ?_ GE183.out | refine below_set ?_ GE195.out | refine below_set ?_ GE206.out) | exact HB.out)⟩⟩
                              · rw [if_neg c28] at H
                                have c28b0 : ((IntKind.u64.wrap (t187 + t198)) == t175) = false := beq_eq_false_iff_ne.mpr c28
                                have c28b1 : ((IntKind.u64.wrap (t187 + t198)) != t175) = true := bne_iff_ne.mpr c28
                                exact absurd (hr_.out ▸ H) (by decide)
                            · rw [if_neg c27] at H
                              have c27b0 : ((wrap64 (t186 + t197)) == t174) = false := beq_eq_false_iff_ne.mpr c27
                              have c27b1 : ((wrap64 (t186 + t197)) != t174) = true := bne_iff_ne.mpr c27
                              exact absurd (hr_.out ▸ H) (by decide)
                          · rw [if_neg c26] at H
                            have c26b0 : (t186 == x10_3) = false := beq_eq_false_iff_ne.mpr c26
                            have c26b1 : (t186 != x10_3) = true := bne_iff_ne.mpr c26
                            exact absurd (hr_.out ▸ H) (by decide)
                        · rw [if_neg c24] at H
                          exact absurd H (by simp)
                      · rw [if_neg c23] at H
                        exact absurd H (by simp)
                    · rw [if_neg c21] at H
                      exact absurd H (by simp)
                  · rw [if_neg c20] at H
                    exact absurd H (by simp)
                · rw [if_neg c19] at H
                  have c19b0 : decide (x10_3 ≤ t174) = false := decide_eq_false c19
                  clear c19
                  replace H := Option.bind_eq_some_iff.mp H
                  obtain ⟨t184, A620, H⟩ := H
                  replace H : (some t184) = some r := H
                  have A62 := Aside0.mk A620
                  clear A620
                  obtain rfl := Option.some.inj H
                  go_wp2_with (first | ((with_reducible refine gate_callee (f := 15) rfl ?_); refine goesL_ (some 90) rfl rfl Try.func15 (by kernel_rfl) rfl #[] rfl (by (try simp only [List.map_toArray, List.map_cons, List.map_nil]); first | done | rfl | (simp only [List.length_drop, List.length_take]; rfl)) ?_; (with_reducible refine (rotalaw22_awake.calls k3  t184 _ A62.out).mono ?_); rintro e w63 ⟨rfl, hb⟩; refine ⟨_, rfl, ?_⟩; have n0_ := Aside0.mk (blk_below (g := gb172) (o := .cells #[.bool a0_0, .int .i64 a0_1, .int .i64 a0_2, .int .u64 a0_3, .int .u64 a0_4, .bool a0_5, .int .u64 x173006_3] 28 (0, 0)) (by (with_reducible repeat (first | refine blk_drewN ?_ _ | refine blk_drew ?_ | refine blk_alloc ?_ _)); exact BK172.out) hb); have n1_ := Aside0.mk (blk_below (g := gb183) (o := .cells #[.bool t176, .int .i64 t177, .int .i64 t178, .int .u64 t179, .int .u64 t180, .bool t181, .int .u64 t182] 28 (0, 0)) (by (with_reducible repeat (first | refine blk_drewN ?_ _ | refine blk_drew ?_ | refine blk_alloc ?_ _)); exact BK183.out) hb); have n2_ := Aside0.mk (below_step (by repeat (first | (with_reducible first | exact HB.out | apply below_alloc | apply pw_below_drewN | apply below_drew1 | refine below_set ?_ GE172.out | refine below_set ?_ GE183.out) | exact HB.out)) hb); clear BK172; clear BK183; clear HB; have BK172 := n0_; have BK183 := n1_; have HB := n2_; clear n0_ n1_ n2_; (try clear hb); (try clear hb2); (try clear hk); (try clear hi)))
                  go_ret
                  exact ⟨by first | rfl | (simp [errW_none, errW_some] <;> rfl) | (simp [*, errW_none, errW_some] <;> rfl), by repeat (first | (with_reducible first | exact HB.out | apply below_alloc | apply pw_below_drewN | apply below_drew1 | refine below_set ?_ GE172.out | refine below_set ?_ GE183.out) | exact HB.out)⟩

/-- THE ONE PURE STATEMENT of rotalaw22_SliceSplit: yours. -/
def rotalaw22_SliceSplit.Pure : Prop := ∀ (a0_0 : Bool) (a0_1 : Int) (a0_2 : Int) (a0_3 : Int) (a0_4 : Int) (a0_5 : Bool) (a0_6 : Int) (l1 : List Int) (a2 : Int), (Lit.int .i64 a0_1).wf = true → (Lit.int .i64 a0_2).wf = true → (Lit.int .u64 a0_3).wf = true → (Lit.int .u64 a0_4).wf = true → (Lit.int .u64 a0_6).wf = true → l1.length ≤ maxLen → l1.length * 8 ≤ 140737488351232 → (∀ x ∈ l1, (Lit.int .u64 x).wf = true) → (Lit.int .u64 a2).wf = true → ∃ k, rotalaw22_SliceSplit.f k a0_0 a0_1 a0_2 a0_3 a0_4 a0_5 a0_6 l1 a2 = some true
theorem rotalaw22_SliceSplit.walk (P : rotalaw22_SliceSplit.Pure) (a0_0 : Bool) (a0_1 : Int) (a0_2 : Int) (a0_3 : Int) (a0_4 : Int) (a0_5 : Bool) (a0_6 : Int) (a1 : Option Addr) (len1 cap1 : Nat) (z1 : List Int) (a2 : Int) (w : World) (w0_1 : (Lit.int .i64 a0_1).wf = true) (w0_2 : (Lit.int .i64 a0_2).wf = true) (w0_3 : (Lit.int .u64 a0_3).wf = true) (w0_4 : (Lit.int .u64 a0_4).wf = true) (w0_6 : (Lit.int .u64 a0_6).wf = true) (w1 : (a1 = none ∧ len1 = 0 ∧ cap1 = 0 ∧ z1 = []) ∨ ∃ x, a1 = some x ∧ len1 ≤ cap1 ∧ cap1 ≤ maxLen ∧ z1.length = cap1 ∧ (∀ i, i < z1.length → w.cell? (x.add i) = some (.int .u64 (z1.getD i 0))) ∧ ∀ n ∈ z1, (Lit.int .u64 n).wf = true) (y1 : len1 * 8 ≤ 140737488351232) (w2 : (Lit.int .u64 a2).wf = true) :
    Calls Try.prog 9 #[.agg #[.bool a0_0, .int .i64 a0_1, .int .i64 a0_2, .int .u64 a0_3, .int .u64 a0_4, .bool a0_5, .int .u64 a0_6], .slice a1 len1 cap1, .int .u64 a2] w fun e w' => e = .returned (.bool true) ∧ Below w.heap.size w w' := by
  obtain ⟨l1, rfl, hr1, hm1, hw1, hc1⟩ := ReadsInt.ofRowC w1
  obtain ⟨k, h⟩ := P a0_0 a0_1 a0_2 a0_3 a0_4 a0_5 a0_6 l1 a2 w0_1 w0_2 w0_3 w0_4 w0_6 hm1 y1 hw1 w2
  refine (rotalaw22_SliceSplit.calls k a0_0 a0_1 a0_2 a0_3 a0_4 a0_5 a0_6 _ _ l1 a2 true w (Kd.C_of_reads (d := (0 : Int)) (h1 := fun _ => rfl) hr1) hc1 h ⟨rfl⟩).mono ?_
  rintro e w' ⟨rfl, hd⟩
  exact ⟨rfl, hd⟩

end Go.Proofs.Ytdmfoeokfmgglaa.PSliceSplit
