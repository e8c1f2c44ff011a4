/- What Run does in a window it does in two parts of it, where the parts meet between instructions: no condition. -/
import Derived.Test.YtdmfoeokfmgglaaRows
import Derived.Test.YtdmfoeokfmgglaaPSliceSplitx4
import Derived.Test.YtdmfoeokfmgglaaPureSliceSplit
import Derived.WalkKit
import Derived.ProofKit
import Derived.OpenShut
import Derived.ShutString
import Derived.ChangeOld
import Derived.Below
import Derived.SizedLaws
import Derived.ChangeSame
import Derived.Test.YtdmfoeokfmgglaaWSized
namespace Go.Proofs.Ytdmfoeokfmgglaa.sliceSplit
open Go.ChangeShapes Go.WideShapes Go.ChangeAt Go.RowKit
open Go.ChangeMaps (open_string shut_string)
set_option linter.unusedVariables false
set_option linter.unusedSimpArgs false
theorem own : ownKnob Try.prog.godebug = none := by kernel_rfl
theorem laidOut : laidOutB Try.prog = true := by kernel_rfl
def IsRow (k : IntKind) (w : World) (a : Option Addr) (len cap : Nat) (zs : List Int) : Prop :=
  (a = none ∧ len = 0 ∧ cap = 0 ∧ zs = []) ∨
  ∃ x, a = some x ∧ len ≤ cap ∧ cap ≤ maxLen ∧ zs.length = cap ∧ (∀ i, i < zs.length → w.cell? (x.add i) = some (.int k (zs.getD i 0))) ∧ ∀ n ∈ zs, (Lit.int k n).wf = true
section
variable {H : Type} {enc : TypeId × Value → H} {w : World} {base : Nat} {spare : Nat → Bool} {held : Bool}
theorem trod_field {P : Program} {t : TypeId} {fs : Array Field} {fuel : Nat} {cs : List Value} {x : DataW H × List MemPlace} (ht : P.underlying t = some (.struct fs)) (h : DataW.trod enc P w base spare held fuel t cs = some x) (i : Nat) (f : Field) (hf : fs[i]? = some f) :
    ∃ n y, DataW.trod enc P w base spare held n f.type ((cs.drop f.offset).take (P.cellsOf f.type)) = some y := by
  obtain ⟨xs, n, _, _, _, hlen, hg⟩ := DataW.trod_struct ht h
  have hi : i < xs.length := by rw [hlen]; exact (Array.getElem?_eq_some_iff.1 hf).1
  exact ⟨n, xs[i], (hg i f hf).trans (List.getElem?_eq_getElem hi)⟩
theorem cells_t3 : Try.prog.cellsOf 3 = 1 := by kernel_rfl
theorem cells_t4 : Try.prog.cellsOf 4 = 1 := by kernel_rfl
theorem cells_t23 : Try.prog.cellsOf 23 = 2 := by kernel_rfl
theorem cells_t24 : Try.prog.cellsOf 24 = 1 := by kernel_rfl
theorem cells_t26 : Try.prog.cellsOf 26 = 3 := by kernel_rfl
theorem cells_t28 : Try.prog.cellsOf 28 = 7 := by kernel_rfl
theorem of_len7 {l : List Value} (h : l.length = 7) : ∃ c0 c1 c2 c3 c4 c5 c6, l = [c0, c1, c2, c3, c4, c5, c6] := by
  match l, h with
  | [c0, c1, c2, c3, c4, c5, c6], _ => exact ⟨c0, c1, c2, c3, c4, c5, c6, rfl⟩
theorem open_t28 {r : Reach} {b0 : Nat} {v : Value} {d : DataW H} {p : List MemPlace} (hv : Value.okWide Try.prog w r b0 28 v) (h : DataW.Trod enc Try.prog w base spare held 28 v d p) :
    ∃ (d0 : Bool) (d1 : Int) (d2 : Int) (d3 : Int) (d4 : Int) (d5 : Bool) (d6 : Int), v = .agg #[.bool d0, .int .i64 d1, .int .i64 d2, .int .u64 d3, .int .u64 d4, .bool d5, .int .u64 d6] ∧ (Lit.int .i64 d1).wf = true ∧ (Lit.int .i64 d2).wf = true ∧ (Lit.int .u64 d3).wf = true ∧ (Lit.int .u64 d4).wf = true ∧ (Lit.int .u64 d6).wf = true := by
  obtain ⟨cs, rfl, hsz⟩ := okWide_struct Try.underlying28 hv
  obtain ⟨l⟩ := cs
  obtain ⟨c0, c1, c2, c3, c4, c5, c6, rfl⟩ := of_len7 (hsz.trans cells_t28)
  obtain ⟨fuel, hf⟩ := h
  obtain ⟨nhf_0, yhf_0, hf_0⟩ := trod_field Try.underlying28 hf 0 _ rfl
  obtain ⟨d0, e0, _⟩ := DataW.trod_bool Try.underlying4 hf_0
  obtain ⟨nhf_1, yhf_1, hf_1⟩ := trod_field Try.underlying28 hf 1 _ rfl
  obtain ⟨nhf_1_0, yhf_1_0, hf_1_0⟩ := trod_field Try.underlying26 hf_1 0 _ rfl
  obtain ⟨nhf_1_0_0, yhf_1_0_0, hf_1_0_0⟩ := trod_field Try.underlying23 hf_1_0 0 _ rfl
  obtain ⟨d1, e1, _, w1⟩ := DataW.trod_int Try.underlying3 hf_1_0_0
  obtain ⟨nhf_1_0_1, yhf_1_0_1, hf_1_0_1⟩ := trod_field Try.underlying23 hf_1_0 1 _ rfl
  obtain ⟨d2, e2, _, w2⟩ := DataW.trod_int Try.underlying3 hf_1_0_1
  obtain ⟨nhf_1_1, yhf_1_1, hf_1_1⟩ := trod_field Try.underlying26 hf_1 1 _ rfl
  obtain ⟨d3, e3, _, w3⟩ := DataW.trod_int Try.underlying24 hf_1_1
  obtain ⟨nhf_2, yhf_2, hf_2⟩ := trod_field Try.underlying28 hf 2 _ rfl
  obtain ⟨d4, e4, _, w4⟩ := DataW.trod_int Try.underlying24 hf_2
  obtain ⟨nhf_3, yhf_3, hf_3⟩ := trod_field Try.underlying28 hf 3 _ rfl
  obtain ⟨d5, e5, _⟩ := DataW.trod_bool Try.underlying4 hf_3
  obtain ⟨nhf_4, yhf_4, hf_4⟩ := trod_field Try.underlying28 hf 4 _ rfl
  obtain ⟨d6, e6, _, w6⟩ := DataW.trod_int Try.underlying24 hf_4
  simp [Value.cells, cells_t3, cells_t4, cells_t23, cells_t24, cells_t26, cells_t28] at e0 e1 e2 e3 e4 e5 e6
  subst e0 e1 e2 e3 e4 e5 e6
  exact ⟨d0, d1, d2, d3, d4, d5, d6, rfl, w1, w2, w3, w4, w6⟩
end
set_option maxRecDepth 100000 in
theorem lifted (os : Os) (started : os.Started) (H : Type) (enc : TypeId × Value → H) :
    ReturnsInHanded {} Try.checked os 9 .any (Rows.sliceSplitSpec.pre6 enc Try.prog Try.f9 Rows.sliceSplitRow.domain false) (Rows.sliceSplitSpec.post enc Try.prog Try.f9 false true false false) := by
  refine returnsInHanded_of_change_sized (C := Try.checked) own started (by kernel_rfl) Try.func9
    (ChangeSpec.witness6 (enc := enc) (C := Try.checked) false ⟨#[], #[.agg #[.bool false, .int .i64 0, .int .i64 0, .int .u64 0, .int .u64 0, .bool false, .int .u64 0], .slice none 0 0, .int .u64 0], []⟩ 8 (by kernel_rfl) (by kernel_rfl) (by kernel_rfl) (by kernel_rfl)) ?_
  intro W base args ds gs before hval0 hW hcnd hsz0 _
  have hsz : (DataW.weightsEach Try.prog (Try.f9.params.toList ++ Rows.sliceSplitSpec.plain.varTypes Try.prog) (ds ++ gs)).all (· ≤ reachBytes) = true := hsz0
  have hval : ∀ (j : Nat) t v, Try.f9.params[j]? = some t → args[j]? = some v → Value.okWide Try.prog W .any base t v := hval0
  have hW' := hW
  obtain ⟨p, q, hA0, hV, rfl, hfz, hnd⟩ := hW
  have hA : DataW.TrodAll enc Try.prog W 0 (fun _ => true) true Try.f9.params.toList args.toList ds p := hA0
  rw [Try.params9] at hA hval hsz
  obtain ⟨v0, vs0, d0, ds0, p0, q0, hargs, rfl, rfl, h0, r0⟩ := trodAll_cons hA
  obtain ⟨v1, vs1, d1, ds1, p1, q1, rfl, rfl, rfl, h1, r1⟩ := trodAll_cons r0
  obtain ⟨v2, vs2, d2, ds2, p2, q2, rfl, rfl, rfl, h2, r2⟩ := trodAll_cons r1
  obtain ⟨rfl, rfl, rfl⟩ := trodAll_nil r2
  obtain rfl : args = #[v0, v1, v2] := by cases args; simp_all
  obtain ⟨rfl, rfl⟩ := trodVars_none hV
  have k0 := h0
  have lt0 : ∀ x ∈ p0, x.block < W.heap.size := by obtain ⟨m, hm⟩ := k0; exact DataW.trod_lt m _ _ _ hm
  obtain ⟨a0_0, a0_1, a0_2, a0_3, a0_4, a0_5, a0_6, rfl, w0_1, w0_2, w0_3, w0_4, w0_6⟩ := open_t28 (hval 0 28 v0 rfl rfl) k0
  obtain ⟨a1, len1, cap1, rfl⟩ := okWide_slice Try.underlying47 (hval 1 47 v1 rfl rfl)
  have k1 := h1
  have lt1 : ∀ x ∈ p1, x.block < W.heap.size := by obtain ⟨m, hm⟩ := k1; exact DataW.trod_lt m _ _ _ hm
  obtain ⟨z1, w1⟩ : ∃ zs, IsRow .u64 W a1 len1 cap1 zs := by
    obtain ⟨fuel, hf⟩ := h1
    rcases open_ints Try.underlying47 Try.underlying24 (by kernel_rfl) hf with ⟨hcs, _⟩ | ⟨x, l, c, zs, hcs, _, hl, hm, hz, _, hcell, hwz⟩
    · simp [Value.cells] at hcs
      obtain ⟨rfl, rfl, rfl⟩ := hcs
      exact ⟨[], .inl ⟨rfl, rfl, rfl, rfl⟩⟩
    · simp [Value.cells] at hcs
      obtain ⟨rfl, rfl, rfl⟩ := hcs
      exact ⟨zs, .inr ⟨_, rfl, hl, hm, by simpa using hz, hcell, hwz⟩⟩
  have y1 : len1 * 8 ≤ 140737488351232 := Go.Proofs.YtdmfoeokfmgglaaW.PrintWords.sized_ints hsz (j := 1) (t := 47) rfl rfl Try.underlying47 Try.underlying24 (by kernel_rfl) (by kernel_rfl) h1
  obtain ⟨a2, rfl, rfl, rfl, w2⟩ := open_int Try.underlying24 (hval 2 24 v2 rfl rfl) h2
  clear hA0 hval0 hsz0 hsz
  refine (PSliceSplit.rotalaw22_SliceSplit.walk Pure.SliceSplit a0_0 a0_1 a0_2 a0_3 a0_4 a0_5 a0_6 a1 len1 cap1 z1 a2 W w0_1 w0_2 w0_3 w0_4 w0_6 w1 y1 w2).mono fun e W' ⟨he, bel⟩ => ?_
  subst he
  exact ⟨_, rfl, _, _, _, [], _, [], hW', trodAll_mk1 (shut_bool Try.underlying4 _), (trodAll_cons_mk (Below.trod laidOut (by kernel_rfl) (of_decide_eq_true (by kernel_rfl)) k0 bel lt0) (trodAll_cons_mk (Below.trod laidOut (by kernel_rfl) (of_decide_eq_true (by kernel_rfl)) k1 bel lt1) (trodAll_cons_mk (shut_int Try.underlying24 w2) trodAll_mk0))), rfl, bel.frame _, fun h => by cases h⟩
theorem over : Rows.sliceSplitRow.holds Try.pinned (OpenSpec.ofChange Rows.sliceSplitSpec) :=
  OpenClaim.holds_of_wide 9 Try.f9 rfl rfl rfl rfl rfl rfl rfl ⟨rfl, rfl, rfl, rfl, rfl⟩ rfl rfl rfl rfl rfl (by kernel_rfl) Try.func9 (by kernel_rfl)
    (of_decide_eq_true (by kernel_rfl)) (by unfold Func.isWrapper; first | (rw [if_pos (by decide +kernel)]; kernel_rfl) | (rw [if_neg (by decide +kernel)]; exact ⟨rfl, rfl⟩))
    (fun os started H enc _ => lifted os started H enc)
theorem proved : Rows.SliceSplitSaid := over
#print axioms proved
end Go.Proofs.Ytdmfoeokfmgglaa.sliceSplit
namespace Go.Proofs.Ytdmfoeokfmgglaa
/-- The row, under a short name, for the claim. -/
theorem sliceSplit_holds : Rows.SliceSplitSaid := sliceSplit.proved
end Go.Proofs.Ytdmfoeokfmgglaa
