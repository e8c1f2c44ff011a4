/- Count of any ticks and window answers as the document's reference does: no condition. -/
import Derived.Test.YtafgilnjggindaaRows
import Derived.Test.YtafgilnjggindaaPTickCountsx2
import Derived.Test.YtafgilnjggindaaPureTickCounts
import Derived.WalkKit
import Derived.ProofKit
import Derived.OpenShut
import Derived.ShutString
import Derived.ChangeOld
import Derived.Below
import Derived.SizedLaws
import Derived.ChangeSame
import Derived.Test.YtafgilnjggindaaWSized
namespace Go.Proofs.Ytafgilnjggindaa.tickCounts
open Go.ChangeShapes Go.WideShapes Go.ChangeAt Go.RowKit
open Go.ChangeMaps (open_string shut_string)
set_option linter.unusedVariables false
set_option linter.unusedSimpArgs false
theorem own : ownKnob Try.prog.godebug = none := by kernel_rfl
theorem laidOut : laidOutB Try.prog = true := by kernel_rfl
def IsRow (k : IntKind) (w : World) (a : Option Addr) (len cap : Nat) (zs : List Int) : Prop :=
  (a = none ∧ len = 0 ∧ cap = 0 ∧ zs = []) ∨
  ∃ x, a = some x ∧ len ≤ cap ∧ cap ≤ maxLen ∧ zs.length = cap ∧ (∀ i, i < zs.length → w.cell? (x.add i) = some (.int k (zs.getD i 0))) ∧ ∀ n ∈ zs, (Lit.int k n).wf = true
section
variable {H : Type} {enc : TypeId × Value → H} {w : World} {base : Nat} {spare : Nat → Bool} {held : Bool}
theorem trod_field {P : Program} {t : TypeId} {fs : Array Field} {fuel : Nat} {cs : List Value} {x : DataW H × List MemPlace} (ht : P.underlying t = some (.struct fs)) (h : DataW.trod enc P w base spare held fuel t cs = some x) (i : Nat) (f : Field) (hf : fs[i]? = some f) :
    ∃ n y, DataW.trod enc P w base spare held n f.type ((cs.drop f.offset).take (P.cellsOf f.type)) = some y := by
  obtain ⟨xs, n, _, _, _, hlen, hg⟩ := DataW.trod_struct ht h
  have hi : i < xs.length := by rw [hlen]; exact (Array.getElem?_eq_some_iff.1 hf).1
  exact ⟨n, xs[i], (hg i f hf).trans (List.getElem?_eq_getElem hi)⟩
theorem cells_t22 : Try.prog.cellsOf 22 = 1 := by kernel_rfl
theorem cells_t33 : Try.prog.cellsOf 33 = 2 := by kernel_rfl
theorem cells_t35 : Try.prog.cellsOf 35 = 4 := by kernel_rfl
theorem of_len4 {l : List Value} (h : l.length = 4) : ∃ c0 c1 c2 c3, l = [c0, c1, c2, c3] := by
  match l, h with
  | [c0, c1, c2, c3], _ => exact ⟨c0, c1, c2, c3, rfl⟩
theorem open_t35 {r : Reach} {b0 : Nat} {v : Value} {d : DataW H} {p : List MemPlace} (hv : Value.okWide Try.prog w r b0 35 v) (h : DataW.Trod enc Try.prog w base spare held 35 v d p) :
    ∃ (d0 : Int) (d1 : Int) (d2 : Int) (d3 : Int), v = .agg #[.int .u64 d0, .int .u64 d1, .int .u64 d2, .int .u64 d3] ∧ (Lit.int .u64 d0).wf = true ∧ (Lit.int .u64 d1).wf = true ∧ (Lit.int .u64 d2).wf = true ∧ (Lit.int .u64 d3).wf = true := by
  obtain ⟨cs, rfl, hsz⟩ := okWide_struct Try.underlying35 hv
  obtain ⟨l⟩ := cs
  obtain ⟨c0, c1, c2, c3, rfl⟩ := of_len4 (hsz.trans cells_t35)
  obtain ⟨fuel, hf⟩ := h
  obtain ⟨nhf_0, yhf_0, hf_0⟩ := trod_field Try.underlying35 hf 0 _ rfl
  obtain ⟨d0, e0, _, w0⟩ := DataW.trod_int Try.underlying22 hf_0
  obtain ⟨nhf_1, yhf_1, hf_1⟩ := trod_field Try.underlying35 hf 1 _ rfl
  obtain ⟨d1, e1, _, w1⟩ := DataW.trod_int Try.underlying22 hf_1
  obtain ⟨nhf_2, yhf_2, hf_2⟩ := trod_field Try.underlying35 hf 2 _ rfl
  obtain ⟨nhf_2_0, yhf_2_0, hf_2_0⟩ := trod_field Try.underlying33 hf_2 0 _ rfl
  obtain ⟨d2, e2, _, w2⟩ := DataW.trod_int Try.underlying22 hf_2_0
  obtain ⟨nhf_2_1, yhf_2_1, hf_2_1⟩ := trod_field Try.underlying33 hf_2 1 _ rfl
  obtain ⟨d3, e3, _, w3⟩ := DataW.trod_int Try.underlying22 hf_2_1
  simp [Value.cells, cells_t22, cells_t33, cells_t35] at e0 e1 e2 e3
  subst e0 e1 e2 e3
  exact ⟨d0, d1, d2, d3, rfl, w0, w1, w2, w3⟩
end
set_option maxRecDepth 100000 in
theorem lifted (os : Os) (started : os.Started) (H : Type) (enc : TypeId × Value → H) :
    ReturnsInHanded {} Try.checked os 7 .any (Rows.tickCountsSpec.pre6 enc Try.prog Try.f7 Rows.tickCountsRow.domain false) (Rows.tickCountsSpec.post enc Try.prog Try.f7 false true false false) := by
  refine returnsInHanded_of_change_sized (C := Try.checked) own started (by kernel_rfl) Try.func7
    (ChangeSpec.witness6 (enc := enc) (C := Try.checked) false ⟨#[], #[.agg #[.int .u64 0, .int .u64 0, .int .u64 0, .int .u64 0], .int .u64 0], []⟩ 8 (by kernel_rfl) (by kernel_rfl) (by kernel_rfl) (by kernel_rfl)) ?_
  intro W base args ds gs before hval0 hW hcnd hsz0 _
  have hsz : (DataW.weightsEach Try.prog (Try.f7.params.toList ++ Rows.tickCountsSpec.plain.varTypes Try.prog) (ds ++ gs)).all (· ≤ reachBytes) = true := hsz0
  have hval : ∀ (j : Nat) t v, Try.f7.params[j]? = some t → args[j]? = some v → Value.okWide Try.prog W .any base t v := hval0
  have hW' := hW
  obtain ⟨p, q, hA0, hV, rfl, hfz, hnd⟩ := hW
  have hA : DataW.TrodAll enc Try.prog W 0 (fun _ => true) true Try.f7.params.toList args.toList ds p := hA0
  rw [Try.params7] at hA hval hsz
  obtain ⟨v0, vs0, d0, ds0, p0, q0, hargs, rfl, rfl, h0, r0⟩ := trodAll_cons hA
  obtain ⟨v1, vs1, d1, ds1, p1, q1, rfl, rfl, rfl, h1, r1⟩ := trodAll_cons r0
  obtain ⟨rfl, rfl, rfl⟩ := trodAll_nil r1
  obtain rfl : args = #[v0, v1] := by cases args; simp_all
  obtain ⟨rfl, rfl⟩ := trodVars_none hV
  have k0 := h0
  have lt0 : ∀ x ∈ p0, x.block < W.heap.size := by obtain ⟨m, hm⟩ := k0; exact DataW.trod_lt m _ _ _ hm
  obtain ⟨a0_0, a0_1, a0_2, a0_3, rfl, w0_0, w0_1, w0_2, w0_3⟩ := open_t35 (hval 0 35 v0 rfl rfl) k0
  obtain ⟨a1, rfl, rfl, rfl, w1⟩ := open_int Try.underlying22 (hval 1 22 v1 rfl rfl) h1
  clear hA0 hval0 hsz0 hsz
  refine (PTickCounts.rotalaw01_TickCounts.walk Pure.TickCounts a0_0 a0_1 a0_2 a0_3 a1 W w0_0 w0_1 w0_2 w0_3 w1).mono fun e W' ⟨he, bel⟩ => ?_
  subst he
  exact ⟨_, rfl, _, _, _, [], _, [], hW', trodAll_mk1 (shut_bool Try.underlying4 _), (trodAll_cons_mk (Below.trod laidOut (by kernel_rfl) (of_decide_eq_true (by kernel_rfl)) k0 bel lt0) (trodAll_cons_mk (shut_int Try.underlying22 w1) trodAll_mk0)), rfl, bel.frame _, fun h => by cases h⟩
theorem over : Rows.tickCountsRow.holds Try.pinned (OpenSpec.ofChange Rows.tickCountsSpec) :=
  OpenClaim.holds_of_wide 7 Try.f7 rfl rfl rfl rfl rfl rfl rfl ⟨rfl, rfl, rfl, rfl, rfl⟩ rfl rfl rfl rfl rfl (by kernel_rfl) Try.func7 (by kernel_rfl)
    (of_decide_eq_true (by kernel_rfl)) (by unfold Func.isWrapper; first | (rw [if_pos (by decide +kernel)]; kernel_rfl) | (rw [if_neg (by decide +kernel)]; exact ⟨rfl, rfl⟩))
    (fun os started H enc _ => lifted os started H enc)
theorem proved : Rows.TickCountsSaid := over
#print axioms proved
end Go.Proofs.Ytafgilnjggindaa.tickCounts
namespace Go.Proofs.Ytafgilnjggindaa
/-- The row, under a short name, for the claim. -/
theorem tickCounts_holds : Rows.TickCountsSaid := tickCounts.proved
end Go.Proofs.Ytafgilnjggindaa
