/- What is begun in a window ends in it, and no more ticks pass than are left: no condition. -/
import Derived.Test.YtdmfoeokfmgglaaRows
import Derived.Test.YtdmfoeokfmgglaaPSliceEndsx5
import Derived.Test.YtdmfoeokfmgglaaPureSliceEnds
import Derived.WalkKit
import Derived.ProofKit
import Derived.OpenShut
import Derived.ShutString
import Derived.ChangeOld
import Derived.Below
import Derived.SizedLaws
import Derived.ChangeSame
import Derived.Deep.Slices
import Derived.ChangeArms
import Derived.Test.YtdmfoeokfmgglaaWSized
namespace Go.Proofs.Ytdmfoeokfmgglaa.sliceEnds
open Go.ChangeShapes Go.WideShapes Go.ChangeAt Go.RowKit
open Go.ChangeMaps (open_string shut_string)
set_option linter.unusedVariables false
set_option linter.unusedSimpArgs false
theorem own : ownKnob Try.prog.godebug = none := by kernel_rfl
theorem laidOut : laidOutB Try.prog = true := by kernel_rfl
def IsRow (k : IntKind) (w : World) (a : Option Addr) (len cap : Nat) (zs : List Int) : Prop :=
  (a = none ∧ len = 0 ∧ cap = 0 ∧ zs = []) ∨
  ∃ x, a = some x ∧ len ≤ cap ∧ cap ≤ maxLen ∧ zs.length = cap ∧ (∀ i, i < zs.length → w.cell? (x.add i) = some (.int k (zs.getD i 0))) ∧ ∀ n ∈ zs, (Lit.int k n).wf = true
section
variable {H : Type} {enc : TypeId × Value → H} {w : World} {base : Nat} {spare : Nat → Bool} {held : Bool}
theorem trod_field {P : Program} {t : TypeId} {fs : Array Field} {fuel : Nat} {cs : List Value} {x : DataW H × List MemPlace} (ht : P.underlying t = some (.struct fs)) (h : DataW.trod enc P w base spare held fuel t cs = some x) (i : Nat) (f : Field) (hf : fs[i]? = some f) :
    ∃ n y, DataW.trod enc P w base spare held n f.type ((cs.drop f.offset).take (P.cellsOf f.type)) = some y := by
  obtain ⟨xs, n, _, _, _, hlen, hg⟩ := DataW.trod_struct ht h
  have hi : i < xs.length := by rw [hlen]; exact (Array.getElem?_eq_some_iff.1 hf).1
  exact ⟨n, xs[i], (hg i f hf).trans (List.getElem?_eq_getElem hi)⟩
theorem cells_t3 : Try.prog.cellsOf 3 = 1 := by kernel_rfl
theorem cells_t4 : Try.prog.cellsOf 4 = 1 := by kernel_rfl
theorem cells_t23 : Try.prog.cellsOf 23 = 2 := by kernel_rfl
theorem cells_t24 : Try.prog.cellsOf 24 = 1 := by kernel_rfl
theorem cells_t26 : Try.prog.cellsOf 26 = 3 := by kernel_rfl
theorem cells_t28 : Try.prog.cellsOf 28 = 7 := by kernel_rfl
theorem cells_t47 : Try.prog.cellsOf 47 = 1 := by kernel_rfl
theorem cells_t53 : Try.prog.cellsOf 53 = 10 := by kernel_rfl
theorem of_len10 {l : List Value} (h : l.length = 10) : ∃ c0 c1 c2 c3 c4 c5 c6 c7 c8 c9, l = [c0, c1, c2, c3, c4, c5, c6, c7, c8, c9] := by
  match l, h with
  | [c0, c1, c2, c3, c4, c5, c6, c7, c8, c9], _ => exact ⟨c0, c1, c2, c3, c4, c5, c6, c7, c8, c9, rfl⟩
theorem open_t53 {r : Reach} {b0 : Nat} {v : Value} {d : DataW H} {p : List MemPlace} (hv : Value.okWide Try.prog w r b0 53 v) (h : DataW.Trod enc Try.prog w 0 (fun _ => true) true 53 v d p) :
    ∃ (d0 : Bool) (d1 : Int) (d2 : Int) (d3 : Int) (d4 : Int) (d5 : Bool) (d6 : Int) (A : Option Addr) (len cap : Nat) (zs : List Int) (d8 d9 : Int), v = .agg #[.bool d0, .int .i64 d1, .int .i64 d2, .int .u64 d3, .int .u64 d4, .bool d5, .int .u64 d6, .slice A len cap, .int .u64 d8, .int .u64 d9] ∧ (Lit.int .u64 d4).wf = true ∧ (Lit.int .u64 d6).wf = true ∧ IsRow .u64 w A len cap zs ∧ (Lit.int .u64 d8).wf = true := by
  obtain ⟨cs, rfl, hsz⟩ := okWide_struct Try.underlying53 hv
  obtain ⟨l⟩ := cs
  obtain ⟨c0, c1, c2, c3, c4, c5, c6, c7, c8, c9, rfl⟩ := of_len10 (hsz.trans cells_t53)
  obtain ⟨fuel, hf⟩ := h
  obtain ⟨m0, y0, g0⟩ := trod_field Try.underlying53 hf 0 _ rfl
  obtain ⟨m1, y1, g1⟩ := trod_field Try.underlying53 hf 1 _ rfl
  obtain ⟨m2, y2, g2⟩ := trod_field Try.underlying53 hf 2 _ rfl
  obtain ⟨m3, y3, g3⟩ := trod_field Try.underlying53 hf 3 _ rfl
  obtain ⟨d8, e8, _, w8⟩ := DataW.trod_int Try.underlying24 g2
  obtain ⟨d9, e9, _, w9⟩ := DataW.trod_int Try.underlying24 g3
  obtain ⟨n0, z0, k0⟩ := trod_field Try.underlying28 g0 0 _ rfl
  obtain ⟨n1, z1, k1⟩ := trod_field Try.underlying28 g0 1 _ rfl
  obtain ⟨n2, z2, k2⟩ := trod_field Try.underlying28 g0 2 _ rfl
  obtain ⟨n3, z3, k3⟩ := trod_field Try.underlying28 g0 3 _ rfl
  obtain ⟨n4, z4, k4⟩ := trod_field Try.underlying28 g0 4 _ rfl
  obtain ⟨d0, e0, _⟩ := DataW.trod_bool Try.underlying4 k0
  obtain ⟨o0, x0, q0⟩ := trod_field Try.underlying26 k1 0 _ rfl
  obtain ⟨o1, x1, q1⟩ := trod_field Try.underlying26 k1 1 _ rfl
  obtain ⟨o2, x2, q2⟩ := trod_field Try.underlying23 q0 0 _ rfl
  obtain ⟨o3, x3, q3⟩ := trod_field Try.underlying23 q0 1 _ rfl
  obtain ⟨d1, e1, _, w1⟩ := DataW.trod_int Try.underlying3 q2
  obtain ⟨d2, e2, _, w2⟩ := DataW.trod_int Try.underlying3 q3
  obtain ⟨d3, e3, _, w3⟩ := DataW.trod_int Try.underlying24 q1
  obtain ⟨d4, e4, _, w4⟩ := DataW.trod_int Try.underlying24 k2
  obtain ⟨d5, e5, _⟩ := DataW.trod_bool Try.underlying4 k3
  obtain ⟨d6, e6, _, w6⟩ := DataW.trod_int Try.underlying24 k4
  simp [Value.cells, cells_t3, cells_t4, cells_t23, cells_t24, cells_t26, cells_t28, cells_t47] at e0 e1 e2 e3 e4 e5 e6 e8 e9
  subst e0 e1 e2 e3 e4 e5 e6 e8 e9
  rcases open_ints Try.underlying47 Try.underlying24 (by kernel_rfl) g1 with ⟨hcs, _⟩ | ⟨x, l, c, zs, hcs, _, hl, hm, hz, _, hcell, hwz⟩
  · simp [Value.cells, cells_t47] at hcs
    subst hcs
    exact ⟨d0, d1, d2, d3, d4, d5, d6, none, 0, 0, [], d8, d9, rfl, w4, w6, .inl ⟨rfl, rfl, rfl, rfl⟩, w8⟩
  · simp [Value.cells, cells_t47] at hcs
    subst hcs
    exact ⟨d0, d1, d2, d3, d4, d5, d6, some x, l, c, zs, d8, d9, rfl, w4, w6, .inr ⟨_, rfl, hl, hm, by simpa using hz, hcell, hwz⟩, w8⟩
end
set_option maxRecDepth 100000 in
theorem lifted (os : Os) (started : os.Started) (H : Type) (enc : TypeId × Value → H) :
    ReturnsInHanded {} Try.checked os 8 .any (Rows.sliceEndsSpec.pre6 enc Try.prog Try.f8 Rows.sliceEndsRow.domain false) (Rows.sliceEndsSpec.post enc Try.prog Try.f8 false true false false) := by
  refine returnsInHanded_of_change_sized (C := Try.checked) own started (by kernel_rfl) Try.func8
    (ChangeSpec.witness6 (enc := enc) (C := Try.checked) false ⟨#[], #[.agg #[.bool false, .int .i64 0, .int .i64 0, .int .u64 0, .int .u64 0, .bool false, .int .u64 0, .slice none 0 0, .int .u64 0, .int .u64 0]], []⟩ 8 (by kernel_rfl) (by kernel_rfl) (by kernel_rfl) (by kernel_rfl)) ?_
  intro W base args ds gs before hval0 hW hcnd hsz0 _
  have hval : ∀ (j : Nat) t v, Try.f8.params[j]? = some t → args[j]? = some v → Value.okWide Try.prog W .any base t v := hval0
  have hW' := hW
  obtain ⟨p, q, hA0, hV, rfl, hfz, hnd⟩ := hW
  have hA : DataW.TrodAll enc Try.prog W 0 (fun _ => true) true Try.f8.params.toList args.toList ds p := hA0
  rw [Try.params8] at hA hval
  obtain ⟨v0, vs0, d0, ds0, p0, q0, hargs, rfl, rfl, h0, r0⟩ := trodAll_cons hA
  obtain ⟨rfl, rfl, rfl⟩ := trodAll_nil r0
  obtain rfl : args = #[v0] := by cases args; simp_all
  obtain ⟨rfl, rfl⟩ := trodVars_none hV
  have k0 := h0
  have lt0 : ∀ x ∈ p0, x.block < W.heap.size := by obtain ⟨m, hm⟩ := k0; exact DataW.trod_lt m _ _ _ hm
  obtain ⟨a0, a1, a2, a3, a4, a5, a6, A, len, cap, zs, a8, a9, rfl, w4, w6, w7, w8⟩ := open_t53 (hval 0 53 v0 rfl rfl) k0
  clear hA0 hval0 hsz0
  obtain ⟨L, rfl, hr, hm, hw, hc⟩ := Go.Proofs.YtdmfoeokfmgglaaW.PrintWords.ReadsInt.ofRowC w7
  unfold maxLen at hm
  obtain ⟨k, hk⟩ := Pure.SliceEnds a0 a1 a2 a3 a4 a5 a6 L a8 a9 w4 w6 (by omega) hw w8
  refine (PSliceEnds.rotalaw22_SliceEnds.calls k a0 a1 a2 a3 a4 a5 a6 _ _ L a8 a9 true W (Go.Proofs.YtdmfoeokfmgglaaW.PrintWords.Kd.C_of_reads (d := (0 : Int)) (h1 := fun _ => rfl) hr) hc hk ⟨rfl⟩).mono fun e W' ⟨he, bel⟩ => ?_
  subst he
  exact ⟨_, rfl, _, _, _, [], _, [], hW', trodAll_mk1 (shut_bool Try.underlying4 _), (trodAll_cons_mk (Below.trod laidOut (by kernel_rfl) (of_decide_eq_true (by kernel_rfl)) k0 bel lt0) trodAll_mk0), rfl, bel.frame _, fun h => by cases h⟩
theorem over : Rows.sliceEndsRow.holds Try.pinned (OpenSpec.ofChange Rows.sliceEndsSpec) :=
  OpenClaim.holds_of_wide 8 Try.f8 rfl rfl rfl rfl rfl rfl rfl ⟨rfl, rfl, rfl, rfl, rfl⟩ rfl rfl rfl rfl rfl (by kernel_rfl) Try.func8 (by kernel_rfl)
    (of_decide_eq_true (by kernel_rfl)) (by unfold Func.isWrapper; first | (rw [if_pos (by decide +kernel)]; kernel_rfl) | (rw [if_neg (by decide +kernel)]; exact ⟨rfl, rfl⟩))
    (fun os started H enc _ => lifted os started H enc)
theorem proved : Rows.SliceEndsSaid := over
#print axioms proved
end Go.Proofs.Ytdmfoeokfmgglaa.sliceEnds
namespace Go.Proofs.Ytdmfoeokfmgglaa
/-- The row, under a short name, for the claim. -/
theorem sliceEnds_holds : Rows.SliceEndsSaid := sliceEnds.proved
end Go.Proofs.Ytdmfoeokfmgglaa
