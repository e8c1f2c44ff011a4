/- Behind any steps a processor may stand as it stands: no condition. -/
import Derived.Test.YtdmfoeokfmgglaaRows
import Derived.Test.YtdmfoeokfmgglaaPSliceKeepsx4
import Derived.Test.YtdmfoeokfmgglaaPureSliceKeeps
import Derived.WalkKit
import Derived.ProofKit
import Derived.OpenShut
import Derived.ShutString
import Derived.ChangeOld
import Derived.Below
import Derived.SizedLaws
import Derived.ChangeSame
import Derived.Deep.Slices
import Derived.ChangeArms
import Derived.Test.YtdmfoeokfmgglaaWSized
namespace Go.Proofs.Ytdmfoeokfmgglaa.sliceKeeps
open Go.ChangeShapes Go.WideShapes Go.ChangeAt Go.RowKit
open Go.ChangeMaps (open_string shut_string)
set_option linter.unusedVariables false
set_option linter.unusedSimpArgs false
theorem own : ownKnob Try.prog.godebug = none := by kernel_rfl
theorem laidOut : laidOutB Try.prog = true := by kernel_rfl
def IsRow (k : IntKind) (w : World) (a : Option Addr) (len cap : Nat) (zs : List Int) : Prop :=
  (a = none ∧ len = 0 ∧ cap = 0 ∧ zs = []) ∨
  ∃ x, a = some x ∧ len ≤ cap ∧ cap ≤ maxLen ∧ zs.length = cap ∧ (∀ i, i < zs.length → w.cell? (x.add i) = some (.int k (zs.getD i 0))) ∧ ∀ n ∈ zs, (Lit.int k n).wf = true
section
variable {H : Type} {enc : TypeId × Value → H} {w : World} {base : Nat} {spare : Nat → Bool} {held : Bool}
theorem trod_field {P : Program} {t : TypeId} {fs : Array Field} {fuel : Nat} {cs : List Value} {x : DataW H × List MemPlace} (ht : P.underlying t = some (.struct fs)) (h : DataW.trod enc P w base spare held fuel t cs = some x) (i : Nat) (f : Field) (hf : fs[i]? = some f) :
    ∃ n y, DataW.trod enc P w base spare held n f.type ((cs.drop f.offset).take (P.cellsOf f.type)) = some y := by
  obtain ⟨xs, n, _, _, _, hlen, hg⟩ := DataW.trod_struct ht h
  have hi : i < xs.length := by rw [hlen]; exact (Array.getElem?_eq_some_iff.1 hf).1
  exact ⟨n, xs[i], (hg i f hf).trans (List.getElem?_eq_getElem hi)⟩
theorem cells_t3 : Try.prog.cellsOf 3 = 1 := by kernel_rfl
theorem cells_t4 : Try.prog.cellsOf 4 = 1 := by kernel_rfl
theorem cells_t23 : Try.prog.cellsOf 23 = 2 := by kernel_rfl
theorem cells_t24 : Try.prog.cellsOf 24 = 1 := by kernel_rfl
theorem cells_t26 : Try.prog.cellsOf 26 = 3 := by kernel_rfl
theorem cells_t28 : Try.prog.cellsOf 28 = 7 := by kernel_rfl
theorem cells_t45 : Try.prog.cellsOf 45 = 3 := by kernel_rfl
theorem of_len3 {l : List Value} (h : l.length = 3) : ∃ c0 c1 c2, l = [c0, c1, c2] := by
  match l, h with
  | [c0, c1, c2], _ => exact ⟨c0, c1, c2, rfl⟩
theorem one_op {fuel : Nat} {cs : List Value} {x : DataW H × List MemPlace} (hl : cs.length = 3) (h : DataW.trod enc Try.prog w base spare held fuel 45 cs = some x) :
    ∃ o : PSliceKeeps.S45, cs = [.int .i64 o.f0, .int .u64 o.f1, .int .u64 o.f2] := by
  obtain ⟨c0, c1, c2, rfl⟩ := of_len3 hl
  obtain ⟨m0, y0, g0⟩ := trod_field Try.underlying45 h 0 _ rfl
  obtain ⟨m1, y1, g1⟩ := trod_field Try.underlying45 h 1 _ rfl
  obtain ⟨m2, y2, g2⟩ := trod_field Try.underlying45 h 2 _ rfl
  obtain ⟨d0, e0, _, w0⟩ := DataW.trod_int Try.underlying3 g0
  obtain ⟨d1, e1, _, w1⟩ := DataW.trod_int Try.underlying24 g1
  obtain ⟨d2, e2, _, w2⟩ := DataW.trod_int Try.underlying24 g2
  simp [cells_t3, cells_t24] at e0 e1 e2
  subst e0 e1 e2
  exact ⟨⟨d0, d1, d2⟩, rfl⟩
/-- A list out of what holds at each place. -/
theorem all_ops {α : Type} {R : Nat → α → Prop} : ∀ n : Nat, (∀ i, i < n → ∃ x, R i x) → ∃ l : List α, l.length = n ∧ ∀ j p, l[j]? = some p → R j p := by
  intro n
  induction n with
  | zero => intro _; exact ⟨[], rfl, fun j p h => by simp at h⟩
  | succ n ih =>
    intro h
    obtain ⟨l, hl, hp⟩ := ih (fun i hi => h i (by omega))
    obtain ⟨x, hx⟩ := h n (by omega)
    refine ⟨l ++ [x], by simp [hl], fun j p hj => ?_⟩
    by_cases hjn : j < n
    · rw [List.getElem?_append_left (by omega)] at hj; exact hp j p hj
    · by_cases e : j = n
      · subst e
        rw [List.getElem?_append_right (by omega), hl] at hj
        simp at hj
        subst hj; exact hx
      · rw [List.getElem?_eq_none (by simp; omega)] at hj
        cases hj
theorem open_ops {A : Option Addr} {len cap : Nat} {d : DataW H} {p : List MemPlace} (h : DataW.Trod enc Try.prog w base spare held 43 (.slice A len cap) d p) :
    ∃ l : List PSliceKeeps.S45, len = l.length ∧ Go.Proofs.YtdmfoeokfmgglaaW.PrintWords.Kd.C PSliceKeeps.k45 w A l.length l ∧ l.length ≤ cap ∧ l.length ≤ 9223372036854775807 := by
  obtain ⟨fuel, hf⟩ := h
  rcases DataW.trod_slice Try.underlying43 hf with ⟨hcs, _⟩ | ⟨a, len', cap', elems, rest, n, _, hcs, _, _, hlc, hcm, hlen, hel, _, _⟩
  · simp [Value.cells] at hcs
    obtain ⟨rfl, rfl, rfl⟩ := hcs
    exact ⟨[], rfl, ⟨rfl, by decide, fun h => absurd h (by decide)⟩, Nat.le_refl _, by decide⟩
  · simp [Value.cells] at hcs
    obtain ⟨rfl, rfl, rfl⟩ := hcs
    unfold maxLen at hcm
    have each : ∀ i, i < len → ∃ o : PSliceKeeps.S45, w.cells? base (a.add (i * 3)) 3 = some [.int .i64 o.f0, .int .u64 o.f1, .int .u64 o.f2] := by
      intro i hi
      have h1 := hel i hi
      rw [cells_t45, List.getElem?_eq_getElem (by omega), Option.bind_eq_some_iff] at h1
      obtain ⟨cs', hc, ht⟩ := h1
      obtain ⟨_, hl3, _⟩ := World.cells?_some hc
      obtain ⟨o, rfl⟩ := one_op hl3 ht
      exact ⟨o, hc⟩
    obtain ⟨l, hl, hp⟩ := all_ops len each
    refine ⟨l, hl.symm, ⟨rfl, by omega, fun _ => ⟨a, rfl, fun j p hj => ?_⟩⟩, by omega, by omega⟩
    obtain ⟨_, _, hat⟩ := World.cells?_some (hp j p hj)
    refine ⟨[.int .i64 p.f0, .int .u64 p.f1, .int .u64 p.f2], rfl, PSliceKeeps.k45_mk w p, fun i u hu => ?_⟩
    have hi : i < 3 := by
      have := (List.getElem?_eq_some_iff.1 hu).1
      simpa using this
    have e := hat i hi
    rw [hu, Go.Deep.add_add] at e
    exact e
end
set_option maxRecDepth 100000 in
theorem lifted (os : Os) (started : os.Started) (H : Type) (enc : TypeId × Value → H) :
    ReturnsInHanded {} Try.checked os 6 .any (Rows.sliceKeepsSpec.pre6 enc Try.prog Try.f6 Rows.sliceKeepsRow.domain false) (Rows.sliceKeepsSpec.post enc Try.prog Try.f6 false true false false) := by
  refine returnsInHanded_of_change_sized (C := Try.checked) own started (by kernel_rfl) Try.func6
    (ChangeSpec.witness6 (enc := enc) (C := Try.checked) false ⟨#[], #[.int .u64 0, .slice none 0 0], []⟩ 8 (by kernel_rfl) (by kernel_rfl) (by kernel_rfl) (by kernel_rfl)) ?_
  intro W base args ds gs before hval0 hW hcnd hsz0 _
  have hval : ∀ (j : Nat) t v, Try.f6.params[j]? = some t → args[j]? = some v → Value.okWide Try.prog W .any base t v := hval0
  have hW' := hW
  obtain ⟨p, q, hA0, hV, rfl, hfz, hnd⟩ := hW
  have hA : DataW.TrodAll enc Try.prog W 0 (fun _ => true) true Try.f6.params.toList args.toList ds p := hA0
  rw [Try.params6] at hA hval
  obtain ⟨v0, vs0, d0, ds0, p0, q0, hargs, rfl, rfl, h0, r0⟩ := trodAll_cons hA
  obtain ⟨v1, vs1, d1, ds1, p1, q1, rfl, rfl, rfl, h1, r1⟩ := trodAll_cons r0
  obtain ⟨rfl, rfl, rfl⟩ := trodAll_nil r1
  obtain rfl : args = #[v0, v1] := by cases args; simp_all
  obtain ⟨rfl, rfl⟩ := trodVars_none hV
  obtain ⟨a0, rfl, rfl, rfl, w0⟩ := open_int Try.underlying24 (hval 0 24 v0 rfl rfl) h0
  obtain ⟨A, len, cap, rfl⟩ := okWide_slice Try.underlying43 (hval 1 43 v1 rfl rfl)
  have k1 := h1
  have lt1 : ∀ x ∈ p1, x.block < W.heap.size := by obtain ⟨m, hm⟩ := k1; exact DataW.trod_lt m _ _ _ hm
  obtain ⟨l, rfl, hr, hc, hm⟩ := open_ops h1
  clear hA0 hval0 hsz0
  obtain ⟨k, hk⟩ := Pure.SliceKeeps a0 l hm
  refine (PSliceKeeps.rotalaw22_SliceKeeps.calls k a0 _ _ l true W hr hc hk ⟨rfl⟩).mono fun e W' ⟨he, bel⟩ => ?_
  subst he
  exact ⟨_, rfl, _, _, _, [], _, [], hW', trodAll_mk1 (shut_bool Try.underlying4 _), (trodAll_cons_mk (shut_int Try.underlying24 w0) (trodAll_cons_mk (Below.trod laidOut (by kernel_rfl) (of_decide_eq_true (by kernel_rfl)) k1 bel lt1) trodAll_mk0)), rfl, bel.frame _, fun h => by cases h⟩
theorem over : Rows.sliceKeepsRow.holds Try.pinned (OpenSpec.ofChange Rows.sliceKeepsSpec) :=
  OpenClaim.holds_of_wide 6 Try.f6 rfl rfl rfl rfl rfl rfl rfl ⟨rfl, rfl, rfl, rfl, rfl⟩ rfl rfl rfl rfl rfl (by kernel_rfl) Try.func6 (by kernel_rfl)
    (of_decide_eq_true (by kernel_rfl)) (by unfold Func.isWrapper; first | (rw [if_pos (by decide +kernel)]; kernel_rfl) | (rw [if_neg (by decide +kernel)]; exact ⟨rfl, rfl⟩))
    (fun os started H enc _ => lifted os started H enc)
theorem proved : Rows.SliceKeepsSaid := over
#print axioms proved
end Go.Proofs.Ytdmfoeokfmgglaa.sliceKeeps
namespace Go.Proofs.Ytdmfoeokfmgglaa
/-- The row, under a short name, for the claim. -/
theorem sliceKeeps_holds : Rows.SliceKeepsSaid := sliceKeeps.proved
end Go.Proofs.Ytdmfoeokfmgglaa
