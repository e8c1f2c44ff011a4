/-
  No cell of these rows narrows 'for every input' (looked for: loops, veiled, ifaces, maps, wideKeys, modest, calm, conditions, laid).
  DERIVED. THE GIVEN ROWS OF THIS SEAT. 8 by the template 'for every input the law returns true; each argument reads behind the call as it read before'; 0 by the template 'total and deterministic' (their statements: YtdmfoeokfmgglaaTotals.lean).
  GIVEN WITH THE SEED: the statements are not yours to turn. If you find one false, say at which input.
  Laid BY PROGRAM, IN A SANDBOX (cutbox-rows.mjs): the forced cells as the released guide's own fill.sh prints them over the translation ecdf2c4ff2e5e1e4… (all of the seat's roots in one cut). By AI agents, Wed Nov 11 2026. No macro, syntax, notation, axiom, sorry.
-/
import Derived.Test.YtdmfoeokfmgglaaChecked
import GoSem.Claim
import GoSem.ClaimJoined
import GoSem.ClaimMapViews
import Derived.JoinedTies
import Derived.KernelRfl
namespace Go.Proofs.Ytdmfoeokfmgglaa
/- THE CELL 'sum', in the pinned program and in every row, IS THE sha256 OF THE DUMP (.gsa) THAT YtdmfoeokfmgglaaProg.lean LOADS. Nothing in Lean hashes anything: it is a label: what it is worth is what the hold of that sum in a sandbox is worth. -/
noncomputable def Try.pinned : Pinned := { name := "ytdmfoeokfmgglaa", sum := "ecdf2c4ff2e5e1e432d3e5255dd84c59e9f0e53a041246dc73ef7be180245178", checked := Try.checked }
namespace Rows
def none {H : Type} : Left H := { results := [], args := [] }

/-- 'rotalaw22.SliceMay': WHATEVER THE INPUT: true; the input reads as it did. -/
def sliceMaySpec : ChangeSpec := { name := "sliceMay", fn := fun _ => fun
  | [d1, d2, d3] => { results := [.lit (.bool true)], args := [d1, d2, d3] }
  | _ => none }
def sliceMayRow : OpenClaim := { program := "ytdmfoeokfmgglaa", sum := "ecdf2c4ff2e5e1e432d3e5255dd84c59e9f0e53a041246dc73ef7be180245178", func := "rota/rotalaw22.SliceMay", spec := "sliceMay", apart := false }
def SliceMaySaid : Prop := sliceMayRow.holds Try.pinned (OpenSpec.ofChange sliceMaySpec)

/-- ITS FALSE NEIGHBOUR: 'it returns false'. Refute it at one input. -/
def sliceMayWrong : ChangeSpec := { name := "sliceMay", fn := fun _ => fun
  | [d1, d2, d3] => { results := [.lit (.bool false)], args := [d1, d2, d3] }
  | _ => none }
def SliceMayWrongFalsely : Prop := sliceMayRow.holds Try.pinned (OpenSpec.ofChange sliceMayWrong)

/-- 'rotalaw22.SliceMoves': WHATEVER THE INPUT: true; the input reads as it did. -/
def sliceMovesSpec : ChangeSpec := { name := "sliceMoves", fn := fun _ => fun
  | [d1, d2] => { results := [.lit (.bool true)], args := [d1, d2] }
  | _ => none }
def sliceMovesRow : OpenClaim := { program := "ytdmfoeokfmgglaa", sum := "ecdf2c4ff2e5e1e432d3e5255dd84c59e9f0e53a041246dc73ef7be180245178", func := "rota/rotalaw22.SliceMoves", spec := "sliceMoves", apart := false }
def SliceMovesSaid : Prop := sliceMovesRow.holds Try.pinned (OpenSpec.ofChange sliceMovesSpec)

/-- ITS FALSE NEIGHBOUR: 'it returns false'. Refute it at one input. -/
def sliceMovesWrong : ChangeSpec := { name := "sliceMoves", fn := fun _ => fun
  | [d1, d2] => { results := [.lit (.bool false)], args := [d1, d2] }
  | _ => none }
def SliceMovesWrongFalsely : Prop := sliceMovesRow.holds Try.pinned (OpenSpec.ofChange sliceMovesWrong)

/-- 'rotalaw22.SliceDecides': WHATEVER THE INPUT: true; the input reads as it did. -/
def sliceDecidesSpec : ChangeSpec := { name := "sliceDecides", fn := fun _ => fun
  | [d1, d2, d3] => { results := [.lit (.bool true)], args := [d1, d2, d3] }
  | _ => none }
def sliceDecidesRow : OpenClaim := { program := "ytdmfoeokfmgglaa", sum := "ecdf2c4ff2e5e1e432d3e5255dd84c59e9f0e53a041246dc73ef7be180245178", func := "rota/rotalaw22.SliceDecides", spec := "sliceDecides", apart := false }
def SliceDecidesSaid : Prop := sliceDecidesRow.holds Try.pinned (OpenSpec.ofChange sliceDecidesSpec)

/-- ITS FALSE NEIGHBOUR: 'it returns false'. Refute it at one input. -/
def sliceDecidesWrong : ChangeSpec := { name := "sliceDecides", fn := fun _ => fun
  | [d1, d2, d3] => { results := [.lit (.bool false)], args := [d1, d2, d3] }
  | _ => none }
def SliceDecidesWrongFalsely : Prop := sliceDecidesRow.holds Try.pinned (OpenSpec.ofChange sliceDecidesWrong)

/-- 'rotalaw22.SliceKeeps': WHATEVER THE INPUT: true; the input reads as it did. -/
def sliceKeepsSpec : ChangeSpec := { name := "sliceKeeps", fn := fun _ => fun
  | [d1, d2] => { results := [.lit (.bool true)], args := [d1, d2] }
  | _ => none }
def sliceKeepsRow : OpenClaim := { program := "ytdmfoeokfmgglaa", sum := "ecdf2c4ff2e5e1e432d3e5255dd84c59e9f0e53a041246dc73ef7be180245178", func := "rota/rotalaw22.SliceKeeps", spec := "sliceKeeps", apart := false }
def SliceKeepsSaid : Prop := sliceKeepsRow.holds Try.pinned (OpenSpec.ofChange sliceKeepsSpec)

/-- ITS FALSE NEIGHBOUR: 'it returns false'. Refute it at one input. -/
def sliceKeepsWrong : ChangeSpec := { name := "sliceKeeps", fn := fun _ => fun
  | [d1, d2] => { results := [.lit (.bool false)], args := [d1, d2] }
  | _ => none }
def SliceKeepsWrongFalsely : Prop := sliceKeepsRow.holds Try.pinned (OpenSpec.ofChange sliceKeepsWrong)

/-- 'rotalaw22.SliceRuns': WHATEVER THE INPUT: true; the input reads as it did. -/
def sliceRunsSpec : ChangeSpec := { name := "sliceRuns", fn := fun _ => fun
  | [d1, d2, d3] => { results := [.lit (.bool true)], args := [d1, d2, d3] }
  | _ => none }
def sliceRunsRow : OpenClaim := { program := "ytdmfoeokfmgglaa", sum := "ecdf2c4ff2e5e1e432d3e5255dd84c59e9f0e53a041246dc73ef7be180245178", func := "rota/rotalaw22.SliceRuns", spec := "sliceRuns", apart := false }
def SliceRunsSaid : Prop := sliceRunsRow.holds Try.pinned (OpenSpec.ofChange sliceRunsSpec)

/-- ITS FALSE NEIGHBOUR: 'it returns false'. Refute it at one input. -/
def sliceRunsWrong : ChangeSpec := { name := "sliceRuns", fn := fun _ => fun
  | [d1, d2, d3] => { results := [.lit (.bool false)], args := [d1, d2, d3] }
  | _ => none }
def SliceRunsWrongFalsely : Prop := sliceRunsRow.holds Try.pinned (OpenSpec.ofChange sliceRunsWrong)

/-- 'rotalaw22.SliceEnds': WHATEVER THE INPUT: true; the input reads as it did. -/
def sliceEndsSpec : ChangeSpec := { name := "sliceEnds", fn := fun _ => fun
  | [d] => { results := [.lit (.bool true)], args := [d] }
  | _ => none }
def sliceEndsRow : OpenClaim := { program := "ytdmfoeokfmgglaa", sum := "ecdf2c4ff2e5e1e432d3e5255dd84c59e9f0e53a041246dc73ef7be180245178", func := "rota/rotalaw22.SliceEnds", spec := "sliceEnds", apart := false }
def SliceEndsSaid : Prop := sliceEndsRow.holds Try.pinned (OpenSpec.ofChange sliceEndsSpec)

/-- ITS FALSE NEIGHBOUR: 'it returns false'. Refute it at one input. -/
def sliceEndsWrong : ChangeSpec := { name := "sliceEnds", fn := fun _ => fun
  | [d] => { results := [.lit (.bool false)], args := [d] }
  | _ => none }
def SliceEndsWrongFalsely : Prop := sliceEndsRow.holds Try.pinned (OpenSpec.ofChange sliceEndsWrong)

/-- 'rotalaw22.SliceSplit': WHATEVER THE INPUT: true; the input reads as it did. -/
def sliceSplitSpec : ChangeSpec := { name := "sliceSplit", fn := fun _ => fun
  | [d1, d2, d3] => { results := [.lit (.bool true)], args := [d1, d2, d3] }
  | _ => none }
def sliceSplitRow : OpenClaim := { program := "ytdmfoeokfmgglaa", sum := "ecdf2c4ff2e5e1e432d3e5255dd84c59e9f0e53a041246dc73ef7be180245178", func := "rota/rotalaw22.SliceSplit", spec := "sliceSplit", apart := false }
def SliceSplitSaid : Prop := sliceSplitRow.holds Try.pinned (OpenSpec.ofChange sliceSplitSpec)

/-- ITS FALSE NEIGHBOUR: 'it returns false'. Refute it at one input. -/
def sliceSplitWrong : ChangeSpec := { name := "sliceSplit", fn := fun _ => fun
  | [d1, d2, d3] => { results := [.lit (.bool false)], args := [d1, d2, d3] }
  | _ => none }
def SliceSplitWrongFalsely : Prop := sliceSplitRow.holds Try.pinned (OpenSpec.ofChange sliceSplitWrong)

/-- 'rotalaw22.SliceUsed': WHATEVER THE INPUT: true; the input reads as it did. -/
def sliceUsedSpec : ChangeSpec := { name := "sliceUsed", fn := fun _ => fun
  | [d1, d2, d3] => { results := [.lit (.bool true)], args := [d1, d2, d3] }
  | _ => none }
def sliceUsedRow : OpenClaim := { program := "ytdmfoeokfmgglaa", sum := "ecdf2c4ff2e5e1e432d3e5255dd84c59e9f0e53a041246dc73ef7be180245178", func := "rota/rotalaw22.SliceUsed", spec := "sliceUsed", apart := false }
def SliceUsedSaid : Prop := sliceUsedRow.holds Try.pinned (OpenSpec.ofChange sliceUsedSpec)

/-- ITS FALSE NEIGHBOUR: 'it returns false'. Refute it at one input. -/
def sliceUsedWrong : ChangeSpec := { name := "sliceUsed", fn := fun _ => fun
  | [d1, d2, d3] => { results := [.lit (.bool false)], args := [d1, d2, d3] }
  | _ => none }
def SliceUsedWrongFalsely : Prop := sliceUsedRow.holds Try.pinned (OpenSpec.ofChange sliceUsedWrong)

/- THE SECOND FORM. 'bulk': how many values and letters a reading holds, each counted each time it is reached (what is shared counts as often as it is met; a slice's spare places count too). A statement '..UptoSaid' is the law's where the arguments, and the package variables that the reading takes, are together of bulk at most 1048576: NARROWER than '..Said'. Prove '..Said' where nothing that the law and all that it calls make is longer than what came in: it says more and counts as full. Else prove '..UptoSaid'. A law counts once. -/
mutual
def uptoBulk {H : Type} : DataW H → Nat
  | .lit (.string bytes) => bytes.length + 1
  | .lit _ => 1
  | .nil => 1
  | .ptr d => uptoBulk d + 1
  | .slice elems spare => uptoBulkAll elems + uptoBulkAll spare + 1
  | .agg parts => uptoBulkAll parts + 1
  | .iface _ d => uptoBulk d + 1
  | .map entries => uptoBulkEntries entries + 1
  | .held _ => 1
def uptoBulkAll {H : Type} : List (DataW H) → Nat
  | [] => 0
  | d :: r => uptoBulk d + uptoBulkAll r
def uptoBulkEntries {H : Type} : List (Lit × DataW H) → Nat
  | [] => 0
  | x :: r => uptoBulkEntry x + uptoBulkEntries r
def uptoBulkEntry {H : Type} : Lit × DataW H → Nat
  | (.string bytes, d) => bytes.length + uptoBulk d + 1
  | (_, d) => uptoBulk d + 1
 end
def uptoSmall : (H : Type) → List (DataW H) → Bool := fun _ ds => decide (uptoBulkAll ds ≤ 1048576)
def OpenSpec.upto (s : _root_.Go.ChangeSpec) : _root_.Go.OpenSpec := { _root_.Go.OpenSpec.ofChange s with cond := some uptoSmall }

/-- 'rotalaw22.SliceMay', WHERE WHAT IT READS IS OF BULK AT MOST 1048576: true; the input reads as it did. -/
def sliceMayUptoRow : OpenClaim := { program := "ytdmfoeokfmgglaa", sum := "ecdf2c4ff2e5e1e432d3e5255dd84c59e9f0e53a041246dc73ef7be180245178", func := "rota/rotalaw22.SliceMay", spec := "sliceMay", apart := false, narrowed := true }
def SliceMayUptoSaid : Prop := sliceMayUptoRow.holds Try.pinned (OpenSpec.upto sliceMaySpec)

/-- 'rotalaw22.SliceMoves', WHERE WHAT IT READS IS OF BULK AT MOST 1048576: true; the input reads as it did. -/
def sliceMovesUptoRow : OpenClaim := { program := "ytdmfoeokfmgglaa", sum := "ecdf2c4ff2e5e1e432d3e5255dd84c59e9f0e53a041246dc73ef7be180245178", func := "rota/rotalaw22.SliceMoves", spec := "sliceMoves", apart := false, narrowed := true }
def SliceMovesUptoSaid : Prop := sliceMovesUptoRow.holds Try.pinned (OpenSpec.upto sliceMovesSpec)

/-- 'rotalaw22.SliceDecides', WHERE WHAT IT READS IS OF BULK AT MOST 1048576: true; the input reads as it did. -/
def sliceDecidesUptoRow : OpenClaim := { program := "ytdmfoeokfmgglaa", sum := "ecdf2c4ff2e5e1e432d3e5255dd84c59e9f0e53a041246dc73ef7be180245178", func := "rota/rotalaw22.SliceDecides", spec := "sliceDecides", apart := false, narrowed := true }
def SliceDecidesUptoSaid : Prop := sliceDecidesUptoRow.holds Try.pinned (OpenSpec.upto sliceDecidesSpec)

/-- 'rotalaw22.SliceKeeps', WHERE WHAT IT READS IS OF BULK AT MOST 1048576: true; the input reads as it did. -/
def sliceKeepsUptoRow : OpenClaim := { program := "ytdmfoeokfmgglaa", sum := "ecdf2c4ff2e5e1e432d3e5255dd84c59e9f0e53a041246dc73ef7be180245178", func := "rota/rotalaw22.SliceKeeps", spec := "sliceKeeps", apart := false, narrowed := true }
def SliceKeepsUptoSaid : Prop := sliceKeepsUptoRow.holds Try.pinned (OpenSpec.upto sliceKeepsSpec)

/-- 'rotalaw22.SliceRuns', WHERE WHAT IT READS IS OF BULK AT MOST 1048576: true; the input reads as it did. -/
def sliceRunsUptoRow : OpenClaim := { program := "ytdmfoeokfmgglaa", sum := "ecdf2c4ff2e5e1e432d3e5255dd84c59e9f0e53a041246dc73ef7be180245178", func := "rota/rotalaw22.SliceRuns", spec := "sliceRuns", apart := false, narrowed := true }
def SliceRunsUptoSaid : Prop := sliceRunsUptoRow.holds Try.pinned (OpenSpec.upto sliceRunsSpec)

/-- 'rotalaw22.SliceEnds', WHERE WHAT IT READS IS OF BULK AT MOST 1048576: true; the input reads as it did. -/
def sliceEndsUptoRow : OpenClaim := { program := "ytdmfoeokfmgglaa", sum := "ecdf2c4ff2e5e1e432d3e5255dd84c59e9f0e53a041246dc73ef7be180245178", func := "rota/rotalaw22.SliceEnds", spec := "sliceEnds", apart := false, narrowed := true }
def SliceEndsUptoSaid : Prop := sliceEndsUptoRow.holds Try.pinned (OpenSpec.upto sliceEndsSpec)

/-- 'rotalaw22.SliceSplit', WHERE WHAT IT READS IS OF BULK AT MOST 1048576: true; the input reads as it did. -/
def sliceSplitUptoRow : OpenClaim := { program := "ytdmfoeokfmgglaa", sum := "ecdf2c4ff2e5e1e432d3e5255dd84c59e9f0e53a041246dc73ef7be180245178", func := "rota/rotalaw22.SliceSplit", spec := "sliceSplit", apart := false, narrowed := true }
def SliceSplitUptoSaid : Prop := sliceSplitUptoRow.holds Try.pinned (OpenSpec.upto sliceSplitSpec)

/-- 'rotalaw22.SliceUsed', WHERE WHAT IT READS IS OF BULK AT MOST 1048576: true; the input reads as it did. -/
def sliceUsedUptoRow : OpenClaim := { program := "ytdmfoeokfmgglaa", sum := "ecdf2c4ff2e5e1e432d3e5255dd84c59e9f0e53a041246dc73ef7be180245178", func := "rota/rotalaw22.SliceUsed", spec := "sliceUsed", apart := false, narrowed := true }
def SliceUsedUptoSaid : Prop := sliceUsedUptoRow.holds Try.pinned (OpenSpec.upto sliceUsedSpec)

end Rows
end Go.Proofs.Ytdmfoeokfmgglaa
