/-
  No cell of these rows narrows 'for every input' (looked for: loops, veiled, ifaces, maps, wideKeys, modest, calm, conditions, laid).
  DERIVED. THE GIVEN ROWS OF THIS SEAT. 10 by the template 'for every input the law returns true; each argument reads behind the call as it read before'; 0 by the template 'total and deterministic' (their statements: YtafgilnjggindaaTotals.lean).
  GIVEN WITH THE SEED: the statements are not yours to turn. If you find one false, say at which input.
  Laid BY PROGRAM, IN A SANDBOX (cutbox-rows.mjs): the forced cells as the released guide's own fill.sh prints them over the translation 8e814cda25729eab… (all of the seat's roots in one cut). By AI agents, Wed Nov 11 2026. No macro, syntax, notation, axiom, sorry.
-/
import Derived.Test.YtafgilnjggindaaChecked
import GoSem.Claim
import GoSem.ClaimJoined
import GoSem.ClaimMapViews
import Derived.JoinedTies
import Derived.KernelRfl
namespace Go.Proofs.Ytafgilnjggindaa
/- THE CELL 'sum', in the pinned program and in every row, IS THE sha256 OF THE DUMP (.gsa) THAT YtafgilnjggindaaProg.lean LOADS. Nothing in Lean hashes anything: it is a label: what it is worth is what the hold of that sum in a sandbox is worth. -/
noncomputable def Try.pinned : Pinned := { name := "ytafgilnjggindaa", sum := "8e814cda25729eab793edcd769de1cc030e3d954633633b1fdc575e299553417", checked := Try.checked }
namespace Rows
def none {H : Type} : Left H := { results := [], args := [] }

/-- 'rotalaw01.TickSums': WHATEVER THE INPUT: true; the input reads as it did. -/
def tickSumsSpec : ChangeSpec := { name := "tickSums", fn := fun _ => fun
  | [d1, d2] => { results := [.lit (.bool true)], args := [d1, d2] }
  | _ => none }
def tickSumsRow : OpenClaim := { program := "ytafgilnjggindaa", sum := "8e814cda25729eab793edcd769de1cc030e3d954633633b1fdc575e299553417", func := "rota/rotalaw01.TickSums", spec := "tickSums", inPlace := ["math/bits.Add64"], apart := false }
def TickSumsSaid : Prop := tickSumsRow.holds Try.pinned (OpenSpec.ofChange tickSumsSpec)

/-- ITS FALSE NEIGHBOUR: 'it returns false'. Refute it at one input. -/
def tickSumsWrong : ChangeSpec := { name := "tickSums", fn := fun _ => fun
  | [d1, d2] => { results := [.lit (.bool false)], args := [d1, d2] }
  | _ => none }
def TickSumsWrongFalsely : Prop := tickSumsRow.holds Try.pinned (OpenSpec.ofChange tickSumsWrong)

/-- 'rotalaw01.TickPlaces': WHATEVER THE INPUT: true; the input reads as it did. -/
def tickPlacesSpec : ChangeSpec := { name := "tickPlaces", fn := fun _ => fun
  | [d1, d2, d3] => { results := [.lit (.bool true)], args := [d1, d2, d3] }
  | _ => none }
def tickPlacesRow : OpenClaim := { program := "ytafgilnjggindaa", sum := "8e814cda25729eab793edcd769de1cc030e3d954633633b1fdc575e299553417", func := "rota/rotalaw01.TickPlaces", spec := "tickPlaces", inPlace := ["math/bits.Add64"], apart := false }
def TickPlacesSaid : Prop := tickPlacesRow.holds Try.pinned (OpenSpec.ofChange tickPlacesSpec)

/-- ITS FALSE NEIGHBOUR: 'it returns false'. Refute it at one input. -/
def tickPlacesWrong : ChangeSpec := { name := "tickPlaces", fn := fun _ => fun
  | [d1, d2, d3] => { results := [.lit (.bool false)], args := [d1, d2, d3] }
  | _ => none }
def TickPlacesWrongFalsely : Prop := tickPlacesRow.holds Try.pinned (OpenSpec.ofChange tickPlacesWrong)

/-- 'rotalaw01.TickAgain': WHATEVER THE INPUT: true; the input reads as it did. -/
def tickAgainSpec : ChangeSpec := { name := "tickAgain", fn := fun _ => fun
  | [d1, d2, d3] => { results := [.lit (.bool true)], args := [d1, d2, d3] }
  | _ => none }
def tickAgainRow : OpenClaim := { program := "ytafgilnjggindaa", sum := "8e814cda25729eab793edcd769de1cc030e3d954633633b1fdc575e299553417", func := "rota/rotalaw01.TickAgain", spec := "tickAgain", inPlace := ["math/bits.Add64"], apart := false }
def TickAgainSaid : Prop := tickAgainRow.holds Try.pinned (OpenSpec.ofChange tickAgainSpec)

/-- ITS FALSE NEIGHBOUR: 'it returns false'. Refute it at one input. -/
def tickAgainWrong : ChangeSpec := { name := "tickAgain", fn := fun _ => fun
  | [d1, d2, d3] => { results := [.lit (.bool false)], args := [d1, d2, d3] }
  | _ => none }
def TickAgainWrongFalsely : Prop := tickAgainRow.holds Try.pinned (OpenSpec.ofChange tickAgainWrong)

/-- 'rotalaw01.TickWindows': WHATEVER THE INPUT: true; the input reads as it did. -/
def tickWindowsSpec : ChangeSpec := { name := "tickWindows", fn := fun _ => fun
  | [d] => { results := [.lit (.bool true)], args := [d] }
  | _ => none }
def tickWindowsRow : OpenClaim := { program := "ytafgilnjggindaa", sum := "8e814cda25729eab793edcd769de1cc030e3d954633633b1fdc575e299553417", func := "rota/rotalaw01.TickWindows", spec := "tickWindows", inPlace := ["math/bits.Add64"], apart := false }
def TickWindowsSaid : Prop := tickWindowsRow.holds Try.pinned (OpenSpec.ofChange tickWindowsSpec)

/-- ITS FALSE NEIGHBOUR: 'it returns false'. Refute it at one input. -/
def tickWindowsWrong : ChangeSpec := { name := "tickWindows", fn := fun _ => fun
  | [d] => { results := [.lit (.bool false)], args := [d] }
  | _ => none }
def TickWindowsWrongFalsely : Prop := tickWindowsRow.holds Try.pinned (OpenSpec.ofChange tickWindowsWrong)

/-- 'rotalaw01.TickCounts': WHATEVER THE INPUT: true; the input reads as it did. -/
def tickCountsSpec : ChangeSpec := { name := "tickCounts", fn := fun _ => fun
  | [d1, d2] => { results := [.lit (.bool true)], args := [d1, d2] }
  | _ => none }
def tickCountsRow : OpenClaim := { program := "ytafgilnjggindaa", sum := "8e814cda25729eab793edcd769de1cc030e3d954633633b1fdc575e299553417", func := "rota/rotalaw01.TickCounts", spec := "tickCounts", inPlace := ["math/bits.Add64"], apart := false }
def TickCountsSaid : Prop := tickCountsRow.holds Try.pinned (OpenSpec.ofChange tickCountsSpec)

/-- ITS FALSE NEIGHBOUR: 'it returns false'. Refute it at one input. -/
def tickCountsWrong : ChangeSpec := { name := "tickCounts", fn := fun _ => fun
  | [d1, d2] => { results := [.lit (.bool false)], args := [d1, d2] }
  | _ => none }
def TickCountsWrongFalsely : Prop := tickCountsRow.holds Try.pinned (OpenSpec.ofChange tickCountsWrong)

/-- 'rotalaw01.TickAdds': WHATEVER THE INPUT: true; the input reads as it did. -/
def tickAddsSpec : ChangeSpec := { name := "tickAdds", fn := fun _ => fun
  | [d1, d2, d3] => { results := [.lit (.bool true)], args := [d1, d2, d3] }
  | _ => none }
def tickAddsRow : OpenClaim := { program := "ytafgilnjggindaa", sum := "8e814cda25729eab793edcd769de1cc030e3d954633633b1fdc575e299553417", func := "rota/rotalaw01.TickAdds", spec := "tickAdds", inPlace := ["math/bits.Add64"], apart := false }
def TickAddsSaid : Prop := tickAddsRow.holds Try.pinned (OpenSpec.ofChange tickAddsSpec)

/-- ITS FALSE NEIGHBOUR: 'it returns false'. Refute it at one input. -/
def tickAddsWrong : ChangeSpec := { name := "tickAdds", fn := fun _ => fun
  | [d1, d2, d3] => { results := [.lit (.bool false)], args := [d1, d2, d3] }
  | _ => none }
def TickAddsWrongFalsely : Prop := tickAddsRow.holds Try.pinned (OpenSpec.ofChange tickAddsWrong)

/-- 'rotalaw01.TickTurns': WHATEVER THE INPUT: true; the input reads as it did. -/
def tickTurnsSpec : ChangeSpec := { name := "tickTurns", fn := fun _ => fun
  | [d] => { results := [.lit (.bool true)], args := [d] }
  | _ => none }
def tickTurnsRow : OpenClaim := { program := "ytafgilnjggindaa", sum := "8e814cda25729eab793edcd769de1cc030e3d954633633b1fdc575e299553417", func := "rota/rotalaw01.TickTurns", spec := "tickTurns", inPlace := ["math/bits.Add64"], apart := false }
def TickTurnsSaid : Prop := tickTurnsRow.holds Try.pinned (OpenSpec.ofChange tickTurnsSpec)

/-- ITS FALSE NEIGHBOUR: 'it returns false'. Refute it at one input. -/
def tickTurnsWrong : ChangeSpec := { name := "tickTurns", fn := fun _ => fun
  | [d] => { results := [.lit (.bool false)], args := [d] }
  | _ => none }
def TickTurnsWrongFalsely : Prop := tickTurnsRow.holds Try.pinned (OpenSpec.ofChange tickTurnsWrong)

/-- 'rotalaw01.TickNths': WHATEVER THE INPUT: true; the input reads as it did. -/
def tickNthsSpec : ChangeSpec := { name := "tickNths", fn := fun _ => fun
  | [d1, d2] => { results := [.lit (.bool true)], args := [d1, d2] }
  | _ => none }
def tickNthsRow : OpenClaim := { program := "ytafgilnjggindaa", sum := "8e814cda25729eab793edcd769de1cc030e3d954633633b1fdc575e299553417", func := "rota/rotalaw01.TickNths", spec := "tickNths", inPlace := ["math/bits.Add64"], apart := false }
def TickNthsSaid : Prop := tickNthsRow.holds Try.pinned (OpenSpec.ofChange tickNthsSpec)

/-- ITS FALSE NEIGHBOUR: 'it returns false'. Refute it at one input. -/
def tickNthsWrong : ChangeSpec := { name := "tickNths", fn := fun _ => fun
  | [d1, d2] => { results := [.lit (.bool false)], args := [d1, d2] }
  | _ => none }
def TickNthsWrongFalsely : Prop := tickNthsRow.holds Try.pinned (OpenSpec.ofChange tickNthsWrong)

/-- 'rotalaw01.TickLefts': WHATEVER THE INPUT: true; the input reads as it did. -/
def tickLeftsSpec : ChangeSpec := { name := "tickLefts", fn := fun _ => fun
  | [d] => { results := [.lit (.bool true)], args := [d] }
  | _ => none }
def tickLeftsRow : OpenClaim := { program := "ytafgilnjggindaa", sum := "8e814cda25729eab793edcd769de1cc030e3d954633633b1fdc575e299553417", func := "rota/rotalaw01.TickLefts", spec := "tickLefts", inPlace := ["math/bits.Add64"], apart := false }
def TickLeftsSaid : Prop := tickLeftsRow.holds Try.pinned (OpenSpec.ofChange tickLeftsSpec)

/-- ITS FALSE NEIGHBOUR: 'it returns false'. Refute it at one input. -/
def tickLeftsWrong : ChangeSpec := { name := "tickLefts", fn := fun _ => fun
  | [d] => { results := [.lit (.bool false)], args := [d] }
  | _ => none }
def TickLeftsWrongFalsely : Prop := tickLeftsRow.holds Try.pinned (OpenSpec.ofChange tickLeftsWrong)

/-- 'rotalaw01.TickFinds': WHATEVER THE INPUT: true; the input reads as it did. -/
def tickFindsSpec : ChangeSpec := { name := "tickFinds", fn := fun _ => fun
  | [d1, d2] => { results := [.lit (.bool true)], args := [d1, d2] }
  | _ => none }
def tickFindsRow : OpenClaim := { program := "ytafgilnjggindaa", sum := "8e814cda25729eab793edcd769de1cc030e3d954633633b1fdc575e299553417", func := "rota/rotalaw01.TickFinds", spec := "tickFinds", inPlace := ["math/bits.Add64"], apart := false }
def TickFindsSaid : Prop := tickFindsRow.holds Try.pinned (OpenSpec.ofChange tickFindsSpec)

/-- ITS FALSE NEIGHBOUR: 'it returns false'. Refute it at one input. -/
def tickFindsWrong : ChangeSpec := { name := "tickFinds", fn := fun _ => fun
  | [d1, d2] => { results := [.lit (.bool false)], args := [d1, d2] }
  | _ => none }
def TickFindsWrongFalsely : Prop := tickFindsRow.holds Try.pinned (OpenSpec.ofChange tickFindsWrong)

/- THE SECOND FORM. 'bulk': how many values and letters a reading holds, each counted each time it is reached (what is shared counts as often as it is met; a slice's spare places count too). A statement '..UptoSaid' is the law's where the arguments, and the package variables that the reading takes, are together of bulk at most 1048576: NARROWER than '..Said'. Prove '..Said' where nothing that the law and all that it calls make is longer than what came in: it says more and counts as full. Else prove '..UptoSaid'. A law counts once. -/
mutual
def uptoBulk {H : Type} : DataW H → Nat
  | .lit (.string bytes) => bytes.length + 1
  | .lit _ => 1
  | .nil => 1
  | .ptr d => uptoBulk d + 1
  | .slice elems spare => uptoBulkAll elems + uptoBulkAll spare + 1
  | .agg parts => uptoBulkAll parts + 1
  | .iface _ d => uptoBulk d + 1
  | .map entries => uptoBulkEntries entries + 1
  | .held _ => 1
def uptoBulkAll {H : Type} : List (DataW H) → Nat
  | [] => 0
  | d :: r => uptoBulk d + uptoBulkAll r
def uptoBulkEntries {H : Type} : List (Lit × DataW H) → Nat
  | [] => 0
  | x :: r => uptoBulkEntry x + uptoBulkEntries r
def uptoBulkEntry {H : Type} : Lit × DataW H → Nat
  | (.string bytes, d) => bytes.length + uptoBulk d + 1
  | (_, d) => uptoBulk d + 1
 end
def uptoSmall : (H : Type) → List (DataW H) → Bool := fun _ ds => decide (uptoBulkAll ds ≤ 1048576)
def OpenSpec.upto (s : _root_.Go.ChangeSpec) : _root_.Go.OpenSpec := { _root_.Go.OpenSpec.ofChange s with cond := some uptoSmall }

/-- 'rotalaw01.TickSums', WHERE WHAT IT READS IS OF BULK AT MOST 1048576: true; the input reads as it did. -/
def tickSumsUptoRow : OpenClaim := { program := "ytafgilnjggindaa", sum := "8e814cda25729eab793edcd769de1cc030e3d954633633b1fdc575e299553417", func := "rota/rotalaw01.TickSums", spec := "tickSums", inPlace := ["math/bits.Add64"], apart := false, narrowed := true }
def TickSumsUptoSaid : Prop := tickSumsUptoRow.holds Try.pinned (OpenSpec.upto tickSumsSpec)

/-- 'rotalaw01.TickPlaces', WHERE WHAT IT READS IS OF BULK AT MOST 1048576: true; the input reads as it did. -/
def tickPlacesUptoRow : OpenClaim := { program := "ytafgilnjggindaa", sum := "8e814cda25729eab793edcd769de1cc030e3d954633633b1fdc575e299553417", func := "rota/rotalaw01.TickPlaces", spec := "tickPlaces", inPlace := ["math/bits.Add64"], apart := false, narrowed := true }
def TickPlacesUptoSaid : Prop := tickPlacesUptoRow.holds Try.pinned (OpenSpec.upto tickPlacesSpec)

/-- 'rotalaw01.TickAgain', WHERE WHAT IT READS IS OF BULK AT MOST 1048576: true; the input reads as it did. -/
def tickAgainUptoRow : OpenClaim := { program := "ytafgilnjggindaa", sum := "8e814cda25729eab793edcd769de1cc030e3d954633633b1fdc575e299553417", func := "rota/rotalaw01.TickAgain", spec := "tickAgain", inPlace := ["math/bits.Add64"], apart := false, narrowed := true }
def TickAgainUptoSaid : Prop := tickAgainUptoRow.holds Try.pinned (OpenSpec.upto tickAgainSpec)

/-- 'rotalaw01.TickWindows', WHERE WHAT IT READS IS OF BULK AT MOST 1048576: true; the input reads as it did. -/
def tickWindowsUptoRow : OpenClaim := { program := "ytafgilnjggindaa", sum := "8e814cda25729eab793edcd769de1cc030e3d954633633b1fdc575e299553417", func := "rota/rotalaw01.TickWindows", spec := "tickWindows", inPlace := ["math/bits.Add64"], apart := false, narrowed := true }
def TickWindowsUptoSaid : Prop := tickWindowsUptoRow.holds Try.pinned (OpenSpec.upto tickWindowsSpec)

/-- 'rotalaw01.TickCounts', WHERE WHAT IT READS IS OF BULK AT MOST 1048576: true; the input reads as it did. -/
def tickCountsUptoRow : OpenClaim := { program := "ytafgilnjggindaa", sum := "8e814cda25729eab793edcd769de1cc030e3d954633633b1fdc575e299553417", func := "rota/rotalaw01.TickCounts", spec := "tickCounts", inPlace := ["math/bits.Add64"], apart := false, narrowed := true }
def TickCountsUptoSaid : Prop := tickCountsUptoRow.holds Try.pinned (OpenSpec.upto tickCountsSpec)

/-- 'rotalaw01.TickAdds', WHERE WHAT IT READS IS OF BULK AT MOST 1048576: true; the input reads as it did. -/
def tickAddsUptoRow : OpenClaim := { program := "ytafgilnjggindaa", sum := "8e814cda25729eab793edcd769de1cc030e3d954633633b1fdc575e299553417", func := "rota/rotalaw01.TickAdds", spec := "tickAdds", inPlace := ["math/bits.Add64"], apart := false, narrowed := true }
def TickAddsUptoSaid : Prop := tickAddsUptoRow.holds Try.pinned (OpenSpec.upto tickAddsSpec)

/-- 'rotalaw01.TickTurns', WHERE WHAT IT READS IS OF BULK AT MOST 1048576: true; the input reads as it did. -/
def tickTurnsUptoRow : OpenClaim := { program := "ytafgilnjggindaa", sum := "8e814cda25729eab793edcd769de1cc030e3d954633633b1fdc575e299553417", func := "rota/rotalaw01.TickTurns", spec := "tickTurns", inPlace := ["math/bits.Add64"], apart := false, narrowed := true }
def TickTurnsUptoSaid : Prop := tickTurnsUptoRow.holds Try.pinned (OpenSpec.upto tickTurnsSpec)

/-- 'rotalaw01.TickNths', WHERE WHAT IT READS IS OF BULK AT MOST 1048576: true; the input reads as it did. -/
def tickNthsUptoRow : OpenClaim := { program := "ytafgilnjggindaa", sum := "8e814cda25729eab793edcd769de1cc030e3d954633633b1fdc575e299553417", func := "rota/rotalaw01.TickNths", spec := "tickNths", inPlace := ["math/bits.Add64"], apart := false, narrowed := true }
def TickNthsUptoSaid : Prop := tickNthsUptoRow.holds Try.pinned (OpenSpec.upto tickNthsSpec)

/-- 'rotalaw01.TickLefts', WHERE WHAT IT READS IS OF BULK AT MOST 1048576: true; the input reads as it did. -/
def tickLeftsUptoRow : OpenClaim := { program := "ytafgilnjggindaa", sum := "8e814cda25729eab793edcd769de1cc030e3d954633633b1fdc575e299553417", func := "rota/rotalaw01.TickLefts", spec := "tickLefts", inPlace := ["math/bits.Add64"], apart := false, narrowed := true }
def TickLeftsUptoSaid : Prop := tickLeftsUptoRow.holds Try.pinned (OpenSpec.upto tickLeftsSpec)

/-- 'rotalaw01.TickFinds', WHERE WHAT IT READS IS OF BULK AT MOST 1048576: true; the input reads as it did. -/
def tickFindsUptoRow : OpenClaim := { program := "ytafgilnjggindaa", sum := "8e814cda25729eab793edcd769de1cc030e3d954633633b1fdc575e299553417", func := "rota/rotalaw01.TickFinds", spec := "tickFinds", inPlace := ["math/bits.Add64"], apart := false, narrowed := true }
def TickFindsUptoSaid : Prop := tickFindsUptoRow.holds Try.pinned (OpenSpec.upto tickFindsSpec)

end Rows
end Go.Proofs.Ytafgilnjggindaa
