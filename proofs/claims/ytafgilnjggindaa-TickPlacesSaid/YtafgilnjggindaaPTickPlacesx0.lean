/- The Go functions that the law reaches, as Lean functions, and that the code comes to their answers. Laid by this session's own program; no condition. -/
import Derived.Test.YtafgilnjggindaaProg
import Derived.Below
import Derived.Deep.Draws
import Derived.Deep.AppendLies
import Derived.Maps.AppendAt
import Derived.OwnWalk
import Derived.Laws.BytesArg
import Derived.Laws.MakeOwn
import Derived.Laws.OwnMore
import Derived.Deep.OwnRows
import Derived.Tactics
import Derived.Lib.ConvBytes
import Derived.Laws.Slices
import Derived.WalkKit
import Derived.KernelRfl
import Derived.RowKit3
import Derived.Deep.LoopGhost
import Derived.Deep.QuietTactic
import Derived.BigQuiet
import Derived.WideLaws
import Derived.Deep.DeepCutAuto
import Derived.Deep.CutBlock
import Derived.Deep.RegionHeld3
import Derived.Laws.Rows
import Derived.Lib.AppendStr
import Derived.ArgAppend
import Derived.Laws.IdiomCopy
import Derived.OrdersHeld
import Derived.Laws.BitsLemmas
import Derived.RowKit
import Derived.Laws.Externs
import Derived.Test.YtafgilnjggindaaWWords
import Derived.Test.YtafgilnjggindaaWLast
import Derived.Test.YtafgilnjggindaaWTab
import Derived.Test.YtafgilnjggindaaWFour
import Derived.Test.YtafgilnjggindaaWQPut
import Derived.Test.YtafgilnjggindaaWApart
import Derived.Test.YtafgilnjggindaaWArr
import Derived.Test.YtafgilnjggindaaWZeros
import Derived.Test.YtafgilnjggindaaWFoot
import Derived.Test.YtafgilnjggindaaWKept
import Derived.Test.YtafgilnjggindaaWShare
import Derived.Test.YtafgilnjggindaaWN
import Derived.Test.YtafgilnjggindaaWFootNe
import Derived.Test.YtafgilnjggindaaWAt
import Derived.Test.YtafgilnjggindaaWEqStruct
import Derived.Test.YtafgilnjggindaaWRepsOne
import Derived.Test.YtafgilnjggindaaWInv
import Derived.Test.YtafgilnjggindaaWInvWords
import Derived.Test.YtafgilnjggindaaWGuard
import Derived.Test.YtafgilnjggindaaWNEv
import Derived.Test.YtafgilnjggindaaWMore
namespace Go.Proofs.Ytafgilnjggindaa.PTickPlaces
open Go.RowKit Go.Proofs.YtafgilnjggindaaW.PrintWords Go.Proofs.YtafgilnjggindaaW.PrintLast Go.Proofs.YtafgilnjggindaaW.PrintMore
attribute [local go_sem] max2_int min2_int max_two min_two max_three min_three max_four min_four   -- for this text's walks alone
set_option linter.unusedVariables false
set_option linter.unusedSimpArgs false



def errW : Option Int → Value
  | none => .nilIface
  | some c => .iface 0 (.int .i64 c)
theorem errW_none : errW none = .nilIface := rfl
theorem errW_some (c : Int) : errW (some c) = .iface 0 (.int .i64 c) := rfl

-- the values' own types

end Go.Proofs.Ytafgilnjggindaa.PTickPlaces
