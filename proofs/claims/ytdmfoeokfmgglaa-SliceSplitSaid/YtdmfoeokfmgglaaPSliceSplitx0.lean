/- The Go functions that the law reaches, as Lean functions, and that the code comes to their answers. Laid by this session's own program; no condition. -/
import Derived.Test.YtdmfoeokfmgglaaProg
import Derived.Below
import Derived.Deep.Draws
import Derived.Deep.AppendLies
import Derived.Maps.AppendAt
import Derived.OwnWalk
import Derived.Laws.BytesArg
import Derived.Laws.MakeOwn
import Derived.Laws.OwnMore
import Derived.Deep.OwnRows
import Derived.Tactics
import Derived.Lib.ConvBytes
import Derived.Laws.Slices
import Derived.WalkKit
import Derived.KernelRfl
import Derived.RowKit3
import Derived.Deep.LoopGhost
import Derived.Deep.QuietTactic
import Derived.BigQuiet
import Derived.WideLaws
import Derived.Deep.DeepCutAuto
import Derived.Deep.CutBlock
import Derived.Deep.RegionHeld3
import Derived.Laws.Rows
import Derived.Lib.AppendStr
import Derived.ArgAppend
import Derived.Laws.IdiomCopy
import Derived.OrdersHeld
import Derived.Laws.BitsLemmas
import Derived.RowKit
import Derived.Laws.Externs
import Derived.Test.YtdmfoeokfmgglaaWWords
import Derived.Test.YtdmfoeokfmgglaaWLast
import Derived.Test.YtdmfoeokfmgglaaWTab
import Derived.Test.YtdmfoeokfmgglaaWFour
import Derived.Test.YtdmfoeokfmgglaaWQPut
import Derived.Test.YtdmfoeokfmgglaaWApart
import Derived.Test.YtdmfoeokfmgglaaWArr
import Derived.Test.YtdmfoeokfmgglaaWZeros
import Derived.Test.YtdmfoeokfmgglaaWFoot
import Derived.Test.YtdmfoeokfmgglaaWKept
import Derived.Test.YtdmfoeokfmgglaaWShare
import Derived.Test.YtdmfoeokfmgglaaWN
import Derived.Test.YtdmfoeokfmgglaaWFootNe
import Derived.Test.YtdmfoeokfmgglaaWAt
import Derived.Test.YtdmfoeokfmgglaaWEqStruct
import Derived.Test.YtdmfoeokfmgglaaWRepsOne
import Derived.Test.YtdmfoeokfmgglaaWInv
import Derived.Test.YtdmfoeokfmgglaaWInvWords
import Derived.Test.YtdmfoeokfmgglaaWGuard
import Derived.Test.YtdmfoeokfmgglaaWNEv
import Derived.Test.YtdmfoeokfmgglaaWMore
namespace Go.Proofs.Ytdmfoeokfmgglaa.PSliceSplit
open Go.RowKit Go.Proofs.YtdmfoeokfmgglaaW.PrintWords Go.Proofs.YtdmfoeokfmgglaaW.PrintLast Go.Proofs.YtdmfoeokfmgglaaW.PrintMore
attribute [local go_sem] max2_int min2_int max_two min_two max_three min_three max_four min_four   -- for this text's walks alone
set_option linter.unusedVariables false
set_option linter.unusedSimpArgs false



def errW : Option Int → Value
  | none => .nilIface
  | some c => .iface 0 (.int .i64 c)
theorem errW_none : errW none = .nilIface := rfl
theorem errW_some (c : Int) : errW (some c) = .iface 0 (.int .i64 c) := rfl

theorem info24 : (Try.prog.info? 24).map (fun i => (i.zero, i.size, i.bytes)) = some (some (.int .u64 0), 1, 8) := by kernel_rfl
-- the values' own types

end Go.Proofs.Ytdmfoeokfmgglaa.PSliceSplit
