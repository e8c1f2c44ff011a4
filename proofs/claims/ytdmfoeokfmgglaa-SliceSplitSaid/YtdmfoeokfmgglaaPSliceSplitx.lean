/- The Go functions that the law reaches, as Lean functions, and that the code comes to their answers. Laid by this session's own program; no condition. -/
import Derived.Test.YtdmfoeokfmgglaaPSliceSplitx0
import Derived.Test.YtdmfoeokfmgglaaPSliceSplitx1
import Derived.Test.YtdmfoeokfmgglaaPSliceSplitx2
import Derived.Test.YtdmfoeokfmgglaaPSliceSplitx3
import Derived.Test.YtdmfoeokfmgglaaPSliceSplitx4
namespace Go.Proofs.Ytdmfoeokfmgglaa.PSliceSplit
open Go.RowKit Go.Proofs.YtdmfoeokfmgglaaW.PrintWords Go.Proofs.YtdmfoeokfmgglaaW.PrintLast Go.Proofs.YtdmfoeokfmgglaaW.PrintMore
attribute [local go_sem] max2_int min2_int max_two min_two max_three min_three max_four min_four   -- for this text's walks alone
set_option linter.unusedVariables false
set_option linter.unusedSimpArgs false

end Go.Proofs.Ytdmfoeokfmgglaa.PSliceSplit
