-- Written by a program of the session (wip/xprint) for this claim.
import Derived.Test.YtnndolcjljhhcaaDoorPFnExactTreeTextx0
import Derived.Test.YtnndolcjljhhcaaDoorPFnExactTreeTextx1
import Derived.Test.YtnndolcjljhhcaaDoorPFnExactTreeTextx2
import Derived.Test.YtnndolcjljhhcaaDoorPFnExactTreeTextx3
import Derived.Test.YtnndolcjljhhcaaDoorPFnExactTreeTextx4
import Derived.Test.YtnndolcjljhhcaaDoorPFnExactTreeTextx5
namespace Go.Proofs.YtnndolcjljhhcaaDoor.PFnExactTreeText
open Go.RowKit Go.Proofs.YtnndolcjljhhcaaDoorW.PrintWords Go.Proofs.YtnndolcjljhhcaaDoorW.PrintLast Go.Proofs.YtnndolcjljhhcaaDoorW.PrintMore Go.Proofs.YtnndolcjljhhcaaDoorX
attribute [local go_sem] max2_int min2_int max_two min_two max_three min_three max_four min_four   -- for this text's walks alone
set_option linter.unusedVariables false
set_option linter.unusedSimpArgs false

end Go.Proofs.YtnndolcjljhhcaaDoor.PFnExactTreeText
