-- Written by a program of the session (wip/xprint) for this claim.
import Derived.Test.YtnndolcjljhhcaaPFnExactReplaceLeafx0
import Derived.Test.YtnndolcjljhhcaaPFnExactReplaceLeafx1
import Derived.Test.YtnndolcjljhhcaaPFnExactReplaceLeafx2
import Derived.Test.YtnndolcjljhhcaaPFnExactReplaceLeafx3
import Derived.Test.YtnndolcjljhhcaaPFnExactReplaceLeafx4
import Derived.Test.YtnndolcjljhhcaaPFnExactReplaceLeafx5
import Derived.Test.YtnndolcjljhhcaaPFnExactReplaceLeafx6
namespace Go.Proofs.Ytnndolcjljhhcaa.PFnExactReplaceLeaf
open Go.RowKit Go.Proofs.YtnndolcjljhhcaaW.PrintWords Go.Proofs.YtnndolcjljhhcaaW.PrintLast Go.Proofs.YtnndolcjljhhcaaW.PrintMore Go.Proofs.YtnndolcjljhhcaaX
attribute [local go_sem] max2_int min2_int max_two min_two max_three min_three max_four min_four   -- for this text's walks alone
set_option linter.unusedVariables false
set_option linter.unusedSimpArgs false

end Go.Proofs.Ytnndolcjljhhcaa.PFnExactReplaceLeaf
