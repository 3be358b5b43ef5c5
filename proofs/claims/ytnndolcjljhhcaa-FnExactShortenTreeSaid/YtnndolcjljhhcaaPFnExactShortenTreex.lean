-- Written by a program of the session (wip/xprint) for this claim.
import Derived.Test.YtnndolcjljhhcaaPFnExactShortenTreex0
import Derived.Test.YtnndolcjljhhcaaPFnExactShortenTreex1
import Derived.Test.YtnndolcjljhhcaaPFnExactShortenTreex2
import Derived.Test.YtnndolcjljhhcaaPFnExactShortenTreex3
import Derived.Test.YtnndolcjljhhcaaPFnExactShortenTreex4
import Derived.Test.YtnndolcjljhhcaaPFnExactShortenTreex5
import Derived.Test.YtnndolcjljhhcaaPFnExactShortenTreex6
import Derived.Test.YtnndolcjljhhcaaPFnExactShortenTreex7
import Derived.Test.YtnndolcjljhhcaaPFnExactShortenTreex8
namespace Go.Proofs.Ytnndolcjljhhcaa.PFnExactShortenTree
open Go.RowKit Go.Proofs.YtnndolcjljhhcaaW.PrintWords Go.Proofs.YtnndolcjljhhcaaW.PrintLast Go.Proofs.YtnndolcjljhhcaaW.PrintMore Go.Proofs.YtnndolcjljhhcaaX
attribute [local go_sem] max2_int min2_int max_two min_two max_three min_three max_four min_four   -- for this text's walks alone
set_option linter.unusedVariables false
set_option linter.unusedSimpArgs false

end Go.Proofs.Ytnndolcjljhhcaa.PFnExactShortenTree
