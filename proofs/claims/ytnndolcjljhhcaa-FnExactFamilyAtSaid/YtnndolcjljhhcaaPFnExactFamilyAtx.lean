-- Written by a program of the session (wip/xprint) for this claim.
import Derived.Test.YtnndolcjljhhcaaPFnExactFamilyAtx0
import Derived.Test.YtnndolcjljhhcaaPFnExactFamilyAtx1
import Derived.Test.YtnndolcjljhhcaaPFnExactFamilyAtx2
import Derived.Test.YtnndolcjljhhcaaPFnExactFamilyAtx3
import Derived.Test.YtnndolcjljhhcaaPFnExactFamilyAtx4
import Derived.Test.YtnndolcjljhhcaaPFnExactFamilyAtx5
import Derived.Test.YtnndolcjljhhcaaPFnExactFamilyAtx6
import Derived.Test.YtnndolcjljhhcaaPFnExactFamilyAtx7
namespace Go.Proofs.Ytnndolcjljhhcaa.PFnExactFamilyAt
open Go.RowKit Go.Proofs.YtnndolcjljhhcaaW.PrintWords Go.Proofs.YtnndolcjljhhcaaW.PrintLast Go.Proofs.YtnndolcjljhhcaaW.PrintMore Go.Proofs.YtnndolcjljhhcaaX
attribute [local go_sem] max2_int min2_int max_two min_two max_three min_three max_four min_four   -- for this text's walks alone
set_option linter.unusedVariables false
set_option linter.unusedSimpArgs false

end Go.Proofs.Ytnndolcjljhhcaa.PFnExactFamilyAt
