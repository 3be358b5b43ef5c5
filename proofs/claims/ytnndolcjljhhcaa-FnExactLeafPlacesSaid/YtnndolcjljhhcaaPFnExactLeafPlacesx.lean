-- Written by a program of the session (wip/xprint) for this claim.
import Derived.Test.YtnndolcjljhhcaaPFnExactLeafPlacesx0
import Derived.Test.YtnndolcjljhhcaaPFnExactLeafPlacesx1
import Derived.Test.YtnndolcjljhhcaaPFnExactLeafPlacesx2
import Derived.Test.YtnndolcjljhhcaaPFnExactLeafPlacesx3
import Derived.Test.YtnndolcjljhhcaaPFnExactLeafPlacesx4
import Derived.Test.YtnndolcjljhhcaaPFnExactLeafPlacesx5
namespace Go.Proofs.Ytnndolcjljhhcaa.PFnExactLeafPlaces
open Go.RowKit Go.Proofs.YtnndolcjljhhcaaW.PrintWords Go.Proofs.YtnndolcjljhhcaaW.PrintLast Go.Proofs.YtnndolcjljhhcaaW.PrintMore Go.Proofs.YtnndolcjljhhcaaX
attribute [local go_sem] max2_int min2_int max_two min_two max_three min_three max_four min_four   -- for this text's walks alone
set_option linter.unusedVariables false
set_option linter.unusedSimpArgs false

end Go.Proofs.Ytnndolcjljhhcaa.PFnExactLeafPlaces
