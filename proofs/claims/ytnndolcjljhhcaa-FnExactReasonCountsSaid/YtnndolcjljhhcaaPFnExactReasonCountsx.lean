-- Written by a program of the session (wip/xprint) for this claim.
import Derived.Test.YtnndolcjljhhcaaPFnExactReasonCountsx0
import Derived.Test.YtnndolcjljhhcaaPFnExactReasonCountsx1
import Derived.Test.YtnndolcjljhhcaaPFnExactReasonCountsx2
import Derived.Test.YtnndolcjljhhcaaPFnExactReasonCountsx3
import Derived.Test.YtnndolcjljhhcaaPFnExactReasonCountsx4
import Derived.Test.YtnndolcjljhhcaaPFnExactReasonCountsx5
import Derived.Test.YtnndolcjljhhcaaPFnExactReasonCountsx6
import Derived.Test.YtnndolcjljhhcaaPFnExactReasonCountsx7
namespace Go.Proofs.Ytnndolcjljhhcaa.PFnExactReasonCounts
open Go.RowKit Go.Proofs.YtnndolcjljhhcaaW.PrintWords Go.Proofs.YtnndolcjljhhcaaW.PrintLast Go.Proofs.YtnndolcjljhhcaaW.PrintMore Go.Proofs.YtnndolcjljhhcaaX
attribute [local go_sem] max2_int min2_int max_two min_two max_three min_three max_four min_four   -- for this text's walks alone
set_option linter.unusedVariables false
set_option linter.unusedSimpArgs false

end Go.Proofs.Ytnndolcjljhhcaa.PFnExactReasonCounts
