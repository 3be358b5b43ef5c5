/- For every list of nodes and every number of sides, CountLeaves of the program returns what the reference's returns, leaves its argument as it was, and returns memory of its own. For all arguments whose list has at most 1000000 nodes; beyond that the law says nothing. -/
import Derived.Test.YtnndolcjljhhcaaQFnExactCountLeavesTreeC1
namespace Go.Proofs.Ytnndolcjljhhcaa.Pure
open Go.RowKit Go.Proofs.YtnndolcjljhhcaaX Go.Proofs.Ytnndolcjljhhcaa.PFnExactCountLeaves Go.Proofs.YtnndolcjljhhcaaW.PrintWords Go.Proofs.YtnndolcjljhhcaaW.PrintLast Go.Proofs.YtnndolcjljhhcaaW.PrintMore
theorem FnExactCountLeaves : laws_FnExactCountLeaves.Pure := by
  intro l s _ _ hl
  obtain ⟨k1, h1⟩ := (CountLeaves_spec l hl s).rounds
  obtain ⟨k2, h2⟩ := (CountLeaves_impl l hl s).rounds
  by_cases h : isT s l = true
  · rw [if_pos h] at h1 h2
    exact ⟨_, _, ⟨k1, h1⟩, ⟨k2, h2⟩, by simp⟩
  · rw [if_neg h] at h1 h2
    exact ⟨_, _, ⟨k1, h1⟩, ⟨k2, h2⟩, by simp⟩

end Go.Proofs.Ytnndolcjljhhcaa.Pure
