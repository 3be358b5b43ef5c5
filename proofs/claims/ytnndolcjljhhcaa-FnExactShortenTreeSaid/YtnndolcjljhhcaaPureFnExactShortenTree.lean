/- For every list of nodes and every number of sides, ShortenTree of the program returns what the reference's returns, leaves its argument as it was, and returns memory of its own. For all arguments whose list has at most 1000000 nodes; beyond that the law says nothing. -/
import Derived.Test.YtnndolcjljhhcaaQFnExactShortenTreeTreeF
namespace Go.Proofs.Ytnndolcjljhhcaa.Pure
open Go.RowKit Go.Proofs.YtnndolcjljhhcaaX Go.Proofs.Ytnndolcjljhhcaa.PFnExactShortenTree Go.Proofs.YtnndolcjljhhcaaW.PrintWords Go.Proofs.YtnndolcjljhhcaaW.PrintLast Go.Proofs.YtnndolcjljhhcaaW.PrintMore
theorem FnExactShortenTree : laws_FnExactShortenTree.Pure := by
  intro l s _ _ hl
  have fin : ∀ r : List Nd × Bool, Ev (fun k => spec_ShortenTree.f k l s) r → Ev (fun k => impl_ShortenTree.f k l s) r → r.1.length ≤ 1099511627776 → ∃ (r1 : List Nd) (r2 : Bool), (∃ k, spec_ShortenTree.f k l s = some (r1, r2)) ∧ (∃ k, impl_ShortenTree.f k l s = some (r1, r2)) ∧ r1.length ≤ 1099511627776 := by
    intro r h1 h2 h3
    obtain ⟨k1, h4⟩ := h1.rounds
    obtain ⟨k2, h5⟩ := h2.rounds
    exact ⟨r.1, r.2, ⟨k1, h4⟩, ⟨k2, h5⟩, h3⟩
  by_cases hT : isT s l = true
  · refine fin (bk l, true) ?_ ?_ (by have := bk_length l; simp; omega)
    · unfold spec_ShortenTree.f
      exact ev_bind (trGood_ev l hl s) (ev_ite_pos hT (ev_bind (trShort_ev l hl) (Ev.now _)))
    · unfold impl_ShortenTree.f
      obtain ⟨_, _, hrun⟩ := isT_facts hT
      obtain ⟨t, h1, h2, _⟩ := shortened_ev l hl s l.length 0 0 [] (by omega) (by simpa using hrun)
      have e : bk l = t := by simpa [bk] using h2
      rw [e]
      exact ev_bind (isTree_ev l hl s) (ev_ite_pos hT (ev_bind (by simpa using h1) (Ev.now _)))
  · refine fin ([], false) ?_ ?_ (by simp)
    · unfold spec_ShortenTree.f
      exact ev_bind (trGood_ev l hl s) (ev_ite_neg hT (Ev.now _))
    · unfold impl_ShortenTree.f
      exact ev_bind (isTree_ev l hl s) (ev_ite_neg hT (Ev.now _))

end Go.Proofs.Ytnndolcjljhhcaa.Pure
