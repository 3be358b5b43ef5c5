/- For every list of nodes, every number of sides and every place, SubtreeAt of the program returns what the reference's returns, leaves its argument as it was, and returns memory of its own. For all arguments whose list has at most 1000000 nodes; beyond that the law says nothing. -/
import Derived.Test.YtnndolcjljhhcaaQFnExactSubtreeAtTreeD
namespace Go.Proofs.Ytnndolcjljhhcaa.Pure
open Go.RowKit Go.Proofs.YtnndolcjljhhcaaX Go.Proofs.Ytnndolcjljhhcaa.PFnExactSubtreeAt Go.Proofs.YtnndolcjljhhcaaW.PrintWords Go.Proofs.YtnndolcjljhhcaaW.PrintLast Go.Proofs.YtnndolcjljhhcaaW.PrintMore
theorem FnExactSubtreeAt : laws_FnExactSubtreeAt.Pure := by
  intro l s p _ _ _ hl
  by_cases hg : isT s l = true ∧ 0 ≤ p ∧ p < l.length
  · obtain ⟨hT, hp0, hp1⟩ := hg
    obtain ⟨q, rfl⟩ := Int.eq_ofNat_of_zero_le hp0
    obtain ⟨hs, hlen, hrun⟩ := isT_facts hT
    obtain ⟨r, h1, h2, h3, h4⟩ := tree_at (p := q) hrun (by omega)
    have e : teV l (some r) = ((l.length - r.length : Nat) : Int) := by simp only [teV]; omega
    have hsp : Ev (fun k => spec_SubtreeAt.f k l s q) (((l.take (l.length - r.length)).drop q), true) := by
      unfold spec_SubtreeAt.f
      refine ev_bind (trPlace_ev l hl s q) ?_
      rw [show (isT s l && decide ((0 : Int) ≤ (q : Int) ∧ (q : Int) < l.length)) = true by simp [hT]; omega]
      refine ev_ite_pos rfl (ev_some ?_)
      have := trEnd_ev l hl s hs (l.length - q) q 0 (by omega) (by omega)
      rw [h1, e] at this
      refine ev_bind (by simpa using this) ?_
      refine ev_ite_pos (by omega) (ev_ite_pos (by omega) (ev_ite_pos (by omega) (ev_some (ev_ite_pos ?_ (evc fun k => ?_)))))
      · simp; omega
      · simp
    have him : Ev (fun k => impl_SubtreeAt.f k l s q) (((l.take (l.length - r.length)).drop q), true) := by
      unfold impl_SubtreeAt.f
      refine ev_bind (isTree_ev l hl s) (ev_ite_pos hT ?_)
      rw [inside_eq, w64 (x := (l.length : Int) - 1) (by omega) (by omega)]
      rw [show decide ((0 : Int) ≤ (q : Int) ∧ (q : Int) ≤ (l.length : Int) - 1) = true by simp; omega]
      simp only [Option.bind_some]
      refine Ev.step (fun k => impl_SubtreeAt.j0.eq_2 l q _ k) (ev_ite_neg (by simp) ?_)
      unfold impl_treeEnd.f
      have := treeEnd_ev l hl (l.length - q) q 1 (by omega) (by omega)
      rw [h2, e] at this
      refine ev_bind (by simpa using this) ?_
      refine ev_ite_pos (by omega) (ev_ite_pos (by omega) (ev_ite_pos (by omega) (evc fun k => ?_)))
      unfold slices_Clone_limpl_Node.f
      rw [if_pos (by simp; omega)]
      simp
    obtain ⟨k1, h5⟩ := hsp.rounds
    obtain ⟨k2, h6⟩ := him.rounds
    exact ⟨_, _, ⟨k1, h5⟩, ⟨k2, h6⟩, by simp; omega⟩
  · have hsp : Ev (fun k => spec_SubtreeAt.f k l s p) ([], false) := by
      unfold spec_SubtreeAt.f
      refine ev_bind (trPlace_ev l hl s p) (ev_ite_neg ?_ (Ev.now _))
      simp only [Bool.and_eq_true, decide_eq_true_eq]
      exact hg
    have him : Ev (fun k => impl_SubtreeAt.f k l s p) ([], false) := by
      unfold impl_SubtreeAt.f
      refine ev_bind (isTree_ev l hl s) ?_
      by_cases hT : isT s l = true
      · refine ev_ite_pos hT ?_
        rw [inside_eq, w64 (x := (l.length : Int) - 1) (by omega) (by omega)]
        rw [show decide ((0 : Int) ≤ p ∧ p ≤ (l.length : Int) - 1) = false by simp; intro h; exact Classical.byContradiction fun h' => hg ⟨hT, h, by omega⟩]
        simp only [Option.bind_some]
        exact Ev.step (fun k => impl_SubtreeAt.j0.eq_2 l p _ k) (ev_ite_pos (by simp) (Ev.now _))
      · exact ev_ite_neg hT (Ev.step (fun k => impl_SubtreeAt.j0.eq_2 l p _ k) (ev_ite_pos rfl (Ev.now _)))
    obtain ⟨k1, h5⟩ := hsp.rounds
    obtain ⟨k2, h6⟩ := him.rounds
    exact ⟨_, _, ⟨k1, h5⟩, ⟨k2, h6⟩, by simp⟩

end Go.Proofs.Ytnndolcjljhhcaa.Pure
