/- For every list of nodes and every number of sides, LeafPlaces of the program returns what the reference's returns, leaves its argument as it was, and returns memory of its own. For all arguments whose list has at most 1000000 nodes; beyond that the law says nothing. -/
import Derived.Test.YtnndolcjljhhcaaQFnExactLeafPlacesTreeC
namespace Go.Proofs.Ytnndolcjljhhcaa.Pure
open Go.RowKit Go.Proofs.YtnndolcjljhhcaaX Go.Proofs.Ytnndolcjljhhcaa.PFnExactLeafPlaces Go.Proofs.YtnndolcjljhhcaaW.PrintWords Go.Proofs.YtnndolcjljhhcaaW.PrintLast Go.Proofs.YtnndolcjljhhcaaW.PrintMore
theorem LeafPlaces_spec (l : List Nd) (hl : l.length ≤ 1000000) (s : Int) : Ev (fun k => spec_LeafPlaces.f k l s) (if isT s l then (pl l 0, true) else ([], false)) := by
  have key : ∀ (m i : Nat) (out : List Int), i + m = l.length → out.length ≤ i → Ev (fun k => spec_LeafPlaces.l0 k out l (l.length : Int) i) (out ++ pl (l.drop i) i, true) := by
    intro m
    induction m with
    | zero =>
      intro i out hi ho
      rw [List.drop_eq_nil_of_le (by omega)]
      exact Ev.step (fun k => spec_LeafPlaces.l0.eq_2 out l _ i k) (ev_ite_neg (by omega) (evc fun k => by simp [pl]))
    | succ m ih =>
      intro i out hi ho
      have hlt : i < l.length := by omega
      have e4 : wrap64 ((i : Int) + 1) = ((i + 1 : Nat) : Int) := by rw [w64 (by omega) (by omega)]; omega
      refine Ev.step (fun k => spec_LeafPlaces.l0.eq_2 out l _ i k) (ev_ite_pos (by omega) (ev_ite_pos (by omega) (ev_ite_pos (by omega) ?_)))
      rw [rdN l i hlt, e4, drop_at l i hlt]
      simp only [pl]
      by_cases h : l[i].f0 = 0
      · rw [if_pos h]
        exact ev_ite_pos h (ih (i + 1) out (by omega) (by omega))
      · rw [if_neg h]
        refine ev_ite_neg h (ev_ite_pos (by omega) ?_)
        have := ih (i + 1) (out ++ [(i : Int)]) (by omega) (by simp; omega)
        simpa using this
  unfold spec_LeafPlaces.f
  refine ev_bind (trGood_ev l hl s) ?_
  by_cases h : isT s l = true
  · rw [if_pos h]
    refine ev_ite_pos h ?_
    simpa using key l.length 0 [] (by omega) (by simp)
  · rw [if_neg h]
    exact ev_ite_neg h (Ev.now _)
theorem leafPlaces_ev (l : List Nd) (hl : l.length ≤ 1000000) : Ev (fun k => impl_leafPlaces.f k l) (pl l 0) := by
  have key : ∀ (m i : Nat) (out : List Int), i + m = l.length → out.length ≤ i → Ev (fun k => impl_leafPlaces.l0 k out l (l.length : Int) i) (out ++ pl (l.drop i) i) := by
    intro m
    induction m with
    | zero =>
      intro i out hi ho
      rw [List.drop_eq_nil_of_le (by omega)]
      exact Ev.step (fun k => impl_leafPlaces.l0.eq_2 out l _ i k) (ev_ite_neg (by omega) (evc fun k => by simp [pl]))
    | succ m ih =>
      intro i out hi ho
      have hlt : i < l.length := by omega
      have e4 : wrap64 ((i : Int) + 1) = ((i + 1 : Nat) : Int) := by rw [w64 (by omega) (by omega)]; omega
      refine Ev.step (fun k => impl_leafPlaces.l0.eq_2 out l _ i k) (ev_ite_pos (by omega) (ev_ite_pos (by omega) (ev_ite_pos (by omega) ?_)))
      rw [rdN l i hlt, e4, drop_at l i hlt]
      simp only [pl]
      by_cases h : l[i].f0 = 0
      · rw [if_pos h]
        exact ev_ite_pos h (ih (i + 1) out (by omega) (by omega))
      · rw [if_neg h]
        refine ev_ite_neg h (ev_ite_pos (by omega) ?_)
        have := ih (i + 1) (out ++ [(i : Int)]) (by omega) (by simp; omega)
        simpa using this
  unfold impl_leafPlaces.f
  simpa using key l.length 0 [] (by omega) (by simp)
theorem FnExactLeafPlaces : laws_FnExactLeafPlaces.Pure := by
  intro l s _ _ hl
  obtain ⟨k1, h1⟩ := (LeafPlaces_spec l hl s).rounds
  have h2 : Ev (fun k => impl_LeafPlaces.f k l s) (if isT s l then (pl l 0, true) else ([], false)) := by
    unfold impl_LeafPlaces.f
    refine ev_bind (isTree_ev l hl s) ?_
    by_cases h : isT s l = true
    · rw [if_pos h]
      exact ev_ite_pos h (ev_bind (leafPlaces_ev l hl) (Ev.now _))
    · rw [if_neg h]
      exact ev_ite_neg h (Ev.now _)
  obtain ⟨k2, h2⟩ := h2.rounds
  have hp := pl_length l 0
  by_cases h : isT s l = true
  · rw [if_pos h] at h1 h2
    exact ⟨_, _, ⟨k1, h1⟩, ⟨k2, h2⟩, by omega⟩
  · rw [if_neg h] at h1 h2
    exact ⟨_, _, ⟨k1, h1⟩, ⟨k2, h2⟩, by simp⟩

end Go.Proofs.Ytnndolcjljhhcaa.Pure
