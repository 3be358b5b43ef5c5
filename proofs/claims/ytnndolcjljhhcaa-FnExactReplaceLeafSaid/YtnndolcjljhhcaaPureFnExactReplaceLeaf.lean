/- For every two lists of nodes, every number of sides and every place, ReplaceLeaf of the program returns what the reference's returns, leaves its arguments as they were, and returns memory of its own. For all arguments whose lists have together at most 1000000 nodes; beyond that the law says nothing. -/
import Derived.Test.YtnndolcjljhhcaaQFnExactReplaceLeafTreeE
namespace Go.Proofs.Ytnndolcjljhhcaa.Pure
open Go.RowKit Go.Proofs.YtnndolcjljhhcaaX Go.Proofs.Ytnndolcjljhhcaa.PFnExactReplaceLeaf Go.Proofs.YtnndolcjljhhcaaW.PrintWords Go.Proofs.YtnndolcjljhhcaaW.PrintLast Go.Proofs.YtnndolcjljhhcaaW.PrintMore
theorem FnExactReplaceLeaf : laws_FnExactReplaceLeaf.Pure := by
  intro l s p m _ _ _ _ hl
  have hsF : Ev (fun k => spec_ReplaceLeaf.j0 k l s p m true) ([], false) := Ev.step (fun k => spec_ReplaceLeaf.j0.eq_2 l s p m true k) (ev_ite_pos rfl (Ev.now _))
  have hiF : Ev (fun k => impl_ReplaceLeaf.j0 k l s p m true) ([], false) := Ev.step (fun k => impl_ReplaceLeaf.j0.eq_2 l s p m true k) (ev_ite_pos rfl (Ev.now _))
  have fin : ∀ r : List Nd × Bool, Ev (fun k => spec_ReplaceLeaf.f k l s p m) r → Ev (fun k => impl_ReplaceLeaf.f k l s p m) r → r.1.length ≤ 1099511627776 → ∃ (r1 : List Nd) (r2 : Bool), (∃ k, spec_ReplaceLeaf.f k l s p m = some (r1, r2)) ∧ (∃ k, impl_ReplaceLeaf.f k l s p m = some (r1, r2)) ∧ r1.length ≤ 1099511627776 := by
    intro r h1 h2 h3
    obtain ⟨k1, h4⟩ := h1.rounds
    obtain ⟨k2, h5⟩ := h2.rounds
    exact ⟨r.1, r.2, ⟨k1, h4⟩, ⟨k2, h5⟩, h3⟩
  have hin : impl_inside.f p 0 (wrap64 ((l.length : Int) - 1)) = some (decide (0 ≤ p ∧ p < l.length)) := by
    rw [inside_eq, w64 (x := (l.length : Int) - 1) (by omega) (by omega)]
    congr 1
    rw [decide_eq_decide]
    omega
  by_cases hT : isT s l = true
  · by_cases hp : 0 ≤ p ∧ p < l.length
    · obtain ⟨q, rfl⟩ := Int.eq_ofNat_of_zero_le hp.1
      have hq : q < l.length := by omega
      have tp := trPlace_ev l (by omega) s q
      rw [hT, show decide ((0 : Int) ≤ (q : Int) ∧ (q : Int) < l.length) = true by simpa using hp] at tp
      rw [show decide ((0 : Int) ≤ (q : Int) ∧ (q : Int) < l.length) = true by simpa using hp] at hin
      by_cases hM : isT s m = true
      · by_cases h0 : l[q].f0 = 0
        · refine fin ([], false) ?_ ?_ (by simp)
          · unfold spec_ReplaceLeaf.f
            refine ev_bind tp (ev_ite_pos rfl (ev_ite_pos (by omega) (ev_ite_pos (by omega) ?_)))
            rw [rdN l q hq]
            exact ev_ite_pos h0 hsF
          · unfold impl_ReplaceLeaf.f
            refine ev_bind (isTree_ev l (by omega) s) (ev_ite_pos hT (ev_bind (isTree_ev m (by omega) s) (ev_ite_pos hM ?_)))
            rw [hin]
            refine ev_some (ev_ite_pos rfl (ev_ite_pos (by omega) (ev_ite_pos (by omega) ?_)))
            rw [rdN l q hq, show (l[q].f0 == 0) = true by simpa using h0]
            exact hiF
        · have hlen : (l.take q ++ m ++ l.drop (q + 1)).length ≤ 1000000 := by simp; omega
          have e1 : wrap64 ((q : Int) + 1) = ((q + 1 : Nat) : Int) := by rw [w64 (by omega) (by omega)]; omega
          refine fin (if isT s (l.take q ++ m ++ l.drop (q + 1)) = true then (l.take q ++ m ++ l.drop (q + 1), true) else ([], false)) ?_ ?_ (by split <;> simp at hlen ⊢ <;> omega)
          · unfold spec_ReplaceLeaf.f
            refine ev_bind tp (ev_ite_pos rfl (ev_ite_pos (by omega) (ev_ite_pos (by omega) ?_)))
            rw [rdN l q hq]
            refine ev_ite_neg h0 (ev_bind (trGood_ev m (by omega) s) ?_)
            rw [hM]
            refine Ev.step (fun k => spec_ReplaceLeaf.j0.eq_2 l s q m (!true) k) ?_
            rw [e1]
            refine ev_ite_neg (by simp) (ev_ite_pos (by omega) (ev_ite_pos (by omega) (ev_ite_pos (by omega) (ev_ite_pos (by omega) ?_))))
            rw [Int.toNat_natCast, Int.toNat_natCast, join_eq _ _ _ (by simp; omega)]
            refine ev_some (ev_bind (trGood_ev _ hlen s) ?_)
            split <;> exact Ev.now _
          · unfold impl_ReplaceLeaf.f
            refine ev_bind (isTree_ev l (by omega) s) (ev_ite_pos hT (ev_bind (isTree_ev m (by omega) s) (ev_ite_pos hM ?_)))
            rw [hin]
            refine ev_some (ev_ite_pos rfl (ev_ite_pos (by omega) (ev_ite_pos (by omega) ?_)))
            rw [rdN l q hq, show (l[q].f0 == 0) = false by simpa using h0]
            refine Ev.step (fun k => impl_ReplaceLeaf.j0.eq_2 l s q m false k) ?_
            rw [e1]
            refine ev_ite_neg (by simp) (ev_ite_pos (by omega) (ev_ite_pos (by omega) (ev_ite_pos (by omega) (ev_ite_pos (by omega) ?_))))
            rw [Int.toNat_natCast, Int.toNat_natCast]
            refine ev_bind (concat_ev _ _ _ (by simp; omega)) (ev_bind (isTree_ev _ hlen s) ?_)
            split <;> exact Ev.now _
      · refine fin ([], false) ?_ ?_ (by simp)
        · unfold spec_ReplaceLeaf.f
          refine ev_bind tp (ev_ite_pos rfl (ev_ite_pos (by omega) (ev_ite_pos (by omega) ?_)))
          rw [rdN l q hq]
          by_cases h0 : l[q].f0 = 0
          · exact ev_ite_pos h0 hsF
          · refine ev_ite_neg h0 (ev_bind (trGood_ev m (by omega) s) ?_)
            rw [show (!isT s m) = true by simpa using hM]
            exact hsF
        · unfold impl_ReplaceLeaf.f
          exact ev_bind (isTree_ev l (by omega) s) (ev_ite_pos hT (ev_bind (isTree_ev m (by omega) s) (ev_ite_neg hM hiF)))
    · refine fin ([], false) ?_ ?_ (by simp)
      · unfold spec_ReplaceLeaf.f
        refine ev_bind (trPlace_ev l (by omega) s p) (ev_ite_neg ?_ hsF)
        simp only [Bool.and_eq_true, decide_eq_true_eq]
        exact fun h => hp h.2
      · unfold impl_ReplaceLeaf.f
        refine ev_bind (isTree_ev l (by omega) s) (ev_ite_pos hT (ev_bind (isTree_ev m (by omega) s) ?_))
        by_cases hM : isT s m = true
        · refine ev_ite_pos hM ?_
          rw [hin]
          refine ev_some (ev_ite_neg ?_ hiF)
          simpa using hp
        · exact ev_ite_neg hM hiF
  · refine fin ([], false) ?_ ?_ (by simp)
    · unfold spec_ReplaceLeaf.f
      refine ev_bind (trPlace_ev l (by omega) s p) (ev_ite_neg ?_ hsF)
      simp only [Bool.and_eq_true, decide_eq_true_eq]
      exact fun h => hT h.1
    · unfold impl_ReplaceLeaf.f
      exact ev_bind (isTree_ev l (by omega) s) (ev_ite_neg hT hiF)

end Go.Proofs.Ytnndolcjljhhcaa.Pure
