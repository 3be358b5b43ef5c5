/- For every two lists of coefficients, every moment and every fineness, FamilyAt of the program returns what the reference's returns, leaves its arguments as they were, and returns memory of its own. For all arguments whose lists have together at most 1000000 numbers; beyond that the law says nothing. -/
import Derived.Test.YtnndolcjljhhcaaQFnExactFamilyAtFamC
namespace Go.Proofs.Ytnndolcjljhhcaa.Pure
open Go.RowKit Go.Proofs.YtnndolcjljhhcaaX Go.Proofs.Ytnndolcjljhhcaa.PFnExactFamilyAt Go.Proofs.YtnndolcjljhhcaaW.PrintWords Go.Proofs.YtnndolcjljhhcaaW.PrintLast Go.Proofs.YtnndolcjljhhcaaW.PrintMore
theorem FnExactFamilyAt : laws_FnExactFamilyAt.Pure := by
  intro p q u d _ _ _ _ hl
  have fin : ∀ r : List Int × Bool, Ev (fun k => spec_FamilyAt.f k p q u d) r → Ev (fun k => impl_FamilyAt.f k p q u d) r → r.1.length ≤ 1099511627776 → ∃ (r1 : List Int) (r2 : Bool), (∃ k, spec_FamilyAt.f k p q u d = some (r1, r2)) ∧ (∃ k, impl_FamilyAt.f k p q u d = some (r1, r2)) ∧ r1.length ≤ 1099511627776 := by
    intro r h1 h2 h3
    obtain ⟨k1, h4⟩ := h1.rounds
    obtain ⟨k2, h5⟩ := h2.rounds
    exact ⟨r.1, r.2, ⟨k1, h4⟩, ⟨k2, h5⟩, h3⟩
  by_cases h : faV p q d = true
  · obtain ⟨h1, h2, h3, h4, h5⟩ := faV_d h
    obtain ⟨t, t1, t2, hs, hd⟩ := power h5
    by_cases hu : 0 ≤ u ∧ u ≤ t
    · have hp : small p := ⟨h1.2, h3⟩
      have hq : small q := ⟨h2.2, h4⟩
      obtain ⟨R, e1, e2, e3⟩ := faAt_ev p q hp hq d t u hd (by omega) (by omega)
      obtain ⟨A, a1, a2, a3⟩ := mult_ev p hp t (by omega)
      obtain ⟨B, b1, b2, b3⟩ := mult_ev q hq u (by omega)
      obtain ⟨C, c1, c2⟩ := add_ev A B (fun j => by rw [a3]; exact mul_small (small_get hp j) (by omega)) (fun j => by rw [b3]; exact mul_small (small_get hq j) (by omega)) a2 b2
      have hCR : strip C = strip R := strip_ext C R (fun i => by rw [c2, a3, b3, e3])
      refine fin (strip R, true) ?_ ?_ (by have := strip_le R; simp; omega)
      · unfold spec_FamilyAt.f spec_faMoment.f
        refine ev_bind (a := true) (ev_bind (faAsked_ev p q d (by omega) (by omega)) (ev_ite_pos h ?_)) (ev_ite_pos rfl (ev_bind e1 ?_))
        · rw [hd]
          refine ev_some ?_
          rw [in1_eq, show decide (0 ≤ u ∧ u ≤ t) = true by simpa using hu]
          exact ev_some (Ev.now _)
        · unfold spec_sgTrim.f
          exact ev_bind (sgTrim_l0 _ R rfl (by omega)) (Ev.now _)
      · unfold impl_FamilyAt.f impl_isMoment.f impl_familyAt.f
        refine ev_bind (isFamily_ev p q d (by omega) (by omega)) (ev_ite_pos h ?_)
        rw [hs, if_pos h5.1, in_eq, show decide (0 ≤ u ∧ u ≤ t) = true by simpa using hu]
        refine ev_bind (a := true) (Ev.now _) (ev_ite_pos rfl ?_)
        refine ev_bind (a := strip C) (ev_ite_pos h5.1 (ev_bind a1 (ev_bind b1 (ev_bind c1 (Ev.now _))))) ?_
        rw [hCR]
        exact Ev.now _
    · refine fin ([], false) ?_ ?_ (by simp)
      · unfold spec_FamilyAt.f spec_faMoment.f
        refine ev_bind (a := false) (ev_bind (faAsked_ev p q d (by omega) (by omega)) (ev_ite_pos h ?_)) (ev_ite_neg (by simp) (Ev.now _))
        rw [hd]
        refine ev_some ?_
        rw [in1_eq, show decide (0 ≤ u ∧ u ≤ t) = false by simpa using hu]
        exact ev_some (Ev.now _)
      · unfold impl_FamilyAt.f impl_isMoment.f
        refine ev_bind (isFamily_ev p q d (by omega) (by omega)) (ev_ite_pos h ?_)
        rw [hs, if_pos h5.1, in_eq, show decide (0 ≤ u ∧ u ≤ t) = false by simpa using hu]
        exact ev_bind (a := false) (Ev.now _) (ev_ite_neg (by simp) (Ev.now _))
  · refine fin ([], false) ?_ ?_ (by simp)
    · unfold spec_FamilyAt.f spec_faMoment.f
      exact ev_bind (a := false) (ev_bind (faAsked_ev p q d (by omega) (by omega)) (ev_ite_neg h (Ev.now _))) (ev_ite_neg (by simp) (Ev.now _))
    · unfold impl_FamilyAt.f
      exact ev_bind (isFamily_ev p q d (by omega) (by omega)) (ev_ite_neg h (Ev.now _))

end Go.Proofs.Ytnndolcjljhhcaa.Pure
