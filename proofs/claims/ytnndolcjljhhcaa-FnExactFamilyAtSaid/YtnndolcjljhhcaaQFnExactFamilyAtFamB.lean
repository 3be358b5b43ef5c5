import Derived.Test.YtnndolcjljhhcaaQFnExactFamilyAtFamA
namespace Go.Proofs.Ytnndolcjljhhcaa.Pure
open Go.RowKit Go.Proofs.YtnndolcjljhhcaaX Go.Proofs.Ytnndolcjljhhcaa.PFnExactFamilyAt Go.Proofs.YtnndolcjljhhcaaW.PrintWords Go.Proofs.YtnndolcjljhhcaaW.PrintLast Go.Proofs.YtnndolcjljhhcaaW.PrintMore
theorem isSmall1_eq (a : Int) : impl_isSmall_1.f a = some (!decide (-1000 ≤ a ∧ a ≤ 1000)) := by
  unfold impl_isSmall_1.f
  rw [in_eq]
  rfl
theorem index_l0 (l : List Int) (hl : l.length ≤ 1000000) : ∀ (m i : Nat), i + m = l.length → ∃ j, Ev (fun k => slices_IndexFunc_lint_impl_isSmall_1.l0 k l (l.length : Int) i) j ∧ decide (j ≥ 0) = !allIn (-1000) 1000 (l.drop i) := by
  intro m
  induction m with
  | zero =>
    intro i hi
    refine ⟨-1, Ev.step (fun k => slices_IndexFunc_lint_impl_isSmall_1.l0.eq_2 l _ _ k) (ev_ite_neg (by omega) (Ev.now _)), ?_⟩
    rw [List.drop_eq_nil_of_le (by omega)]
    rfl
  | succ m ih =>
    intro i hi
    have hlt : i < l.length := by omega
    obtain ⟨j, hj, hj2⟩ := ih (i + 1) (by omega)
    rw [drop_at l i hlt]
    by_cases h : -1000 ≤ l[i] ∧ l[i] ≤ 1000
    · refine ⟨j, Ev.step (fun k => slices_IndexFunc_lint_impl_isSmall_1.l0.eq_2 l _ _ k) (ev_ite_pos (by omega) (ev_ite_pos (by omega) (ev_ite_pos (by omega) ?_))), ?_⟩
      · rw [isSmall1_eq, w64 (x := (i : Int) + 1) (by omega) (by omega), rd_at l i hlt]
        rw [show decide (-1000 ≤ l[i] ∧ l[i] ≤ 1000) = true by simpa using h]
        exact ev_some (ev_ite_neg (by simp) hj)
      · rw [hj2]; simp only [allIn, List.all_cons, show decide (-1000 ≤ l[i] ∧ l[i] ≤ 1000) = true by simpa using h, Bool.true_and]
    · refine ⟨i, Ev.step (fun k => slices_IndexFunc_lint_impl_isSmall_1.l0.eq_2 l _ _ k) (ev_ite_pos (by omega) (ev_ite_pos (by omega) (ev_ite_pos (by omega) ?_))), ?_⟩
      · rw [isSmall1_eq, rd_at l i hlt]
        rw [show decide (-1000 ≤ l[i] ∧ l[i] ≤ 1000) = false by simpa using h]
        exact ev_some (ev_ite_pos rfl (Ev.now _))
      · simp only [allIn, List.all_cons, show decide (-1000 ≤ l[i] ∧ l[i] ≤ 1000) = false by simpa using h]
        simp
theorem contains_ev (l : List Int) (hl : l.length ≤ 1000000) : Ev (fun k => slices_ContainsFunc_lint_impl_isSmall_1.f k l) (!allIn (-1000) 1000 l) := by
  obtain ⟨j, h1, h2⟩ := index_l0 l hl l.length 0 (by omega)
  unfold slices_ContainsFunc_lint_impl_isSmall_1.f slices_IndexFunc_lint_impl_isSmall_1.f
  refine ev_bind (by simpa using h1) ?_
  rw [h2, List.drop_zero]
  exact Ev.now _
def smV (l : List Int) : Bool := sV l && (decide (1 ≤ l.length ∧ l.length ≤ 6) && allIn (-1000) 1000 l)
theorem deGood_ev (l : List Int) (hl : l.length ≤ 1000000) : Ev (fun k => spec_deGood.f k l) (smV l) := by
  unfold spec_deGood.f smV
  refine ev_bind (sgGood_ev l hl) ?_
  by_cases h : sV l = true
  · refine ev_ite_pos h ?_
    rw [in1_eq, h, show decide ((1 : Int) ≤ (l.length : Int) ∧ (l.length : Int) ≤ 6) = decide (1 ≤ l.length ∧ l.length ≤ 6) by rw [decide_eq_decide]; omega]
    refine ev_some ?_
    by_cases h2 : 1 ≤ l.length ∧ l.length ≤ 6
    · rw [show decide (1 ≤ l.length ∧ l.length ≤ 6) = true by simpa using h2]
      refine ev_ite_pos rfl (ev_bind (l1All_ev l hl _ _) (evc fun k => by simp))
    · rw [show decide (1 ≤ l.length ∧ l.length ≤ 6) = false by simpa using h2]
      exact ev_ite_neg (by simp) (evc fun k => by simp)
  · refine ev_ite_neg h (evc fun k => ?_)
    simp [h]
theorem isSmall_ev (l : List Int) (hl : l.length ≤ 1000000) : Ev (fun k => impl_isSmall.f k l) (smV l) := by
  unfold impl_isSmall.f smV
  refine ev_bind (isSingle_ev l hl) ?_
  by_cases h : sV l = true
  · refine ev_ite_pos h ?_
    rw [in_eq, h, show decide ((1 : Int) ≤ (l.length : Int) ∧ (l.length : Int) ≤ 6) = decide (1 ≤ l.length ∧ l.length ≤ 6) by rw [decide_eq_decide]; omega]
    refine ev_some ?_
    by_cases h2 : 1 ≤ l.length ∧ l.length ≤ 6
    · rw [show decide (1 ≤ l.length ∧ l.length ≤ 6) = true by simpa using h2]
      refine ev_ite_pos rfl (ev_bind (contains_ev l hl) (evc fun k => by simp))
    · rw [show decide (1 ≤ l.length ∧ l.length ≤ 6) = false by simpa using h2]
      exact ev_ite_neg (by simp) (evc fun k => by simp)
  · refine ev_ite_neg h (evc fun k => ?_)
    simp [h]
def faV (p q : List Int) (d : Int) : Bool := smV p && (smV q && decide (0 ≤ d ∧ d ≤ 4))
theorem faAsked_ev (p q : List Int) (d : Int) (hp : p.length ≤ 1000000) (hq : q.length ≤ 1000000) : Ev (fun k => spec_faAsked.f k p q d) (faV p q d) := by
  unfold spec_faAsked.f faV
  refine ev_bind (deGood_ev p hp) ?_
  by_cases h : smV p = true
  · refine ev_ite_pos h (ev_bind (deGood_ev q hq) ?_)
    by_cases h2 : smV q = true
    · refine ev_ite_pos h2 ?_
      rw [in1_eq]
      exact evc fun k => by simp [h, h2]
    · exact ev_ite_neg h2 (evc fun k => by simp [h2])
  · exact ev_ite_neg h (evc fun k => by simp [h])
theorem isFamily_ev (p q : List Int) (d : Int) (hp : p.length ≤ 1000000) (hq : q.length ≤ 1000000) : Ev (fun k => impl_isFamily.f k p q d) (faV p q d) := by
  unfold impl_isFamily.f faV
  refine ev_bind (isSmall_ev p hp) ?_
  by_cases h : smV p = true
  · refine ev_ite_pos h (ev_bind (isSmall_ev q hq) ?_)
    by_cases h2 : smV q = true
    · refine ev_ite_pos h2 ?_
      rw [in_eq]
      exact evc fun k => by simp [h, h2]
    · exact ev_ite_neg h2 (evc fun k => by simp [h2])
  · exact ev_ite_neg h (evc fun k => by simp [h])
theorem faV_d {p q : List Int} {d : Int} (h : faV p q d = true) : (1 ≤ p.length ∧ p.length ≤ 6) ∧ (1 ≤ q.length ∧ q.length ≤ 6) ∧ (∀ x ∈ p, -1000 ≤ x ∧ x ≤ 1000) ∧ (∀ x ∈ q, -1000 ≤ x ∧ x ≤ 1000) ∧ 0 ≤ d ∧ d ≤ 4 := by
  unfold faV smV at h
  simp only [Bool.and_eq_true, decide_eq_true_eq, allIn, List.all_eq_true] at h
  obtain ⟨⟨_, h1, h2⟩, ⟨_, h3, h4⟩, h5⟩ := h
  exact ⟨h1, h3, h2, h4, h5⟩
theorem power {d : Int} (h : 0 ≤ d ∧ d ≤ 4) : ∃ t : Int, 1 ≤ t ∧ t ≤ 16 ∧ shl .i64 1 d = t ∧ spec_dyPower.f d = some t := by
  have : d = 0 ∨ d = 1 ∨ d = 2 ∨ d = 3 ∨ d = 4 := by omega
  rcases this with rfl | rfl | rfl | rfl | rfl
  · exact ⟨1, by decide, by decide, by decide, by decide⟩
  · exact ⟨2, by decide, by decide, by decide, by decide⟩
  · exact ⟨4, by decide, by decide, by decide, by decide⟩
  · exact ⟨8, by decide, by decide, by decide, by decide⟩
  · exact ⟨16, by decide, by decide, by decide, by decide⟩
def small (l : List Int) : Prop := l.length ≤ 6 ∧ ∀ x ∈ l, -1000 ≤ x ∧ x ≤ 1000
theorem small_get {l : List Int} (h : small l) (i : Nat) : -1000 ≤ l.getD i 0 ∧ l.getD i 0 ≤ 1000 := by
  by_cases hi : i < l.length
  · rw [getD_lt l i hi]; exact h.2 _ (List.getElem_mem hi)
  · rw [getD_ge l i (by omega)]; omega
theorem mul_small {x t : Int} (hx : -1000 ≤ x ∧ x ≤ 1000) (ht : 0 ≤ t ∧ t ≤ 16) : -16000 ≤ x * t ∧ x * t ≤ 16000 := by
  have : t = 0 ∨ t = 1 ∨ t = 2 ∨ t = 3 ∨ t = 4 ∨ t = 5 ∨ t = 6 ∨ t = 7 ∨ t = 8 ∨ t = 9 ∨ t = 10 ∨ t = 11 ∨ t = 12 ∨ t = 13 ∨ t = 14 ∨ t = 15 ∨ t = 16 := by omega
  rcases this with rfl | rfl | rfl | rfl | rfl | rfl | rfl | rfl | rfl | rfl | rfl | rfl | rfl | rfl | rfl | rfl | rfl <;> omega


end Go.Proofs.Ytnndolcjljhhcaa.Pure
