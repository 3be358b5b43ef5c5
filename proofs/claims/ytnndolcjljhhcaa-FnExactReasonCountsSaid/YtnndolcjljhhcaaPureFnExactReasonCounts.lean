/- For every list of nodes, every number of sides and every kind, ReasonCounts of the program returns what the reference's returns, leaves its argument as it was, and returns memory of its own. For all arguments whose list has at most 1000000 nodes; beyond that the law says nothing. -/
import Derived.Test.YtnndolcjljhhcaaQFnExactReasonCountsTreeB
namespace Go.Proofs.Ytnndolcjljhhcaa.Pure
open Go.RowKit Go.Proofs.YtnndolcjljhhcaaX Go.Proofs.Ytnndolcjljhhcaa.PFnExactReasonCounts Go.Proofs.YtnndolcjljhhcaaW.PrintWords Go.Proofs.YtnndolcjljhhcaaW.PrintLast Go.Proofs.YtnndolcjljhhcaaW.PrintMore
/-- How often a reason is told for a kind. -/
def rc (l : List Nd) (a q : Int) : Nat := (l.filter fun n => decide (n.f0 = a ∧ n.f1 = q)).length
def add1 (out : List (List Int)) (q c : Int) : List (List Int) := if c > 0 then out ++ [[q, c]] else out
/-- The rows from a reason on. -/
def rcs (l : List Nd) (a : Int) : Nat → Nat → List (List Int) → List (List Int)
  | 0, _, out => out
  | m + 1, q, out => rcs l a m (q + 1) (add1 out q (rc l a q))
theorem rcs_len (l : List Nd) (a : Int) : ∀ (m q : Nat) (out : List (List Int)), (rcs l a m q out).length ≤ out.length + m ∧ (rcs l a m q out).flatten.length ≤ out.flatten.length + 2 * m
  | 0, q, out => by simp [rcs]
  | m + 1, q, out => by
    obtain ⟨h1, h2⟩ := rcs_len l a m (q + 1) (add1 out q (rc l a q))
    simp only [rcs]
    have e1 : (add1 out q (rc l a q)).length ≤ out.length + 1 := by unfold add1; split <;> simp
    have e2 : (add1 out q (rc l a q)).flatten.length ≤ out.flatten.length + 2 := by
      unfold add1
      split
      · rw [List.flatten_append, List.length_append]; exact Nat.le_refl _
      · omega
    omega
theorem rc_drop (l : List Nd) (a q : Int) (i : Nat) (h : i < l.length) : rc (l.drop i) a q = (if l[i].f0 = a ∧ l[i].f1 = q then 1 else 0) + rc (l.drop (i + 1)) a q := by
  unfold rc
  rw [drop_at l i h, List.filter_cons]
  by_cases hc : l[i].f0 = a ∧ l[i].f1 = q
  · rw [if_pos (by simpa using hc), if_pos hc, List.length_cons]; omega
  · rw [if_neg (by simpa using hc), if_neg hc]; omega
theorem rc_nil (a q : Int) : rc [] a q = 0 := rfl
theorem spec_l1 (l : List Nd) (hl : l.length ≤ 1000000) (a : Int) (out : List (List Int)) (ho : out.length ≤ 1000) (q : Nat) (hq : q < 100) (r : List (List Int) × Bool) : ∀ (m i c : Nat), i + m = l.length → c + m ≤ 1000000 → Ev (fun k => spec_ReasonCounts.l0 k l a (add1 out q ((c + rc (l.drop i) a q : Nat) : Int)) ((q + 1 : Nat) : Int)) r → Ev (fun k => spec_ReasonCounts.l1 k l a out q c l (l.length : Int) i) r := by
  intro m
  induction m with
  | zero =>
    intro i c hi hc hr
    rw [List.drop_eq_nil_of_le (by omega), rc_nil, Nat.add_zero] at hr
    have eq1 : wrap64 ((q : Int) + 1) = ((q + 1 : Nat) : Int) := by rw [w64 (by omega) (by omega)]; omega
    refine Ev.step (fun k => spec_ReasonCounts.l1.eq_2 l a out q c l _ _ k) (ev_ite_neg (by omega) ?_)
    rw [eq1]
    unfold add1 at hr
    by_cases h : (c : Int) > 0
    · rw [if_pos h] at hr
      exact ev_ite_pos h (ev_ite_pos (by omega) hr)
    · rw [if_neg h] at hr
      exact ev_ite_neg h hr
  | succ m ih =>
    intro i c hi hc hr
    have hlt : i < l.length := by omega
    rw [rc_drop l a q i hlt] at hr
    have e1 : wrap64 ((i : Int) + 1) = ((i + 1 : Nat) : Int) := by rw [w64 (by omega) (by omega)]; omega
    have e2 : wrap64 ((c : Int) + 1) = ((c + 1 : Nat) : Int) := by rw [w64 (by omega) (by omega)]; omega
    refine Ev.step (fun k => spec_ReasonCounts.l1.eq_2 l a out q c l _ _ k) (ev_ite_pos (by omega) (ev_ite_pos (by omega) (ev_ite_pos (by omega) ?_)))
    rw [rdN l i hlt, e1, e2]
    by_cases h0 : l[i].f0 = a
    · refine ev_ite_pos h0 ?_
      by_cases h1 : l[i].f1 = (q : Int)
      · refine ev_ite_pos h1 (ih (i + 1) (c + 1) (by omega) (by omega) ?_)
        rw [if_pos ⟨h0, h1⟩] at hr
        rw [show c + 1 + rc (l.drop (i + 1)) a q = c + (1 + rc (l.drop (i + 1)) a q) by omega]
        exact hr
      · refine ev_ite_neg h1 (ih (i + 1) c (by omega) (by omega) ?_)
        rw [if_neg (fun h => h1 h.2), Nat.zero_add] at hr
        exact hr
    · refine ev_ite_neg h0 (ih (i + 1) c (by omega) (by omega) ?_)
      rw [if_neg (fun h => h0 h.1), Nat.zero_add] at hr
      exact hr
theorem impl_l1 (l : List Nd) (hl : l.length ≤ 1000000) (a : Int) (out : List (List Int)) (ho : out.length ≤ 1000) (q : Nat) (hq : q < 100) (r : List (List Int) × Bool) : ∀ (m i c : Nat), i + m = l.length → c + m ≤ 1000000 → Ev (fun k => impl_ReasonCounts.l0 k l a (add1 out q ((c + rc (l.drop i) a q : Nat) : Int)) ((q + 1 : Nat) : Int)) r → Ev (fun k => impl_ReasonCounts.l1 k l a out q c q l (l.length : Int) i) r := by
  intro m
  induction m with
  | zero =>
    intro i c hi hc hr
    rw [List.drop_eq_nil_of_le (by omega), rc_nil, Nat.add_zero] at hr
    have eq1 : wrap64 ((q : Int) + 1) = ((q + 1 : Nat) : Int) := by rw [w64 (by omega) (by omega)]; omega
    refine Ev.step (fun k => impl_ReasonCounts.l1.eq_2 l a out q c q l _ _ k) (ev_ite_neg (by omega) ?_)
    rw [eq1]
    unfold add1 at hr
    by_cases h : (c : Int) > 0
    · rw [if_pos h] at hr
      exact ev_ite_pos h (ev_ite_pos (by omega) hr)
    · rw [if_neg h] at hr
      exact ev_ite_neg h hr
  | succ m ih =>
    intro i c hi hc hr
    have hlt : i < l.length := by omega
    rw [rc_drop l a q i hlt] at hr
    have e1 : wrap64 ((i : Int) + 1) = ((i + 1 : Nat) : Int) := by rw [w64 (by omega) (by omega)]; omega
    have e2 : wrap64 ((c : Int) + 1) = ((c + 1 : Nat) : Int) := by rw [w64 (by omega) (by omega)]; omega
    refine Ev.step (fun k => impl_ReasonCounts.l1.eq_2 l a out q c q l _ _ k) (ev_ite_pos (by omega) (ev_ite_pos (by omega) (ev_ite_pos (by omega) ?_)))
    rw [rdN l i hlt, e1, e2]
    by_cases h0 : l[i].f0 = a ∧ l[i].f1 = (q : Int)
    · refine ev_ite_pos (by simpa using h0) (ih (i + 1) (c + 1) (by omega) (by omega) ?_)
      rw [if_pos h0] at hr
      rw [show c + 1 + rc (l.drop (i + 1)) a q = c + (1 + rc (l.drop (i + 1)) a q) by omega]
      exact hr
    · refine ev_ite_neg (by simpa using h0) (ih (i + 1) c (by omega) (by omega) ?_)
      rw [if_neg h0, Nat.zero_add] at hr
      exact hr
theorem spec_l0 (l : List Nd) (hl : l.length ≤ 1000000) (a : Int) : ∀ (m q : Nat) (out : List (List Int)), q + m = 100 → out.length + m ≤ 1000 → Ev (fun k => spec_ReasonCounts.l0 k l a out q) (rcs l a m q out, true) := by
  intro m
  induction m with
  | zero =>
    intro q out hq ho
    exact Ev.step (fun k => spec_ReasonCounts.l0.eq_2 l a out _ k) (ev_ite_neg (by omega) (Ev.now _))
  | succ m ih =>
    intro q out hq ho
    refine Ev.step (fun k => spec_ReasonCounts.l0.eq_2 l a out _ k) (ev_ite_pos (by omega) ?_)
    have h1 : (add1 out q (rc l a q)).length ≤ out.length + 1 := by unfold add1; split <;> simp
    have h2 := ih (q + 1) (add1 out q (rc l a q)) (by omega) (by omega)
    refine spec_l1 l hl a out (by omega) q (by omega) _ l.length 0 0 (by omega) (by omega) ?_
    rw [List.drop_zero, Nat.zero_add]
    exact h2
theorem impl_l0 (l : List Nd) (hl : l.length ≤ 1000000) (a : Int) : ∀ (m q : Nat) (out : List (List Int)), q + m = 100 → out.length + m ≤ 1000 → Ev (fun k => impl_ReasonCounts.l0 k l a out q) (rcs l a m q out, true) := by
  intro m
  induction m with
  | zero =>
    intro q out hq ho
    exact Ev.step (fun k => impl_ReasonCounts.l0.eq_2 l a out _ k) (ev_ite_neg (by omega) (Ev.now _))
  | succ m ih =>
    intro q out hq ho
    refine Ev.step (fun k => impl_ReasonCounts.l0.eq_2 l a out _ k) (ev_ite_pos (by omega) ?_)
    have h1 : (add1 out q (rc l a q)).length ≤ out.length + 1 := by unfold add1; split <;> simp
    have h2 := ih (q + 1) (add1 out q (rc l a q)) (by omega) (by omega)
    refine impl_l1 l hl a out (by omega) q (by omega) _ l.length 0 0 (by omega) (by omega) ?_
    rw [List.drop_zero, Nat.zero_add]
    exact h2
theorem FnExactReasonCounts : laws_FnExactReasonCounts.Pure := by
  intro l s a _ _ _ hl
  have fin : ∀ r : List (List Int) × Bool, Ev (fun k => spec_ReasonCounts.f k l s a) r → Ev (fun k => impl_ReasonCounts.f k l s a) r → (r.1.length ≤ 1099511627776 ∧ r.1.flatten.length ≤ 1099511627776) → ∃ (r1 : List (List Int)) (r2 : Bool), (∃ k, spec_ReasonCounts.f k l s a = some (r1, r2)) ∧ (∃ k, impl_ReasonCounts.f k l s a = some (r1, r2)) ∧ (r1.length ≤ 1099511627776 ∧ r1.flatten.length ≤ 1099511627776) := by
    intro r h1 h2 h3
    obtain ⟨k1, h4⟩ := h1.rounds
    obtain ⟨k2, h5⟩ := h2.rounds
    exact ⟨r.1, r.2, ⟨k1, h4⟩, ⟨k2, h5⟩, h3⟩
  have sT : Ev (fun k => spec_ReasonCounts.j0 k l a true) ([], false) := Ev.step (fun k => spec_ReasonCounts.j0.eq_2 l a true k) (ev_ite_pos rfl (Ev.now _))
  have iT : Ev (fun k => impl_ReasonCounts.j0 k l a true) ([], false) := Ev.step (fun k => impl_ReasonCounts.j0.eq_2 l a true k) (ev_ite_pos rfl (Ev.now _))
  have sF : Ev (fun k => spec_ReasonCounts.j0 k l a false) (rcs l a 100 0 [], true) := Ev.step (fun k => spec_ReasonCounts.j0.eq_2 l a false k) (ev_ite_neg (by simp) (spec_l0 l hl a 100 0 [] (by omega) (by simp)))
  have iF : Ev (fun k => impl_ReasonCounts.j0 k l a false) (rcs l a 100 0 [], true) := Ev.step (fun k => impl_ReasonCounts.j0.eq_2 l a false k) (ev_ite_neg (by simp) (impl_l0 l hl a 100 0 [] (by omega) (by simp)))
  have hlen := rcs_len l a 100 0 []
  by_cases hT : isT s l = true
  · by_cases h12 : a = 1 ∨ a = 2
    · refine fin (rcs l a 100 0 [], true) ?_ ?_ ⟨show (rcs l a 100 0 []).length ≤ 1099511627776 by have := hlen.1; simp only [List.length_nil] at this; omega, show (rcs l a 100 0 []).flatten.length ≤ 1099511627776 by have := hlen.2; simp only [List.flatten_nil, List.length_nil] at this; omega⟩
      · unfold spec_ReasonCounts.f
        refine ev_bind (trGood_ev l hl s) (ev_ite_pos hT ?_)
        rw [l1In_eq, show decide ((1 : Int) ≤ a ∧ a ≤ 2) = true by simp; omega]
        exact ev_some sF
      · unfold impl_ReasonCounts.f
        refine ev_bind (isTree_ev l hl s) (ev_ite_pos hT ?_)
        by_cases h1 : a = 1
        · exact ev_ite_pos h1 iF
        · refine ev_ite_neg h1 ?_
          rw [show (a != 2) = false by simp; omega]
          exact iF
    · refine fin ([], false) ?_ ?_ (by simp)
      · unfold spec_ReasonCounts.f
        refine ev_bind (trGood_ev l hl s) (ev_ite_pos hT ?_)
        rw [l1In_eq, show decide ((1 : Int) ≤ a ∧ a ≤ 2) = false by simp; omega]
        exact ev_some sT
      · unfold impl_ReasonCounts.f
        refine ev_bind (isTree_ev l hl s) (ev_ite_pos hT (ev_ite_neg (by omega) ?_))
        rw [show (a != 2) = true by simp; omega]
        exact iT
  · refine fin ([], false) ?_ ?_ (by simp)
    · unfold spec_ReasonCounts.f
      exact ev_bind (trGood_ev l hl s) (ev_ite_neg hT sT)
    · unfold impl_ReasonCounts.f
      exact ev_bind (isTree_ev l hl s) (ev_ite_neg hT iT)

end Go.Proofs.Ytnndolcjljhhcaa.Pure
