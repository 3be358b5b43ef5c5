/- CountLeaves. -/
import Derived.Test.YtnndolcjljhhcaaQFnExactCountLeavesTreeC
namespace Go.Proofs.Ytnndolcjljhhcaa.Pure
open Go.RowKit Go.Proofs.YtnndolcjljhhcaaX Go.Proofs.Ytnndolcjljhhcaa.PFnExactCountLeaves Go.Proofs.YtnndolcjljhhcaaW.PrintWords Go.Proofs.YtnndolcjljhhcaaW.PrintLast Go.Proofs.YtnndolcjljhhcaaW.PrintMore
theorem trKind_ev (l : List Nd) (hl : l.length ≤ 1000000) (q : Int) : Ev (fun k => spec_trKind.f k l q) (cK q l) := by
  have key : ∀ (m i c : Nat), i + m = l.length → c ≤ i → Ev (fun k => spec_trKind.l0 k q c l (l.length : Int) i) ((c + cK q (l.drop i) : Nat) : Int) := by
    intro m
    induction m with
    | zero =>
      intro i c hi hc
      rw [List.drop_eq_nil_of_le (by omega)]
      exact Ev.step (fun k => spec_trKind.l0.eq_2 q c l _ i k) (ev_ite_neg (by omega) (Ev.now _))
    | succ m ih =>
      intro i c hi hc
      have hlt : i < l.length := by omega
      have e4 : wrap64 ((i : Int) + 1) = ((i + 1 : Nat) : Int) := by rw [w64 (by omega) (by omega)]; omega
      have e5 : wrap64 ((c : Int) + 1) = ((c + 1 : Nat) : Int) := by rw [w64 (by omega) (by omega)]; omega
      refine Ev.step (fun k => spec_trKind.l0.eq_2 q c l _ i k) (ev_ite_pos (by omega) (ev_ite_pos (by omega) (ev_ite_pos (by omega) ?_)))
      rw [rdN l i hlt, e4, e5, drop_at l i hlt]
      by_cases h : l[i].f0 = q
      · refine ev_ite_pos h ?_
        have := ih (i + 1) (c + 1) (by omega) (by omega)
        have e : cK q (l[i] :: l.drop (i + 1)) = cK q (l.drop (i + 1)) + 1 := by unfold cK; rw [List.countP_cons_of_pos (by simpa using h)]
        rw [e]
        rw [show c + (cK q (l.drop (i + 1)) + 1) = c + 1 + cK q (l.drop (i + 1)) by omega]
        exact this
      · refine ev_ite_neg h ?_
        have := ih (i + 1) c (by omega) (by omega)
        have e : cK q (l[i] :: l.drop (i + 1)) = cK q (l.drop (i + 1)) := by unfold cK; rw [List.countP_cons_of_neg (by simpa using h)]
        rw [e]
        exact this
  unfold spec_trKind.f
  have := key l.length 0 0 (by omega) (by omega)
  simpa using this
theorem CountLeaves_spec (l : List Nd) (hl : l.length ≤ 1000000) (s : Int) : Ev (fun k => spec_CountLeaves.f k l s) (if isT s l then (([(cK 1 l : Int), (cK 2 l : Int), (cK 3 l : Int)] : List Int), true) else ([], false)) := by
  unfold spec_CountLeaves.f
  refine ev_bind (trGood_ev l hl s) ?_
  by_cases h : isT s l = true
  · rw [if_pos h]
    refine ev_ite_pos h ?_
    exact ev_bind (trKind_ev l hl 1) (ev_bind (trKind_ev l hl 2) (ev_bind (trKind_ev l hl 3) (Ev.now _)))
  · rw [if_neg h]
    exact ev_ite_neg h (Ev.now _)
theorem CountLeaves_loop (l : List Nd) (hl : l.length ≤ 1000000) (hk : ∀ n ∈ l, n.f0 = 0 ∨ n.f0 = 1 ∨ n.f0 = 2 ∨ n.f0 = 3) : ∀ (m i a b c : Nat), i + m = l.length → a ≤ i → b ≤ i → c ≤ i →
    Ev (fun k => impl_CountLeaves.l0 k [(a : Int), (b : Int), (c : Int)] l (l.length : Int) i) ([((a + cK 1 (l.drop i) : Nat) : Int), ((b + cK 2 (l.drop i) : Nat) : Int), ((c + cK 3 (l.drop i) : Nat) : Int)], true) := by
  intro m
  induction m with
  | zero =>
    intro i a b c hi ha hb hc
    rw [List.drop_eq_nil_of_le (by omega)]
    exact Ev.step (fun k => impl_CountLeaves.l0.eq_2 _ l _ i k) (ev_ite_neg (by omega) (Ev.now _))
  | succ m ih =>
    intro i a b c hi ha hb hc
    have hlt : i < l.length := by omega
    have e4 : wrap64 ((i : Int) + 1) = ((i + 1 : Nat) : Int) := by rw [w64 (by omega) (by omega)]; omega
    have wa : wrap64 ((a : Int) + 1) = ((a + 1 : Nat) : Int) := by rw [w64 (by omega) (by omega)]; omega
    have wb : wrap64 ((b : Int) + 1) = ((b + 1 : Nat) : Int) := by rw [w64 (by omega) (by omega)]; omega
    have wc : wrap64 ((c : Int) + 1) = ((c + 1 : Nat) : Int) := by rw [w64 (by omega) (by omega)]; omega
    refine Ev.step (fun k => impl_CountLeaves.l0.eq_2 _ l _ i k) (ev_ite_pos (by omega) (ev_ite_pos (by omega) (ev_ite_pos (by omega) ?_)))
    rw [rdN l i hlt, e4, drop_at l i hlt]
    have hc' : ∀ q, cK q (l[i] :: l.drop (i + 1)) = (if l[i].f0 = q then 1 else 0) + cK q (l.drop (i + 1)) := by
      intro q
      unfold cK
      rw [List.countP_cons]
      simp only [decide_eq_true_eq]
      omega
    rw [hc', hc', hc']
    rcases hk l[i] (List.getElem_mem hlt) with h | h | h | h
    · refine ev_ite_pos h ?_
      rw [h]
      have := ih (i + 1) a b c (by omega) (by omega) (by omega) (by omega)
      simpa using this
    · refine ev_ite_neg (by omega) ?_
      rw [h, show wrap64 (1 - 1) = 0 by unfold wrap64; omega]
      refine ev_ite_pos (by omega) (ev_ite_pos (by simp) ?_)
      have := ih (i + 1) (a + 1) b c (by omega) (by omega) (by omega) (by omega)
      rw [show a + 1 + cK 1 (l.drop (i + 1)) = a + (1 + cK 1 (l.drop (i + 1))) by omega] at this
      simpa [rd, wa] using this
    · refine ev_ite_neg (by omega) ?_
      rw [h, show wrap64 (2 - 1) = 1 by unfold wrap64; omega]
      refine ev_ite_pos (by omega) (ev_ite_pos (by simp) ?_)
      have := ih (i + 1) a (b + 1) c (by omega) (by omega) (by omega) (by omega)
      rw [show b + 1 + cK 2 (l.drop (i + 1)) = b + (1 + cK 2 (l.drop (i + 1))) by omega] at this
      simpa [rd, wb] using this
    · refine ev_ite_neg (by omega) ?_
      rw [h, show wrap64 (3 - 1) = 2 by unfold wrap64; omega]
      refine ev_ite_pos (by omega) (ev_ite_pos (by simp) ?_)
      have := ih (i + 1) a b (c + 1) (by omega) (by omega) (by omega) (by omega)
      rw [show c + 1 + cK 3 (l.drop (i + 1)) = c + (1 + cK 3 (l.drop (i + 1))) by omega] at this
      simpa [rd, wc] using this
theorem CountLeaves_impl (l : List Nd) (hl : l.length ≤ 1000000) (s : Int) : Ev (fun k => impl_CountLeaves.f k l s) (if isT s l then (([(cK 1 l : Int), (cK 2 l : Int), (cK 3 l : Int)] : List Int), true) else ([], false)) := by
  unfold impl_CountLeaves.f
  refine ev_bind (isTree_ev l hl s) ?_
  by_cases h : isT s l = true
  · rw [if_pos h]
    refine ev_ite_pos h (ev_ite_pos (by omega) ?_)
    have := CountLeaves_loop l hl (isT_kinds h) l.length 0 0 0 0 (by omega) (by omega) (by omega) (by omega)
    simpa using this
  · rw [if_neg h]
    exact ev_ite_neg h (Ev.now _)

end Go.Proofs.Ytnndolcjljhhcaa.Pure
