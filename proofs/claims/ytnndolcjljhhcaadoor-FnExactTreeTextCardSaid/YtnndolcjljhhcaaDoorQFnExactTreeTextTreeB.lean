/- The reference's test of trees comes to the same. -/
import Derived.Test.YtnndolcjljhhcaaDoorQFnExactTreeTextTreeA
namespace Go.Proofs.YtnndolcjljhhcaaDoor.Pure
open Go.RowKit Go.Proofs.YtnndolcjljhhcaaDoorX Go.Proofs.YtnndolcjljhhcaaDoor.PFnExactTreeText Go.Proofs.YtnndolcjljhhcaaDoorW.PrintWords Go.Proofs.YtnndolcjljhhcaaDoorW.PrintLast Go.Proofs.YtnndolcjljhhcaaDoorW.PrintMore
theorem run_rest (s : Int) {l : List Nd} {p : Nat} {st : List Nat} {r : List Nd} (h : run s (l.drop p) st = some r) : r = l.drop (l.length - r.length) ∧ r.length + st.length ≤ l.length - p := by
  obtain ⟨q, hq, hl⟩ := run_suffix s _ _ _ h
  have h1 : (l.drop p).length = q.length + r.length := by rw [hq]; simp
  rw [List.length_drop] at h1
  refine ⟨?_, by omega⟩
  have h2 : l.drop (p + q.length) = r := by rw [← List.drop_drop, hq]; simp
  by_cases hp : p ≤ l.length
  · rw [show l.length - r.length = p + q.length by omega, h2]
  · have : r = [] := by
      have : r.length = 0 := by omega
      exact List.eq_nil_of_length_eq_zero this
    subst this
    simp
theorem l1In_eq (a b c : Int) : spec_l1In.f a b c = some (decide (b ≤ a ∧ a ≤ c)) := by
  unfold spec_l1In.f
  by_cases h : a ≥ b
  · rw [if_pos h]
    congr 1
    simp
    omega
  · rw [if_neg h]
    congr 1
    simp
    omega
theorem trEnd_j1 (p : Nat) (hp : p ≤ 1000000) (a b : Int) (ha : a ≠ 0) (c : Bool) (hc : c = decide (a = 1 ∨ a = 2)) (s : Int) : Ev (fun k => spec_trEnd.j1 k p a c a b) (if vN s ⟨a, b⟩ then (p : Int) + 1 else -1) := by
  refine Ev.step (fun k => spec_trEnd.j1.eq_2 p a c a b k) ?_
  have e4 : wrap64 ((p : Int) + 1) = (p : Int) + 1 := w64 (by omega) (by omega)
  rw [e4, l1In_eq]
  simp only [vN, if_neg ha, Option.bind_some]
  subst hc
  by_cases h1 : a = 1 ∨ a = 2
  · refine ev_ite_pos (by simpa using h1) ?_
    rw [if_pos h1]
    by_cases h2 : 0 ≤ b ∧ b ≤ 99
    · simp only [h2, and_self, decide_true, if_true]
      exact Ev.now _
    · simp only [h2, decide_false, Bool.false_eq_true, if_false]
      exact Ev.now _
  · refine ev_ite_neg (by simpa using h1) ?_
    rw [if_neg h1]
    refine evc fun k => ?_
    by_cases h3 : a = 3
    · simp only [h3, if_true]
      by_cases h4 : b = 0
      · simp [h4]
      · simp [h4]
    · simp [h3]
theorem trEnd_ev (l : List Nd) (hl : l.length ≤ 1000000) (s : Int) (hs : 1 ≤ s ∧ s ≤ 3) : ∀ (m p d : Nat), p + m = l.length → d ≤ 21 → Ev (fun k => spec_trEnd.f k l s p d) (teV l (run s (l.drop p) [d])) := by
  intro m
  induction m using Nat.strongRecOn with
  | _ m ih =>
  intro p d hp hd
  refine Ev.step (fun k => spec_trEnd.f.eq_2 l s p d k) ?_
  have none_ : Ev (fun k => spec_trEnd.j0 k l s p d true) (-1) := Ev.step (fun k => spec_trEnd.j0.eq_2 l s p d true k) (ev_ite_pos rfl (Ev.now _))
  by_cases hm : m = 0
  · refine ev_ite_pos (by omega) ?_
    rw [List.drop_eq_nil_of_le (by omega)]
    exact none_
  · refine ev_ite_neg (by omega) ?_
    have hlt : p < l.length := by omega
    rw [drop_at l p hlt]
    simp only [run]
    by_cases hd2 : 20 < d
    · rw [show decide ((d : Int) > 20) = true by simp; omega, if_pos hd2]
      exact none_
    · rw [show decide ((d : Int) > 20) = false by simp; omega, if_neg hd2]
      refine Ev.step (fun k => spec_trEnd.j0.eq_2 l s p d false k) (ev_ite_neg (by simp) (ev_ite_pos (by omega) (ev_ite_pos (by omega) ?_)))
      rw [rdN l p hlt, w64 (x := (p : Int) + 1) (by omega) (by omega), w64 (x := (d : Int) + 1) (by omega) (by omega), w64 (x := s - 1) (by omega) (by omega), l1In_eq]
      by_cases h0 : l[p].f0 = 0
      · refine ev_ite_pos h0 ?_
        simp only [Option.bind_some]
        have ev0 : vN s l[p] = decide (0 ≤ l[p].f1 ∧ l[p].f1 ≤ s - 1) := by unfold vN; rw [if_pos h0]
        rw [ev0]
        by_cases h1 : 0 ≤ l[p].f1 ∧ l[p].f1 ≤ s - 1
        · rw [show decide (0 ≤ l[p].f1 ∧ l[p].f1 ≤ s - 1) = true by simpa using h1]
          refine ev_ite_pos rfl ?_
          rw [if_pos rfl, if_pos h0]
          have hmid := ih (m - 1) (by omega) (p + 1) (d + 1) (by omega) (by omega)
          rw [run_cons]
          refine ev_bind (by simpa using hmid) ?_
          cases hr : run s (l.drop (p + 1)) [d + 1] with
          | none => exact ev_ite_pos (by simp [teV]) (evc fun k => by simp [teV])
          | some r =>
            obtain ⟨e1, e2⟩ := run_rest s hr
            simp only [teV, Option.bind_some]
            have e3 : (l.length : Int) - (r.length : Int) = ((l.length - r.length : Nat) : Int) := by simp at e2; omega
            refine ev_ite_neg (by simp at e2; omega) ?_
            rw [e3]
            have hup := ih r.length (by simp at e2; omega) (l.length - r.length) (d + 1) (by simp at e2; omega) (by omega)
            rw [← e1] at hup
            exact ev_bind (by simpa [teV] using hup) (Ev.now _)
        · rw [show decide (0 ≤ l[p].f1 ∧ l[p].f1 ≤ s - 1) = false by simpa using h1]
          refine ev_ite_neg (by simp) (evc fun k => ?_)
          simp [teV]
      · refine ev_ite_neg h0 ?_
        have hone : ∀ c : Bool, c = decide (l[p].f0 = 1 ∨ l[p].f0 = 2) → Ev (fun k => spec_trEnd.j1 k p l[p].f0 c l[p].f0 l[p].f1) (teV l (if vN s l[p] then (if l[p].f0 = 0 then run s (l.drop (p + 1)) [d + 1, d + 1] else some (l.drop (p + 1))) else none)) := by
          intro c hc
          have := trEnd_j1 p (by omega) l[p].f0 l[p].f1 h0 c hc s
          have e : vN s ⟨l[p].f0, l[p].f1⟩ = vN s l[p] := rfl
          rw [e] at this
          rw [if_neg h0]
          by_cases hv : vN s l[p] = true
          · rw [if_pos hv] at this ⊢
            have e3 : teV l (some (l.drop (p + 1))) = (p : Int) + 1 := by simp only [teV, List.length_drop]; omega
            rw [e3]
            exact this
          · rw [if_neg hv] at this ⊢
            exact this
        by_cases h1 : l[p].f0 = 1
        · exact ev_ite_pos h1 (hone (l[p].f0 == 1) (by simp [h1]))
        · exact ev_ite_neg h1 (hone (l[p].f0 == 2) (by simp [h1]; rfl))
theorem trGood_ev (l : List Nd) (hl : l.length ≤ 1000000) (s : Int) : Ev (fun k => spec_trGood.f k l s) (isT s l) := by
  unfold spec_trGood.f isT
  rw [l1In_eq, l1In_eq]
  simp only [Option.bind_some]
  by_cases h1 : 1 ≤ s ∧ s ≤ 3
  · rw [show decide (1 ≤ s ∧ s ≤ 3) = true by simpa using h1]
    refine ev_ite_pos rfl ?_
    by_cases h2 : l.length ≤ 200
    · by_cases h3 : l = []
      · subst h3
        refine ev_ite_neg (by simp) (evc fun k => ?_)
        simp [run, whole]
      · have hpos : 0 < l.length := List.length_pos_iff.2 h3
        refine ev_ite_pos (by simp; omega) ?_
        refine ev_bind (by simpa using trEnd_ev l hl s h1 l.length 0 0 (by omega) (by omega)) (evc fun k => ?_)
        congr 1
        rw [show decide (l.length ≤ 200) = true by simpa using h2]
        simp only [Bool.true_and]
        cases hr : run s l [0] with
        | none => simp [teV, whole]; try omega
        | some r =>
          cases r with
          | nil => simp [teV, whole]
          | cons n r => simp [teV, whole]; omega
    · refine ev_ite_neg (by simp; omega) (evc fun k => ?_)
      simp [h2]
  · rw [show decide (1 ≤ s ∧ s ≤ 3) = false by simpa using h1]
    refine ev_ite_neg (by simp) (evc fun k => ?_)
    simp
theorem isT_facts {s : Int} {l : List Nd} (h : isT s l = true) : (1 ≤ s ∧ s ≤ 3) ∧ l.length ≤ 200 ∧ run s l [0] = some [] := by
  unfold isT at h
  simp only [Bool.and_eq_true, decide_eq_true_eq, whole_iff] at h
  exact h

end Go.Proofs.YtnndolcjljhhcaaDoor.Pure
