/- Trees made shorter: from the back on, equal leaves of one halving become one. -/
import Derived.Test.YtnndolcjljhhcaaQFnExactShortenTreeTreeE
namespace Go.Proofs.Ytnndolcjljhhcaa.Pure
open Go.RowKit Go.Proofs.YtnndolcjljhhcaaX Go.Proofs.Ytnndolcjljhhcaa.PFnExactShortenTree Go.Proofs.YtnndolcjljhhcaaW.PrintWords Go.Proofs.YtnndolcjljhhcaaW.PrintLast Go.Proofs.YtnndolcjljhhcaaW.PrintMore
def tw : Nd → List Nd → Bool
  | n, a :: b :: _ => decide (n.f0 = 0 ∧ (a.f0 = b.f0 ∧ a.f1 = b.f1) ∧ (a.f0 = 1 ∨ a.f0 = 3))
  | _, _ => false
def stp (n : Nd) (r : List Nd) : List Nd := if tw n r = true then r.take 1 ++ r.drop 2 else n :: r
def bk : List Nd → List Nd
  | [] => []
  | n :: l => stp n (bk l)
theorem bk_length : ∀ l : List Nd, (bk l).length ≤ l.length
  | [] => by simp [bk]
  | n :: l => by
    have := bk_length l
    simp only [bk, stp]
    split
    · simp; omega
    · simp; omega
theorem trTwin_eq (A : List Nd) (n : Nd) (r : List Nd) (h : A.length + r.length ≤ 2000000) : spec_trTwin.f (A ++ n :: r) (A.length : Int) = some (tw n r) := by
  unfold spec_trTwin.f
  rw [w64 (x := (A.length : Int) + 2) (by omega) (by omega), w64 (x := (A.length : Int) + 1) (by omega) (by omega)]
  match r, h with
  | [], h => rw [if_neg (by simp)]; rfl
  | [a], h => rw [if_neg (by simp)]; rfl
  | a :: b :: r, h =>
    have e0 : rd_T94 (A ++ n :: a :: b :: r) (A.length : Int) = n := by rw [rdN _ _ (by simp)]; simp
    have e1 : rd_T94 (A ++ n :: a :: b :: r) ((A.length : Int) + 1) = a := by
      have := rdN (A ++ n :: a :: b :: r) (A.length + 1) (by simp)
      rw [show ((A.length : Int) + 1) = ((A.length + 1 : Nat) : Int) by omega, this]; simp
    have e2 : rd_T94 (A ++ n :: a :: b :: r) ((A.length : Int) + 2) = b := by
      have := rdN (A ++ n :: a :: b :: r) (A.length + 2) (by simp)
      rw [show ((A.length : Int) + 2) = ((A.length + 2 : Nat) : Int) by omega, this]; simp
    rw [e0, e1, e2, if_pos (by simp; omega), if_pos (by omega), if_pos (by simp <;> omega)]
    simp only [tw]
    by_cases h0 : n.f0 = 0
    · rw [if_pos h0, if_pos (by omega), if_pos (by simp <;> omega), if_pos (by omega)]
      by_cases h1 : a.f0 = b.f0 ∧ a.f1 = b.f1
      · rw [if_pos (by simpa using h1)]
        by_cases h2 : a.f0 = 1
        · rw [if_pos h2]; simp [h0, ← h1.1, ← h1.2, h2]
        · rw [if_neg h2]
          congr 1
          rw [Bool.eq_iff_iff]
          simp [h0, ← h1.1, ← h1.2, h2]
      · rw [if_neg (by simpa using h1)]
        simp [h1]
    · rw [if_neg h0]; simp [h0]
theorem trShort_l0 (l : List Nd) (hl : l.length ≤ 1000000) : ∀ (i : Nat), i ≤ l.length → Ev (fun k => spec_trShort.l0 k (l.take i ++ bk (l.drop i)) ((i : Int) - 1)) (bk l) := by
  intro i
  induction i with
  | zero =>
    intro _
    refine Ev.step (fun k => spec_trShort.l0.eq_2 _ _ k) (ev_ite_neg (by omega) (evc fun k => ?_))
    simp
  | succ i ih =>
    intro hi
    have hlt : i < l.length := by omega
    have hb := bk_length (l.drop (i + 1))
    rw [List.length_drop] at hb
    have e : l.take (i + 1) ++ bk (l.drop (i + 1)) = l.take i ++ l[i] :: bk (l.drop (i + 1)) := by
      rw [List.take_succ_eq_append_getElem hlt, List.append_assoc]; rfl
    have hA : (l.take i).length = i := by simp; omega
    have tt := trTwin_eq (l.take i) l[i] (bk (l.drop (i + 1))) (by omega)
    rw [hA] at tt
    refine Ev.step (fun k => spec_trShort.l0.eq_2 _ _ k) ?_
    rw [show ((i + 1 : Nat) : Int) - 1 = (i : Int) by omega, e, tt]
    refine ev_ite_pos (by omega) (ev_some ?_)
    have ih' := ih (by omega)
    rw [drop_at l i hlt] at ih'
    simp only [bk, stp] at ih'
    have w1 : wrap64 ((i : Int) - 1) = (i : Int) - 1 := w64 (by omega) (by omega)
    by_cases ht : tw l[i] (bk (l.drop (i + 1))) = true
    · rw [if_pos ht] at ih'
      refine ev_ite_pos ht ?_
      obtain ⟨a, b, r, hr⟩ : ∃ a b r, bk (l.drop (i + 1)) = a :: b :: r := by
        match h : bk (l.drop (i + 1)) with
        | [] => rw [h] at ht; simp [tw] at ht
        | [a] => rw [h] at ht; simp [tw] at ht
        | a :: b :: r => exact ⟨a, b, r, rfl⟩
      rw [hr] at ih' hb ⊢
      simp only [List.length_cons] at hb
      have hL : (l.take i ++ l[i] :: a :: b :: r).length = i + (r.length + 3) := by simp; omega
      rw [hL, w64 (x := (i : Int) + 1) (by omega) (by omega), w64 (x := (i : Int) + 2) (by omega) (by omega), w64 (x := (i : Int) + 3) (by omega) (by omega), w1]
      refine ev_ite_pos (by omega) (ev_ite_pos (by omega) (ev_ite_pos (by omega) (ev_ite_pos (by omega) (ev_ite_pos (by omega) (ev_ite_pos (by omega) (ev_ite_pos (by omega) ?_))))))
      rw [show ((i : Int) + 1).toNat = i + 1 by omega, show ((i : Int) + 2).toNat = i + 2 by omega, show ((i : Int) + 3).toNat = i + 3 by omega, Int.toNat_natCast]
      have t0 : (l.take i ++ l[i] :: a :: b :: r).take i = l.take i := by rw [List.take_append_of_le_length (by omega), List.take_take, Nat.min_self]
      have t1 : ((l.take i ++ l[i] :: a :: b :: r).take (i + 2)).drop (i + 1) = [a] := by
        have := List.take_append (l₁ := l.take i) (l₂ := l[i] :: a :: b :: r) (i := i + 2)
        rw [this, hA, List.drop_append, List.length_take, hA]
        simp [List.length_take, List.take_take]
        omega
      have t2 : (l.take i ++ l[i] :: a :: b :: r).drop (i + 3) = r := by
        rw [List.drop_append, hA]
        simp
        omega
      rw [t0, t1, t2, join_eq _ _ _ (by simp; omega)]
      refine ev_some ?_
      simpa using ih'
    · rw [if_neg ht] at ih'
      refine ev_ite_neg ht ?_
      rw [w1]
      exact ih'
theorem trShort_ev (l : List Nd) (hl : l.length ≤ 1000000) : Ev (fun k => spec_trShort.f k l) (bk l) := by
  unfold spec_trShort.f
  refine ev_some (ev_ite_pos (by simp; omega) (ev_some ?_))
  rw [List.nil_append, w64 (x := (l.length : Int) - 1) (by omega) (by omega)]
  have := trShort_l0 l hl l.length (by omega)
  rw [List.take_length, List.drop_length] at this
  simpa [bk] using this
/-- A short tree is one leaf, or begins with a halving. -/
def hd (t : List Nd) : Prop := (∃ a, t = [a] ∧ a.f0 ≠ 0) ∨ ∃ a b u, t = a :: b :: u ∧ a.f0 = 0
theorem shortened_ev (l : List Nd) (hl : l.length ≤ 1000000) (s : Int) : ∀ (m p d : Nat) (r : List Nd), p + m = l.length → run s (l.drop p) [d] = some r → ∃ t, Ev (fun k => impl_shortened.f k l p) t ∧ bk (l.drop p) = t ++ bk r ∧ hd t := by
  intro m
  induction m using Nat.strongRecOn with
  | _ m ih =>
  intro p d r hp h
  by_cases hm : m = 0
  · rw [List.drop_eq_nil_of_le (by omega)] at h
    simp [run] at h
  have hlt : p < l.length := by omega
  rw [drop_at l p hlt] at h
  have hstart : ∀ t, Ev (fun k => if l[p].f0 = 0 then ((impl_shortened.f k l (wrap64 ((p : Int) + 1))).bind fun t226 => ((impl_treeEnd.f k l (wrap64 ((p : Int) + 1))).bind fun t229 => ((impl_shortened.f k l t229).bind fun t230 => (if (t226.length : Int) = 1 then (if (t230.length : Int) = 1 then (if 0 < (t226.length : Int) then (if 0 < (t230.length : Int) then (if (((rd_T94 t226 0).f0) == ((rd_T94 t230 0).f0) && (((rd_T94 t226 0).f1) == ((rd_T94 t230 0).f1))) = true then (if ((rd_T94 t226 0).f0) = 1 then (some t226) else (if ((rd_T94 t226 0).f0) = 3 then (some t226) else ((slices_Concat_limpl_Node.f k [[l[p]], t226, t230]).bind fun t243 => (some t243)))) else ((slices_Concat_limpl_Node.f k [[l[p]], t226, t230]).bind fun t252 => (some t252))) else (none)) else (none)) else ((slices_Concat_limpl_Node.f k [[l[p]], t226, t230]).bind fun t261 => (some t261))) else ((slices_Concat_limpl_Node.f k [[l[p]], t226, t230]).bind fun t270 => (some t270)))))) else (some [l[p]])) t → Ev (fun k => impl_shortened.f k l p) t := by
    intro t ht
    refine Ev.step (fun k => impl_shortened.f.eq_2 l p k) (ev_ite_pos (by omega) (ev_ite_pos (by omega) ?_))
    rw [rdN l p hlt]
    exact ht
  simp only [run] at h
  split at h
  · cases h
  split at h
  case isFalse => cases h
  split at h
  · rename_i h0
    rw [run_cons] at h
    cases hr1 : run s (l.drop (p + 1)) [d + 1] with
    | none => rw [hr1] at h; cases h
    | some r1 =>
      rw [hr1] at h
      have h : run s r1 [d + 1] = some r := h
      obtain ⟨e1, e2⟩ := run_rest s hr1
      simp only [List.length_singleton] at e2
      rw [e1] at h
      obtain ⟨t1, v1, b1, c1⟩ := ih (m - 1) (by omega) (p + 1) (d + 1) r1 (by omega) hr1
      obtain ⟨t2, v2, b2, c2⟩ := ih r1.length (by omega) (l.length - r1.length) (d + 1) r (by omega) h
      rw [← e1] at b2
      have hb : bk (l.drop p) = stp l[p] (t1 ++ (t2 ++ bk r)) := by rw [drop_at l p hlt]; simp only [bk]; rw [b1, b2]
      have hbl := bk_length (l.drop (p + 1))
      rw [b1, b2] at hbl
      simp only [List.length_append, List.length_drop] at hbl
      have hcat := concat_ev [l[p]] t1 t2 (by simp; omega)
      have hend : Ev (fun k => impl_treeEnd.f k l (wrap64 ((p : Int) + 1))) ((l.length - r1.length : Nat) : Int) := by
        unfold impl_treeEnd.f
        rw [w64 (x := (p : Int) + 1) (by omega) (by omega)]
        have := treeEnd_ev l hl (l.length - (p + 1)) (p + 1) 1 (by omega) (by omega)
        rw [show cnt (l.drop (p + 1)) 1 = some r1 from run_cnt s _ _ _ hr1, show teV l (some r1) = ((l.length - r1.length : Nat) : Int) by simp only [teV]; omega] at this
        exact this
      have v1' : Ev (fun k => impl_shortened.f k l (wrap64 ((p : Int) + 1))) t1 := by
        rw [w64 (x := (p : Int) + 1) (by omega) (by omega)]
        exact v1
      have go : ∀ t, Ev (fun k => if (t1.length : Int) = 1 then (if (t2.length : Int) = 1 then (if 0 < (t1.length : Int) then (if 0 < (t2.length : Int) then (if (((rd_T94 t1 0).f0) == ((rd_T94 t2 0).f0) && (((rd_T94 t1 0).f1) == ((rd_T94 t2 0).f1))) = true then (if ((rd_T94 t1 0).f0) = 1 then (some t1) else (if ((rd_T94 t1 0).f0) = 3 then (some t1) else ((slices_Concat_limpl_Node.f k [[l[p]], t1, t2]).bind fun t243 => (some t243)))) else ((slices_Concat_limpl_Node.f k [[l[p]], t1, t2]).bind fun t252 => (some t252))) else (none)) else (none)) else ((slices_Concat_limpl_Node.f k [[l[p]], t1, t2]).bind fun t261 => (some t261))) else ((slices_Concat_limpl_Node.f k [[l[p]], t1, t2]).bind fun t270 => (some t270))) t → Ev (fun k => impl_shortened.f k l p) t := by
        intro t ht
        exact hstart t (ev_ite_pos h0 (ev_bind v1' (ev_bind hend (ev_bind v2 ht))))
      have keep : tw l[p] (t1 ++ (t2 ++ bk r)) = false → bk (l.drop p) = ([l[p]] ++ t1 ++ t2) ++ bk r ∧ hd ([l[p]] ++ t1 ++ t2) := by
        intro ht
        refine ⟨by rw [hb, stp, if_neg (by simp [ht])]; simp, ?_⟩
        rcases c1 with ⟨a, rfl, _⟩ | ⟨a, b, u, rfl, _⟩
        · exact Or.inr ⟨_, _, _, rfl, h0⟩
        · exact Or.inr ⟨_, _, _, rfl, h0⟩
      have hcat' := ev_bind (f := fun k t => some t) hcat (Ev.now _)
      rcases c1 with ⟨a, rfl, ha⟩ | ⟨a, b, u, rfl, ha⟩
      · rcases c2 with ⟨b, rfl, hb2⟩ | ⟨b, c, u, rfl, hb2⟩
        · have ra : rd_T94 [a] 0 = a := rfl
          have rb : rd_T94 [b] 0 = b := rfl
          by_cases he : a.f0 = b.f0 ∧ a.f1 = b.f1
          · by_cases hk : a.f0 = 1 ∨ a.f0 = 3
            · refine ⟨[a], go [a] ?_, ?_, Or.inl ⟨a, rfl, ha⟩⟩
              · refine ev_ite_pos (by simp) (ev_ite_pos (by simp) (ev_ite_pos (by simp) (ev_ite_pos (by simp) ?_)))
                rw [ra, rb]
                refine ev_ite_pos (by simpa using he) ?_
                by_cases h1 : a.f0 = 1
                · exact ev_ite_pos h1 (Ev.now _)
                · exact ev_ite_neg h1 (ev_ite_pos (by omega) (Ev.now _))
              · rw [hb, stp, if_pos (by simp [tw, h0, ← he.1, ← he.2, hk])]
                rfl
            · have ht : tw l[p] ([a] ++ ([b] ++ bk r)) = false := by simp [tw, hk]
              refine ⟨_, go _ ?_, keep ht⟩
              refine ev_ite_pos (by simp) (ev_ite_pos (by simp) (ev_ite_pos (by simp) (ev_ite_pos (by simp) ?_)))
              rw [ra, rb]
              exact ev_ite_pos (by simpa using he) (ev_ite_neg (by omega) (ev_ite_neg (by omega) hcat'))
          · have ht : tw l[p] ([a] ++ ([b] ++ bk r)) = false := by simp [tw, he]
            refine ⟨_, go _ ?_, keep ht⟩
            refine ev_ite_pos (by simp) (ev_ite_pos (by simp) (ev_ite_pos (by simp) (ev_ite_pos (by simp) ?_)))
            rw [ra, rb]
            exact ev_ite_neg (by simpa using he) hcat'
        · have ht : tw l[p] ([a] ++ ((b :: c :: u) ++ bk r)) = false := by
            simp [tw, hb2, ha]
          refine ⟨_, go _ ?_, keep ht⟩
          exact ev_ite_pos (by simp) (ev_ite_neg (by simp; omega) hcat')
      · have ht : tw l[p] ((a :: b :: u) ++ (t2 ++ bk r)) = false := by simp [tw, ha]
        refine ⟨_, go _ ?_, keep ht⟩
        exact ev_ite_neg (by simp; omega) hcat'
  · rename_i h0
    cases h
    refine ⟨[l[p]], hstart _ (ev_ite_neg h0 (Ev.now _)), ?_, Or.inl ⟨_, rfl, h0⟩⟩
    rw [drop_at l p hlt]
    simp only [bk, stp]
    rw [if_neg]
    · rfl
    · match bk (l.drop (p + 1)) with
      | [] => simp [tw]
      | [a] => simp [tw]
      | a :: b :: r => simp [tw, h0]

end Go.Proofs.Ytnndolcjljhhcaa.Pure
