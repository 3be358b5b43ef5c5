/- Subtrees: from each place of a tree on, one tree. -/
import Derived.Test.YtnndolcjljhhcaaQFnExactReplaceLeafTreeB
namespace Go.Proofs.Ytnndolcjljhhcaa.Pure
open Go.RowKit Go.Proofs.YtnndolcjljhhcaaX Go.Proofs.Ytnndolcjljhhcaa.PFnExactReplaceLeaf Go.Proofs.YtnndolcjljhhcaaW.PrintWords Go.Proofs.YtnndolcjljhhcaaW.PrintLast Go.Proofs.YtnndolcjljhhcaaW.PrintMore
theorem run_nil (s : Int) (l : List Nd) : run s l [] = some l := by cases l <;> rfl
theorem run_lower (s : Int) : ∀ (l : List Nd) (a b : List Nat) (r : List Nd), a.length = b.length → (∀ (i : Nat) (x y : Nat), a[i]? = some x → b[i]? = some y → y ≤ x) → run s l a = some r → run s l b = some r
  | l, [], [], r, _, _, h => h
  | [], d :: a, e :: b, r, _, _, h => by simp [run] at h
  | n :: l, d :: a, e :: b, r, hl, hd, h => by
    have hde : e ≤ d := hd 0 d e rfl rfl
    have hrest : ∀ (i : Nat) (x y : Nat), a[i]? = some x → b[i]? = some y → y ≤ x := fun i x y hx hy => hd (i + 1) x y hx hy
    simp only [run] at h ⊢
    split at h
    · cases h
    · rw [if_neg (by omega)]
      split at h
      · rename_i hv
        rw [if_pos hv]
        split at h
        · rename_i h0
          rw [if_pos h0]
          refine run_lower s l _ _ r (by simpa using hl) ?_ h
          intro i x y hx hy
          match i with
          | 0 => simp at hx hy; omega
          | 1 => simp at hx hy; omega
          | i + 2 => exact hrest i x y (by simpa using hx) (by simpa using hy)
        · rename_i h0
          rw [if_neg h0]
          exact run_lower s l a b r (by simpa using hl) hrest h
      · cases h
theorem run_at (s : Int) : ∀ (l : List Nd) (st : List Nat) (p : Nat), run s l st = some [] → p < l.length → ∃ d t, run s (l.drop p) (d :: t) = some []
  | l, [], p, h, hp => by
    rw [run_nil] at h
    cases h
    simp at hp
  | [], _ :: _, p, h, hp => by simp at hp
  | n :: l, d :: st, 0, h, hp => ⟨d, st, h⟩
  | n :: l, d :: st, p + 1, h, hp => by
    simp only [run] at h
    split at h
    · cases h
    · split at h
      · split at h
        · exact run_at s l _ p h (by simpa using hp)
        · exact run_at s l _ p h (by simpa using hp)
      · cases h
/-- The tree at a place. -/
theorem tree_at {s : Int} {l : List Nd} {p : Nat} (h : run s l [0] = some []) (hp : p < l.length) : ∃ r, run s (l.drop p) [0] = some r ∧ cnt (l.drop p) 1 = some r ∧ r.length < l.length - p ∧ r = l.drop (l.length - r.length) := by
  obtain ⟨d, t, h1⟩ := run_at s l [0] p h hp
  rw [run_cons] at h1
  cases h2 : run s (l.drop p) [d] with
  | none => rw [h2] at h1; cases h1
  | some r =>
    have h3 := run_lower s (l.drop p) [d] [0] r rfl (by
      intro i x y hx hy
      match i with
      | 0 => simp at hx hy; omega
      | i + 1 => simp at hx) h2
    obtain ⟨h4, h5⟩ := run_rest s h3
    exact ⟨r, h3, run_cnt s _ _ _ h3, by simp at h5; omega, h4⟩
theorem trPlace_ev (l : List Nd) (hl : l.length ≤ 1000000) (s p : Int) : Ev (fun k => spec_trPlace.f k l s p) (isT s l && decide (0 ≤ p ∧ p < l.length)) := by
  unfold spec_trPlace.f
  refine ev_bind (trGood_ev l hl s) ?_
  rw [l1In_eq, w64 (x := (l.length : Int) - 1) (by omega) (by omega)]
  by_cases h : isT s l = true
  · rw [h]
    refine ev_ite_pos rfl (evc fun k => ?_)
    simp only [Option.bind_some, Bool.true_and]
    congr 1
    rw [decide_eq_decide]
    omega
  · refine ev_ite_neg h (evc fun k => ?_)
    simp [h]
theorem inside_eq (a b c : Int) : impl_inside.f a b c = some (decide (b ≤ a ∧ a ≤ c)) := by
  unfold impl_inside.f
  by_cases h : a ≥ b
  · rw [if_pos h]
    congr 1
    simp
    omega
  · rw [if_neg h]
    congr 1
    simp
    omega

end Go.Proofs.Ytnndolcjljhhcaa.Pure
