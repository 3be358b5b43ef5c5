/- The numbers of leaves, and the places of leaves. -/
import Derived.Test.YtnndolcjljhhcaaQFnExactCountLeavesTreeB
namespace Go.Proofs.Ytnndolcjljhhcaa.Pure
open Go.RowKit Go.Proofs.YtnndolcjljhhcaaX Go.Proofs.Ytnndolcjljhhcaa.PFnExactCountLeaves Go.Proofs.YtnndolcjljhhcaaW.PrintWords Go.Proofs.YtnndolcjljhhcaaW.PrintLast Go.Proofs.YtnndolcjljhhcaaW.PrintMore
theorem vN_kind {s : Int} {n : Nd} (h : vN s n = true) : n.f0 = 0 ∨ n.f0 = 1 ∨ n.f0 = 2 ∨ n.f0 = 3 := by
  unfold vN at h
  split at h
  · exact .inl ‹_›
  · split at h
    · rename_i h2
      rcases h2 with h2 | h2
      · exact .inr (.inl h2)
      · exact .inr (.inr (.inl h2))
    · split at h
      · exact .inr (.inr (.inr ‹_›))
      · cases h
theorem isT_kinds {s : Int} {l : List Nd} (h : isT s l = true) : ∀ n ∈ l, n.f0 = 0 ∨ n.f0 = 1 ∨ n.f0 = 2 ∨ n.f0 = 3 := by
  obtain ⟨_, _, h⟩ := isT_facts h
  exact fun n hn => vN_kind (((run_iff s l [0]).1 h).2.1 n hn)
/-- How many nodes have a kind. -/
def cK (q : Int) (l : List Nd) : Nat := l.countP (fun n => decide (n.f0 = q))
/-- The places of the leaves, counted from i on. -/
def pl : List Nd → Nat → List Int
  | [], _ => []
  | n :: l, i => if n.f0 = 0 then pl l (i + 1) else (i : Int) :: pl l (i + 1)
theorem pl_length : ∀ (l : List Nd) (i : Nat), (pl l i).length ≤ l.length
  | [], _ => Nat.le_refl _
  | n :: l, i => by
    simp only [pl]
    have := pl_length l (i + 1)
    split
    · simp; omega
    · simp; omega

end Go.Proofs.Ytnndolcjljhhcaa.Pure
