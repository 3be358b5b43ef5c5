/- Lists put together. -/
import Derived.Test.YtnndolcjljhhcaaQFnExactReplaceLeafTreeD
namespace Go.Proofs.Ytnndolcjljhhcaa.Pure
open Go.RowKit Go.Proofs.YtnndolcjljhhcaaX Go.Proofs.Ytnndolcjljhhcaa.PFnExactReplaceLeaf Go.Proofs.YtnndolcjljhhcaaW.PrintWords Go.Proofs.YtnndolcjljhhcaaW.PrintLast Go.Proofs.YtnndolcjljhhcaaW.PrintMore
theorem join_eq (a b c : List Nd) (h : a.length + b.length + c.length ≤ 4000000) : spec_trJoin.f a b c = some (a ++ b ++ c) := by
  unfold spec_trJoin.f
  simp only [Option.bind_some]
  rw [if_pos (by simp; omega), if_pos (by simp; omega), if_pos (by simp; omega)]
  simp
theorem rdL (xs : List (List Nd)) (i : Nat) (h : i < xs.length) : rd_L4 xs (i : Int) = xs[i] := by
  unfold rd_L4
  rw [Int.toNat_natCast, List.getD_eq_getElem?_getD, List.getElem?_eq_getElem h]
  rfl
theorem concat_l1 (xs : List (List Nd)) (hx : xs.length ≤ 1000) : ∀ (m i : Nat) (acc : List Nd), i + m = xs.length → acc.length + ((xs.drop i).flatten).length ≤ 4000000 → Ev (fun k => slices_Concat_limpl_Node.l1 k acc xs (xs.length : Int) i) (acc ++ (xs.drop i).flatten) := by
  intro m
  induction m with
  | zero =>
    intro i acc hi ha
    refine Ev.step (fun k => slices_Concat_limpl_Node.l1.eq_2 acc xs _ _ k) (ev_ite_neg (by omega) (evc fun k => ?_))
    rw [List.drop_eq_nil_of_le (by omega)]
    simp
  | succ m ih =>
    intro i acc hi ha
    have hlt : i < xs.length := by omega
    rw [drop_at xs i hlt] at ha ⊢
    simp only [List.flatten_cons, List.length_append] at ha ⊢
    refine Ev.step (fun k => slices_Concat_limpl_Node.l1.eq_2 acc xs _ _ k) (ev_ite_pos (by omega) (ev_ite_pos (by omega) (ev_ite_pos (by omega) ?_)))
    rw [rdL xs i hlt, w64 (x := (i : Int) + 1) (by omega) (by omega)]
    refine ev_ite_pos (by omega) ?_
    have := ih (i + 1) (acc ++ xs[i]) (by omega) (by rw [List.length_append]; omega)
    simpa using this
theorem concat_l0 (xs : List (List Nd)) (hx : xs.length ≤ 1000) (hf : xs.flatten.length ≤ 4000000) : ∀ (m i : Nat) (z : Nat), i + m = xs.length → z + ((xs.drop i).flatten).length ≤ 4000000 → Ev (fun k => slices_Concat_limpl_Node.l0 k xs z xs (xs.length : Int) i) xs.flatten := by
  intro m
  induction m with
  | zero =>
    intro i z hi hz
    refine Ev.step (fun k => slices_Concat_limpl_Node.l0.eq_2 xs _ xs _ _ k) (ev_ite_neg (by omega) ?_)
    have : slices_Grow_limpl_Node.f ([] : List Nd) (z : Int) = some [] := by
      unfold slices_Grow_limpl_Node.f
      rw [if_pos (by omega), if_pos (by omega)]
    rw [this]
    refine ev_some ?_
    simpa using concat_l1 xs hx xs.length 0 [] (by omega) (by simpa using hf)
  | succ m ih =>
    intro i z hi hz
    have hlt : i < xs.length := by omega
    rw [drop_at xs i hlt] at hz
    simp only [List.flatten_cons, List.length_append] at hz
    refine Ev.step (fun k => slices_Concat_limpl_Node.l0.eq_2 xs _ xs _ _ k) (ev_ite_pos (by omega) (ev_ite_pos (by omega) (ev_ite_pos (by omega) ?_)))
    rw [rdL xs i hlt, w64 (x := (i : Int) + 1) (by omega) (by omega), w64 (x := (z : Int) + _) (by omega) (by omega)]
    refine ev_ite_neg (by omega) ?_
    have := ih (i + 1) (z + xs[i].length) (by omega) (by omega)
    simpa using this
theorem concat_ev (a b c : List Nd) (h : a.length + b.length + c.length ≤ 4000000) : Ev (fun k => slices_Concat_limpl_Node.f k [a, b, c]) (a ++ b ++ c) := by
  unfold slices_Concat_limpl_Node.f
  have hf : [a, b, c].flatten = a ++ b ++ c := by simp
  have := concat_l0 [a, b, c] (by simp) (by simp; omega) 3 0 0 (by simp) (by simp; omega)
  rw [hf] at this
  exact this

end Go.Proofs.Ytnndolcjljhhcaa.Pure
