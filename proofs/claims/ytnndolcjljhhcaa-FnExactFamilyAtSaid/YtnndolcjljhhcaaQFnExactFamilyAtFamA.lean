/- Families: tests of the arguments, trailing zeros, and the coefficients. -/
import Derived.Test.YtnndolcjljhhcaaPFnExactFamilyAtx
namespace Go.Proofs.Ytnndolcjljhhcaa.Pure
open Go.RowKit Go.Proofs.YtnndolcjljhhcaaX Go.Proofs.Ytnndolcjljhhcaa.PFnExactFamilyAt Go.Proofs.YtnndolcjljhhcaaW.PrintWords Go.Proofs.YtnndolcjljhhcaaW.PrintLast Go.Proofs.YtnndolcjljhhcaaW.PrintMore
theorem rdD (l : List Int) (i : Nat) : rd l (i : Int) = l.getD i 0 := by unfold rd; rw [Int.toNat_natCast]
theorem getD_lt (l : List Int) (i : Nat) (h : i < l.length) : l.getD i 0 = l[i] := by rw [List.getD_eq_getElem?_getD, List.getElem?_eq_getElem h]; rfl
theorem getD_ge (l : List Int) (i : Nat) (h : l.length ≤ i) : l.getD i 0 = 0 := by rw [List.getD_eq_getElem?_getD, List.getElem?_eq_none h]; rfl
theorem getD_set (l : List Int) (j i : Nat) (v : Int) (h : j < l.length) : (l.set j v).getD i 0 = if i = j then v else l.getD i 0 := by
  rw [List.getD_eq_getElem?_getD, List.getD_eq_getElem?_getD, List.getElem?_set]
  by_cases e : j = i
  · subst e; simp [h]
  · rw [if_neg e, if_neg (fun x => e x.symm)]
theorem in_eq (a b c : Int) : impl_inside.f a b c = some (decide (b ≤ a ∧ a ≤ c)) := by
  unfold impl_inside.f
  by_cases h : a ≥ b
  · rw [if_pos h]; congr 1; simp; omega
  · rw [if_neg h]; congr 1; simp; omega
theorem in1_eq (a b c : Int) : spec_l1In.f a b c = some (decide (b ≤ a ∧ a ≤ c)) := by
  unfold spec_l1In.f
  by_cases h : a ≥ b
  · rw [if_pos h]; congr 1; simp; omega
  · rw [if_neg h]; congr 1; simp; omega

/-! ### Trailing zeros -/
def strip : List Int → List Int
  | [] => []
  | x :: l => if strip l = [] ∧ x = 0 then [] else x :: strip l
theorem strip_ext : ∀ (a b : List Int), (∀ i, a.getD i 0 = b.getD i 0) → strip a = strip b
  | [], [], _ => rfl
  | [], y :: b, h => by
    have h0 : (0 : Int) = y := by simpa using h 0
    have := strip_ext [] b (fun i => by simpa using h (i + 1))
    simp only [strip] at this ⊢
    rw [← this, ← h0]; simp
  | x :: a, [], h => by
    have h0 : x = (0 : Int) := by simpa using h 0
    have := strip_ext a [] (fun i => by simpa using h (i + 1))
    simp only [strip] at this ⊢
    rw [this, h0]; simp
  | x :: a, y :: b, h => by
    have h0 : x = y := by simpa using h 0
    have := strip_ext a b (fun i => by simpa using h (i + 1))
    simp only [strip]
    rw [this, h0]
theorem strip_get : ∀ (a : List Int) (i : Nat), (strip a).getD i 0 = a.getD i 0
  | [], i => rfl
  | x :: a, i => by
    simp only [strip]
    split
    · rename_i h
      cases i with
      | zero => simp [h.2]
      | succ i =>
        have := strip_get a i
        rw [h.1] at this
        simpa using this
    · cases i with
      | zero => simp
      | succ i => simpa using strip_get a i
theorem strip_le : ∀ a : List Int, (strip a).length ≤ a.length
  | [] => by simp [strip]
  | x :: a => by
    have := strip_le a
    simp only [strip]
    split <;> simp <;> omega
theorem strip_snoc (a : List Int) (x : Int) (h : x ≠ 0) : strip (a ++ [x]) = a ++ [x] := by
  induction a with
  | nil => simp [strip, h]
  | cons y a ih => simp [strip, ih]
theorem strip_snoc0 (a : List Int) : strip (a ++ [0]) = strip a := by
  apply strip_ext
  intro i
  rw [List.getD_eq_getElem?_getD, List.getD_eq_getElem?_getD, List.getElem?_append]
  split
  · rfl
  · rename_i h
    rw [List.getElem?_eq_none (by omega : a.length ≤ i)]
    cases i - a.length <;> simp
theorem stripped_l0 : ∀ (n : Nat) (l : List Int), l.length = n → n ≤ 1000000 → Ev (fun k => impl_stripped.l0 k l) (strip l) := by
  intro n
  induction n with
  | zero =>
    intro l hl _
    obtain rfl : l = [] := List.eq_nil_of_length_eq_zero hl
    refine Ev.step (fun k => impl_stripped.l0.eq_2 [] k) (ev_ite_neg (by simp) (evc fun k => ?_))
    rfl
  | succ n ih =>
    intro l hl hn
    obtain ⟨a, x, rfl⟩ : ∃ a x, l = a ++ [x] := ⟨l.dropLast, l.getLast (by rintro rfl; simp at hl), (List.dropLast_concat_getLast _).symm⟩
    simp only [List.length_append, List.length_singleton] at hl
    have hL : (((a ++ [x]).length : Nat) : Int) = (n : Int) + 1 := by simp; omega
    refine Ev.step (fun k => impl_stripped.l0.eq_2 _ k) ?_
    rw [hL, w64 (x := (n : Int) + 1 - 1) (by omega) (by omega), show (n : Int) + 1 - 1 = (n : Int) by omega, rdD]
    refine ev_ite_pos (by omega) (ev_ite_pos (by omega) (ev_ite_pos (by omega) ?_))
    have e : (a ++ [x]).getD n 0 = x := by rw [getD_lt _ _ (by simp; omega), List.getElem_append_right (by omega)]; simp
    rw [e]
    by_cases hx : x = 0
    · refine ev_ite_pos hx (ev_ite_pos (by omega) ?_)
      rw [Int.toNat_natCast, show (a ++ [x]).take n = a by rw [show n = a.length by omega]; simp, hx, strip_snoc0]
      exact ih a (by omega) (by omega)
    · refine ev_ite_neg hx (evc fun k => ?_)
      unfold slices_Clone_lint.f
      rw [if_pos (by simp; omega), strip_snoc a x hx]
      rfl
theorem sgTrim_l0 : ∀ (n : Nat) (l : List Int), l.length = n → n ≤ 1000000 → Ev (fun k => spec_sgTrim.l0 k l) (strip l) := by
  intro n
  induction n with
  | zero =>
    intro l hl _
    obtain rfl : l = [] := List.eq_nil_of_length_eq_zero hl
    refine Ev.step (fun k => spec_sgTrim.l0.eq_2 [] k) (ev_ite_neg (by simp) (evc fun k => ?_))
    rfl
  | succ n ih =>
    intro l hl hn
    obtain ⟨a, x, rfl⟩ : ∃ a x, l = a ++ [x] := ⟨l.dropLast, l.getLast (by rintro rfl; simp at hl), (List.dropLast_concat_getLast _).symm⟩
    simp only [List.length_append, List.length_singleton] at hl
    have hL : (((a ++ [x]).length : Nat) : Int) = (n : Int) + 1 := by simp; omega
    refine Ev.step (fun k => spec_sgTrim.l0.eq_2 _ k) ?_
    rw [hL, w64 (x := (n : Int) + 1 - 1) (by omega) (by omega), show (n : Int) + 1 - 1 = (n : Int) by omega, rdD]
    refine ev_ite_pos (by omega) (ev_ite_pos (by omega) (ev_ite_pos (by omega) ?_))
    have e : (a ++ [x]).getD n 0 = x := by rw [getD_lt _ _ (by simp; omega), List.getElem_append_right (by omega)]; simp
    rw [e]
    by_cases hx : x = 0
    · refine ev_ite_pos hx (ev_ite_pos (by omega) ?_)
      rw [Int.toNat_natCast, show (a ++ [x]).take n = a by rw [show n = a.length by omega]; simp, hx, strip_snoc0]
      exact ih a (by omega) (by omega)
    · refine ev_ite_neg hx (evc fun k => ?_)
      unfold spec_l1Own.f
      rw [Option.bind_some, if_pos (by simp; omega), strip_snoc a x hx]
      rfl

/-! ### The tests -/
def allIn (a b : Int) (l : List Int) : Bool := l.all fun x => decide (a ≤ x ∧ x ≤ b)
theorem l1All_l0 (l : List Int) (hl : l.length ≤ 1000000) (a b : Int) : ∀ (m i : Nat), i + m = l.length → Ev (fun k => spec_l1All.l0 k a b l (l.length : Int) i) (allIn a b (l.drop i)) := by
  intro m
  induction m with
  | zero =>
    intro i hi
    refine Ev.step (fun k => spec_l1All.l0.eq_2 a b l _ _ k) (ev_ite_neg (by omega) (evc fun k => ?_))
    rw [List.drop_eq_nil_of_le (by omega)]
    rfl
  | succ m ih =>
    intro i hi
    have hlt : i < l.length := by omega
    refine Ev.step (fun k => spec_l1All.l0.eq_2 a b l _ _ k) (ev_ite_pos (by omega) (ev_ite_pos (by omega) (ev_ite_pos (by omega) ?_)))
    rw [in1_eq, w64 (x := (i : Int) + 1) (by omega) (by omega), rd_at l i hlt, drop_at l i hlt]
    refine ev_some ?_
    simp only [allIn, List.all_cons]
    by_cases h : a ≤ l[i] ∧ l[i] ≤ b
    · rw [show decide (a ≤ l[i] ∧ l[i] ≤ b) = true by simpa using h]
      exact ev_ite_pos rfl (ih (i + 1) (by omega))
    · rw [show decide (a ≤ l[i] ∧ l[i] ≤ b) = false by simpa using h]
      exact ev_ite_neg (by simp) (Ev.now _)
theorem l1All_ev (l : List Int) (hl : l.length ≤ 1000000) (a b : Int) : Ev (fun k => spec_l1All.f k l a b) (allIn a b l) := by
  unfold spec_l1All.f
  simpa using l1All_l0 l hl a b l.length 0 (by omega)
def sV (l : List Int) : Bool := allIn (-1000000) 1000000 l && (decide (l.length = 0) || (decide (l.length ≤ 9) && (l.getD (l.length - 1) 0 != 0)))
theorem sgGood_ev (l : List Int) (hl : l.length ≤ 1000000) : Ev (fun k => spec_sgGood.f k l) (sV l) := by
  unfold spec_sgGood.f sV
  by_cases h : (l.length : Int) > 9
  · refine ev_ite_pos h (evc fun k => ?_)
    rw [show decide (l.length = 0) = false by simp; intro e; rw [e] at h; simp at h, show decide (l.length ≤ 9) = false by simp; omega]
    simp
  · refine ev_ite_neg h (ev_bind (l1All_ev l hl _ _) ?_)
    by_cases ha : allIn (-1000000) 1000000 l = true
    · refine ev_ite_pos ha ?_
      rw [ha]
      by_cases h0 : l.length = 0
      · refine ev_ite_pos (by omega) (evc fun k => ?_)
        simp [h0]
      · refine ev_ite_neg (by omega) ?_
        rw [w64 (x := (l.length : Int) - 1) (by omega) (by omega), show (l.length : Int) - 1 = ((l.length - 1 : Nat) : Int) by omega, rdD]
        refine ev_ite_pos (by omega) (ev_ite_pos (by omega) (evc fun k => ?_))
        rw [show decide (l.length ≤ 9) = true by simp; omega, show decide (l.length = 0) = false by simpa using h0]
        simp
    · refine ev_ite_neg ha (evc fun k => ?_)
      simp [ha]
theorem isSingle_l0 (l : List Int) (hl : l.length ≤ 1000000) : ∀ (m i : Nat), i + m = l.length → Ev (fun k => impl_isSingle.l0 k l l (l.length : Int) i) (allIn (-1000000) 1000000 (l.drop i) && (decide (l.length = 0) || (decide (l.length ≤ 9) && (l.getD (l.length - 1) 0 != 0)))) := by
  intro m
  induction m with
  | zero =>
    intro i hi
    refine Ev.step (fun k => impl_isSingle.l0.eq_2 l l _ _ k) (ev_ite_neg (by omega) ?_)
    rw [List.drop_eq_nil_of_le (by omega), show allIn (-1000000) 1000000 [] = true from rfl]
    by_cases h0 : l.length = 0
    · refine ev_ite_pos (by omega) (evc fun k => ?_)
      simp [h0]
    · refine ev_ite_neg (by omega) ?_
      rw [show decide (l.length = 0) = false by simpa using h0]
      by_cases h9 : l.length ≤ 9
      · rw [w64 (x := (l.length : Int) - 1) (by omega) (by omega), show (l.length : Int) - 1 = ((l.length - 1 : Nat) : Int) by omega, rdD]
        refine ev_ite_pos (by omega) (ev_ite_pos (by omega) (ev_ite_pos (by omega) (evc fun k => ?_)))
        rw [show decide (l.length ≤ 9) = true by simpa using h9]
        simp
      · refine ev_ite_neg (by omega) (evc fun k => ?_)
        rw [show decide (l.length ≤ 9) = false by simpa using h9]
        simp
  | succ m ih =>
    intro i hi
    have hlt : i < l.length := by omega
    refine Ev.step (fun k => impl_isSingle.l0.eq_2 l l _ _ k) (ev_ite_pos (by omega) (ev_ite_pos (by omega) (ev_ite_pos (by omega) ?_)))
    rw [in_eq, w64 (x := (i : Int) + 1) (by omega) (by omega), rd_at l i hlt, drop_at l i hlt]
    refine ev_some ?_
    simp only [allIn, List.all_cons]
    by_cases h : -1000000 ≤ l[i] ∧ l[i] ≤ 1000000
    · rw [show decide (-1000000 ≤ l[i] ∧ l[i] ≤ 1000000) = true by simpa using h]
      exact ev_ite_pos rfl (by simpa [allIn] using ih (i + 1) (by omega))
    · rw [show decide (-1000000 ≤ l[i] ∧ l[i] ≤ 1000000) = false by simpa using h]
      exact ev_ite_neg (by simp) (evc fun k => by simp)
theorem isSingle_ev (l : List Int) (hl : l.length ≤ 1000000) : Ev (fun k => impl_isSingle.f k l) (sV l) := by
  unfold impl_isSingle.f sV
  simpa using isSingle_l0 l hl l.length 0 (by omega)

end Go.Proofs.Ytnndolcjljhhcaa.Pure
