/- Plain lemmas on what the printed functions come to. -/
import Derived.Test.YtchdegcfohegfaaAF
set_option maxRecDepth 100000
set_option linter.unusedVariables false
set_option linter.unusedSimpArgs false
namespace Go.Proofs.YtchdegcfohegfaaE
/-! scaf -/
def rb (n : Nat) : Nat := if n % 6 = 5 then 0 else if n % 3 = 0 then 1 else n
theorem rb_le (n : Nat) : rb n ≤ n + 1 := by unfold rb; split <;> (try split) <;> omega
theorem walk_loop {f : Int → Option Bool} {n : Nat} {r : Option Bool} (h : ∀ i : Nat, i < n → f i = f ((i + 1 : Nat) : Int)) (h' : f n = r) : f 0 = r := by
  have main : ∀ m i : Nat, i + m = n → f i = r := by
    intro m
    induction m with
    | zero => intro i hi; rw [show i = n by omega, h']
    | succ m ih => intro i hi; rw [h i (by omega), ih (i + 1) (by omega)]
  exact main n 0 (by omega)
theorem to_loop {A V : Type} {a : List A} {f5 f9 : List V → Int → Option (List V × Nat)} {fill d : V} {fgE : V → A} {Q : V → Prop} {R : Nat}
    (h5 : ∀ (outs : List V) (i : Nat) (hi : i < a.length), outs.length = a.length + R → ∃ v, fgE v = a[i] ∧ Q v ∧ f5 outs i = f5 (outs.set i v) ((i + 1 : Nat) : Int))
    (h5' : ∀ outs, f5 outs a.length = f9 outs a.length)
    (h9 : ∀ (outs : List V) (i : Nat), i < outs.length → outs.length = a.length + R → f9 outs i = f9 (outs.set i fill) ((i + 1 : Nat) : Int))
    (h9' : ∀ outs : List V, outs.length = a.length + R → f9 outs outs.length = some (outs, a.length)) :
    ∃ P : List V, P.length = a.length ∧ P.map fgE = a ∧ (∀ v ∈ P, Q v) ∧ f5 (List.replicate (a.length + R) d) 0 = some (P ++ List.replicate R fill, a.length) := by
  have second : ∀ (P : List V) (m j : Nat), P.length = a.length → j + m = R → f9 (P ++ (List.replicate j fill ++ List.replicate m d)) ((a.length + j : Nat) : Int) = some (P ++ List.replicate R fill, a.length) := by
    intro P m
    induction m with
    | zero =>
      intro j hP hj
      obtain rfl : j = R := by omega
      have := h9' (P ++ (List.replicate j fill ++ List.replicate 0 d)) (by simp [hP])
      simp only [List.replicate_zero, List.append_nil] at this ⊢
      rw [← this]
      simp [hP]
    | succ m ih =>
      intro j hP hj
      rw [h9 _ _ (by simp; omega) (by simp [hP]; omega)]
      have e : (P ++ (List.replicate j fill ++ List.replicate (m + 1) d)).set (a.length + j) fill = P ++ (List.replicate (j + 1) fill ++ List.replicate m d) := by
        rw [List.set_append_right _ _ (by omega), List.set_append_right _ _ (by simp; omega), List.replicate_succ, List.length_replicate, show a.length + j - P.length - j = 0 by omega, List.set_cons_zero, List.replicate_succ']
        simp
      rw [e]
      exact ih (j + 1) hP (by omega)
  have first : ∀ (m : Nat) (P : List V), P.length + m = a.length → P.map fgE = a.take P.length → (∀ v ∈ P, Q v) →
      ∃ P' : List V, P'.length = a.length ∧ P'.map fgE = a ∧ (∀ v ∈ P', Q v) ∧ f5 (P ++ List.replicate (m + R) d) (P.length : Int) = some (P' ++ List.replicate R fill, a.length) := by
    intro m
    induction m with
    | zero =>
      intro P hP hm hQ
      refine ⟨P, by omega, by rw [hm, List.take_of_length_le (by omega)], hQ, ?_⟩
      rw [show P.length = a.length by omega, h5']
      have := second P R 0 (by omega) (by omega)
      rw [← this]
      simp
    | succ m ih =>
      intro P hP hm hQ
      obtain ⟨v, g1, g2, g3⟩ := h5 (P ++ List.replicate (m + 1 + R) d) P.length (by omega) (by simp; omega)
      obtain ⟨P', q1, q2, q3, q4⟩ := ih (P ++ [v]) (by simp; omega) (by rw [List.map_append, hm, List.length_append, List.length_singleton, List.take_succ_eq_append_getElem (show P.length < a.length by omega)]; simp [g1]) (fun u hu => by
        rcases List.mem_append.1 hu with h | h
        · exact hQ u h
        · rw [List.mem_singleton.1 h]; exact g2)
      refine ⟨P', q1, q2, q3, ?_⟩
      rw [g3, ← q4]
      have e : (P ++ List.replicate (m + 1 + R) d).set P.length v = P ++ [v] ++ List.replicate (m + R) d := by
        rw [List.set_append_right _ _ (by omega), Nat.sub_self, show m + 1 + R = m + R + 1 by omega, List.replicate_succ, List.set_cons_zero]
        simp
      rw [e, List.length_append, List.length_singleton]
  have := first a.length [] (by simp) (by simp) (by simp)
  simpa using this
theorem roomBehind_v (n : Nat) : w_roomBehind (n : Int) = some (rb n : Int) := by
  have h6 : Int.tmod (n : Int) 6 = ((n % 6 : Nat) : Int) := by rw [Int.tmod_eq_emod_of_nonneg (by omega)]; omega
  have h3 : Int.tmod (n : Int) 3 = ((n % 3 : Nat) : Int) := by rw [Int.tmod_eq_emod_of_nonneg (by omega)]; omega
  unfold w_roomBehind rb
  rw [h6, h3]
  by_cases h : n % 6 = 5
  · rw [if_pos h, ct (by simp; omega)]; rfl
  · rw [if_neg h, cf (by simp; omega)]
    by_cases h' : n % 3 = 0
    · rw [if_pos h', ct (by simp; omega)]; rfl
    · rw [if_neg h', cf (by simp; omega)]
theorem rbw {n : Nat} (h : n ≤ 1000000) : IntKind.wrap .i64 ((n : Int) + (rb n : Int)) = ((n + rb n : Nat) : Int) := by
  have := rb_le n
  rw [wrap64 (by omega) (by omega)]; omega
theorem blt {i n : Nat} (h : i < n) : Nat.blt i n = true := by simp [Nat.blt_eq, h]
end Go.Proofs.YtchdegcfohegfaaE
