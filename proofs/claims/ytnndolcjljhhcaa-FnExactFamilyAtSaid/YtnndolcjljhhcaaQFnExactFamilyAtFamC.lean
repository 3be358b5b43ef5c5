/- The coefficients of a member of a family. -/
import Derived.Test.YtnndolcjljhhcaaQFnExactFamilyAtFamB
namespace Go.Proofs.Ytnndolcjljhhcaa.Pure
open Go.RowKit Go.Proofs.YtnndolcjljhhcaaX Go.Proofs.Ytnndolcjljhhcaa.PFnExactFamilyAt Go.Proofs.YtnndolcjljhhcaaW.PrintWords Go.Proofs.YtnndolcjljhhcaaW.PrintLast Go.Proofs.YtnndolcjljhhcaaW.PrintMore
theorem faAt_l1 (q : List Int) (hq : small q) (t : Int) (ht : 0 ≤ t ∧ t ≤ 16) : ∀ (m i : Nat) (R : List Int), i + m = q.length → R.length = 6 → (∀ j, i ≤ j → -20000 ≤ R.getD j 0 ∧ R.getD j 0 ≤ 20000) → ∃ R', Ev (fun k => spec_faAt.l1 k t R q (q.length : Int) i) R' ∧ R'.length = 6 ∧ ∀ j, R'.getD j 0 = R.getD j 0 + if i ≤ j then q.getD j 0 * t else 0 := by
  intro m
  induction m with
  | zero =>
    intro i R hi hR hb
    refine ⟨R, Ev.step (fun k => spec_faAt.l1.eq_2 t R q _ _ k) (ev_ite_neg (by omega) (Ev.now _)), hR, fun j => ?_⟩
    split
    · rw [getD_ge q j (by omega)]; omega
    · omega
  | succ m ih =>
    intro i R hi hR hb
    have hlt : i < q.length := by omega
    have h6 := hq.1
    have hm := mul_small (small_get hq i) ht
    have hs : ∀ j, (R.set i (R.getD i 0 + q.getD i 0 * t)).getD j 0 = if j = i then R.getD i 0 + q.getD i 0 * t else R.getD j 0 := fun j => getD_set R i j _ (by omega)
    obtain ⟨R', h1, h2, h3⟩ := ih (i + 1) (R.set i (R.getD i 0 + q.getD i 0 * t)) (by omega) (by simpa using hR) (fun j hj => by rw [hs, if_neg (by omega)]; exact hb j (by omega))
    refine ⟨R', Ev.step (fun k => spec_faAt.l1.eq_2 t R q _ _ k) (ev_ite_pos (by omega) (ev_ite_pos (by omega) (ev_ite_pos (by omega) (ev_ite_pos (by omega) ?_)))), h2, fun j => ?_⟩
    · have hRi := hb i (by omega)
      rw [rdD, rdD, w64 (x := (i : Int) + 1) (by omega) (by omega), w64 (x := q.getD i 0 * t) (by omega) (by omega), w64 (x := R.getD i 0 + q.getD i 0 * t) (by omega) (by omega), Int.toNat_natCast]
      exact h1
    · rw [h3, hs]
      by_cases e : j = i
      · subst e; rw [if_pos rfl, if_neg (by omega), if_pos (by omega)]; omega
      · rw [if_neg e]
        by_cases h : i ≤ j
        · rw [if_pos h, if_pos (by omega)]
        · rw [if_neg h, if_neg (by omega)]
theorem faAt_l0 (p q : List Int) (hp : small p) (hq : small q) (d t u : Int) (hd : spec_dyPower.f d = some t) (ht : 0 ≤ t ∧ t ≤ 16) (hu : 0 ≤ u ∧ u ≤ 16) : ∀ (m i : Nat) (R : List Int), i + m = p.length → R.length = 6 → (∀ j, -16000 ≤ R.getD j 0 ∧ R.getD j 0 ≤ 16000) → (∀ j, i ≤ j → R.getD j 0 = 0) → ∃ R', Ev (fun k => spec_faAt.l0 k q u d R p (p.length : Int) i) R' ∧ R'.length = 6 ∧ ∀ j, R'.getD j 0 = (R.getD j 0 + if i ≤ j then p.getD j 0 * t else 0) + q.getD j 0 * u := by
  intro m
  induction m with
  | zero =>
    intro i R hi hR hb _
    obtain ⟨R', h1, h2, h3⟩ := faAt_l1 q hq u hu q.length 0 R (by omega) hR (fun j _ => by have := hb j; omega)
    refine ⟨R', Ev.step (fun k => spec_faAt.l0.eq_2 q u d R p _ _ k) (ev_ite_neg (by omega) h1), h2, fun j => ?_⟩
    rw [h3, if_pos (by omega)]
    split
    · rw [getD_ge p j (by omega)]; omega
    · omega
  | succ m ih =>
    intro i R hi hR hb hz
    have hlt : i < p.length := by omega
    have h6 := hp.1
    have hm := mul_small (small_get hp i) ht
    have hs : ∀ j, (R.set i (R.getD i 0 + p.getD i 0 * t)).getD j 0 = if j = i then R.getD i 0 + p.getD i 0 * t else R.getD j 0 := fun j => getD_set R i j _ (by omega)
    have hz0 := hz i (by omega)
    obtain ⟨R', h1, h2, h3⟩ := ih (i + 1) (R.set i (R.getD i 0 + p.getD i 0 * t)) (by omega) (by simpa using hR) (fun j => by
      rw [hs]; split
      · omega
      · exact hb j) (fun j hj => by rw [hs, if_neg (by omega)]; exact hz j (by omega))
    refine ⟨R', Ev.step (fun k => spec_faAt.l0.eq_2 q u d R p _ _ k) (ev_ite_pos (by omega) (ev_ite_pos (by omega) (ev_ite_pos (by omega) (ev_ite_pos (by omega) ?_)))), h2, fun j => ?_⟩
    · rw [hd]
      refine ev_some ?_
      rw [rdD, rdD, w64 (x := (i : Int) + 1) (by omega) (by omega), w64 (x := p.getD i 0 * t) (by omega) (by omega), w64 (x := R.getD i 0 + p.getD i 0 * t) (by omega) (by omega), Int.toNat_natCast]
      exact h1
    · rw [h3, hs]
      by_cases e : j = i
      · subst e; rw [if_pos rfl, if_neg (by omega), if_pos (by omega)]; omega
      · rw [if_neg e]
        by_cases h : i ≤ j
        · rw [if_pos h, if_pos (by omega)]
        · rw [if_neg h, if_neg (by omega)]
theorem getD_rep (n j : Nat) : (List.replicate n (0 : Int)).getD j 0 = 0 := by
  rw [List.getD_eq_getElem?_getD, List.getElem?_replicate]
  split <;> rfl
theorem faAt_ev (p q : List Int) (hp : small p) (hq : small q) (d t u : Int) (hd : spec_dyPower.f d = some t) (ht : 0 ≤ t ∧ t ≤ 16) (hu : 0 ≤ u ∧ u ≤ 16) : ∃ R', Ev (fun k => spec_faAt.f k p q u d) R' ∧ R'.length = 6 ∧ ∀ j, R'.getD j 0 = p.getD j 0 * t + q.getD j 0 * u := by
  obtain ⟨R', h1, h2, h3⟩ := faAt_l0 p q hp hq d t u hd ht hu p.length 0 (List.replicate 6 0) (by omega) (by simp) (fun j => by rw [getD_rep]; omega) (fun j _ => getD_rep 6 j)
  refine ⟨R', ?_, h2, fun j => by rw [h3, getD_rep, if_pos (by omega)]; omega⟩
  unfold spec_faAt.f
  exact ev_ite_pos (by omega) h1

/-! ### The program's product with a number, and its sum -/
theorem mult_l0 (p : List Int) (hp : small p) (t : Int) (ht : 0 ≤ t ∧ t ≤ 16) : ∀ (m i : Nat) (R : List Int), i + m = p.length → R.length = p.length + 1 → (∀ j, i ≤ j → R.getD j 0 = 0) → ∃ R', Ev (fun k => impl_multiplySingle.l0 k [t] R p (p.length : Int) i) (strip R') ∧ R'.length = p.length + 1 ∧ ∀ j, R'.getD j 0 = R.getD j 0 + if i ≤ j then p.getD j 0 * t else 0 := by
  intro m
  induction m with
  | zero =>
    intro i R hi hR hz
    have h6 := hp.1
    refine ⟨R, Ev.step (fun k => impl_multiplySingle.l0.eq_2 [t] R p _ _ k) (ev_ite_neg (by omega) (ev_bind (f := fun _ t => some t) (stripped_l0 _ R rfl (by omega)) (Ev.now _))), hR, fun j => ?_⟩
    split
    · rw [getD_ge p j (by omega)]; omega
    · omega
  | succ m ih =>
    intro i R hi hR hz
    have hlt : i < p.length := by omega
    have h6 := hp.1
    have hm := mul_small (small_get hp i) ht
    have hz0 := hz i (by omega)
    have hs : ∀ j, (R.set i (R.getD i 0 + t * p.getD i 0)).getD j 0 = if j = i then R.getD i 0 + t * p.getD i 0 else R.getD j 0 := fun j => getD_set R i j _ (by omega)
    rw [Int.mul_comm t] at hs
    obtain ⟨R', h1, h2, h3⟩ := ih (i + 1) (R.set i (R.getD i 0 + p.getD i 0 * t)) (by omega) (by simpa using hR) (fun j hj => by rw [hs, if_neg (by omega)]; exact hz j (by omega))
    refine ⟨R', ?_, h2, fun j => ?_⟩
    · refine Ev.step (fun k => impl_multiplySingle.l0.eq_2 [t] R p _ _ k) (ev_ite_pos (by omega) (ev_ite_pos (by omega) (ev_ite_pos (by omega) ?_)))
      rw [rdD]
      refine Ev.step (fun k => impl_multiplySingle.l1.eq_2 [t] R _ _ p _ _ [t] _ _ k) ?_
      have e1 : wrap64 ((i : Int) + 0) = (i : Int) := by rw [w64 (by omega) (by omega)]; omega
      have e2 : rd [t] 0 = t := rfl
      rw [e1, e2, rdD, w64 (x := p.getD i 0 * t) (by omega) (by omega), w64 (x := R.getD i 0 + p.getD i 0 * t) (by omega) (by omega), Int.toNat_natCast]
      refine ev_ite_pos (by simp) (ev_ite_pos (by omega) (ev_ite_pos (by simp) (ev_ite_pos (by omega) (ev_ite_pos (by omega) ?_))))
      refine Ev.step (fun k => impl_multiplySingle.l1.eq_2 [t] _ _ _ p _ _ [t] _ _ k) (ev_ite_neg (by rw [w64 (by omega) (by omega)]; simp) ?_)
      rw [w64 (x := (i : Int) + 1) (by omega) (by omega)]
      exact h1
    · rw [h3, hs]
      by_cases e : j = i
      · subst e; rw [if_pos rfl, if_neg (by omega), if_pos (by omega)]; omega
      · rw [if_neg e]
        by_cases h : i ≤ j
        · rw [if_pos h, if_pos (by omega)]
        · rw [if_neg h, if_neg (by omega)]
theorem mult_ev (p : List Int) (hp : small p) (t : Int) (ht : 0 ≤ t ∧ t ≤ 16) : ∃ R, Ev (fun k => impl_multiplySingle.f k p [t]) R ∧ R.length ≤ 7 ∧ ∀ j, R.getD j 0 = p.getD j 0 * t := by
  have h6 := hp.1
  have e : wrap64 ((p.length : Int) + (([t] : List Int).length : Int)) = ((p.length + 1 : Nat) : Int) := by
    rw [show (([t] : List Int).length : Int) = 1 from rfl, w64 (by omega) (by omega)]
    omega
  obtain ⟨R', h1, h2, h3⟩ := mult_l0 p hp t ht p.length 0 (List.replicate (p.length + 1) 0) (by omega) (by simp) (fun j _ => getD_rep _ j)
  refine ⟨strip R', ?_, by have := strip_le R'; omega, fun j => by rw [strip_get, h3, getD_rep, if_pos (by omega)]; omega⟩
  unfold impl_multiplySingle.f
  rw [e, Int.toNat_natCast]
  exact ev_ite_pos (by omega) (ev_ite_pos (by omega) h1)
theorem add_l0 (a b : List Int) (ha : ∀ j, -16000 ≤ a.getD j 0 ∧ a.getD j 0 ≤ 16000) (hb : ∀ j, -16000 ≤ b.getD j 0 ∧ b.getD j 0 ≤ 16000) (n : Nat) (hn : n ≤ 7) (hna : a.length ≤ n) (hnb : b.length ≤ n) : ∀ (m i : Nat) (R : List Int), i + m = n → R.length = n → (∀ j, i ≤ j → R.getD j 0 = 0) → ∃ R', Ev (fun k => impl_addSingle.l0 k a b R (n : Int) i) (strip R') ∧ R'.length = n ∧ ∀ j, R'.getD j 0 = R.getD j 0 + if i ≤ j then a.getD j 0 + b.getD j 0 else 0 := by
  intro m
  induction m with
  | zero =>
    intro i R hi hR hz
    refine ⟨R, Ev.step (fun k => impl_addSingle.l0.eq_2 a b R _ _ k) (ev_ite_neg (by omega) (ev_bind (f := fun _ t => some t) (stripped_l0 _ R rfl (by omega)) (Ev.now _))), hR, fun j => ?_⟩
    split
    · rw [getD_ge a j (by omega), getD_ge b j (by omega)]; omega
    · omega
  | succ m ih =>
    intro i R hi hR hz
    have hai := ha i
    have hbi := hb i
    have hz0 := hz i (by omega)
    have hs : ∀ j, (R.set i (a.getD i 0 + b.getD i 0)).getD j 0 = if j = i then a.getD i 0 + b.getD i 0 else R.getD j 0 := fun j => getD_set R i j _ (by omega)
    obtain ⟨R', h1, h2, h3⟩ := ih (i + 1) (R.set i (a.getD i 0 + b.getD i 0)) (by omega) (by simpa using hR) (fun j hj => by rw [hs, if_neg (by omega)]; exact hz j (by omega))
    refine ⟨R', ?_, h2, fun j => ?_⟩
    · refine Ev.step (fun k => impl_addSingle.l0.eq_2 a b R _ _ k) (ev_ite_pos (by omega) ?_)
      rw [rdD, rdD, rdD, w64 (x := (i : Int) + 1) (by omega) (by omega), hz0, w64 (x := 0 + a.getD i 0) (by omega) (by omega), w64 (x := 0 + b.getD i 0) (by omega) (by omega), Int.toNat_natCast, Int.zero_add, Int.zero_add]
      by_cases h1a : i < a.length
      · refine ev_ite_pos (by omega) (ev_ite_pos (by omega) (ev_ite_pos (by omega) (ev_some ?_)))
        rw [rdD, getD_set R i i _ (by omega), if_pos rfl, w64 (x := a.getD i 0 + b.getD i 0) (by omega) (by omega)]
        by_cases h1b : i < b.length
        · refine ev_ite_pos (by omega) ?_
          rw [List.set_set]
          exact h1
        · refine ev_ite_neg (by omega) ?_
          rw [getD_ge b i (by omega), Int.add_zero] at h1
          exact h1
      · refine ev_ite_neg (by omega) ?_
        by_cases h1b : i < b.length
        · refine ev_ite_pos (by omega) (ev_ite_pos (by omega) (ev_ite_pos (by omega) ?_))
          rw [getD_ge a i (by omega), Int.zero_add] at h1
          exact h1
        · refine ev_ite_neg (by omega) ?_
          have e : R.set i (a.getD i 0 + b.getD i 0) = R := by
            rw [getD_ge a i (by omega), getD_ge b i (by omega)]
            have hlt : i < R.length := by omega
            rw [getD_lt R i hlt] at hz0
            have := List.set_getElem_self hlt
            rw [hz0] at this
            exact this
          rw [e] at h1
          exact h1
    · rw [h3, hs]
      by_cases e : j = i
      · subst e; rw [if_pos rfl, if_neg (by omega), if_pos (by omega)]; omega
      · rw [if_neg e]
        by_cases h : i ≤ j
        · rw [if_pos h, if_pos (by omega)]
        · rw [if_neg h, if_neg (by omega)]
theorem add_ev (a b : List Int) (ha : ∀ j, -16000 ≤ a.getD j 0 ∧ a.getD j 0 ≤ 16000) (hb : ∀ j, -16000 ≤ b.getD j 0 ∧ b.getD j 0 ≤ 16000) (hna : a.length ≤ 7) (hnb : b.length ≤ 7) : ∃ R', Ev (fun k => impl_addSingle.f k a b) (strip R') ∧ ∀ j, R'.getD j 0 = a.getD j 0 + b.getD j 0 := by
  obtain ⟨n, hn, h7, h8, h9⟩ : ∃ n : Nat, mx (a.length : Int) (b.length : Int) = (n : Int) ∧ n ≤ 7 ∧ a.length ≤ n ∧ b.length ≤ n := by
    unfold mx
    split
    · exact ⟨b.length, rfl, by omega, by omega, by omega⟩
    · exact ⟨a.length, rfl, by omega, by omega, by omega⟩
  obtain ⟨R', h1, h2, h3⟩ := add_l0 a b ha hb n h7 h8 h9 n 0 (List.replicate n 0) (by omega) (by simp) (fun j _ => getD_rep _ j)
  refine ⟨R', ?_, fun j => by rw [h3, getD_rep, if_pos (by omega)]; omega⟩
  unfold impl_addSingle.f
  rw [hn, Int.toNat_natCast]
  refine ev_ite_pos (by omega) (ev_ite_pos (by omega) (ev_some ?_))
  rw [List.length_replicate]
  exact h1

end Go.Proofs.Ytnndolcjljhhcaa.Pure
