/- Plain lemmas on what the printed functions come to. -/
import Derived.Test.YtnndolcjljhhcaaFC
set_option maxRecDepth 100000
set_option linter.unusedVariables false
set_option linter.unusedSimpArgs false
namespace Go.Proofs.YtnndolcjljhhcaaE
/-! famsign -/
/-- Whether a family and its fineness are valid. -/
def faOk (p q : List Int) (f : Int) : Bool := smOk p && (smOk q && decide (0 ≤ f ∧ f ≤ 4))
/-- Whether a number may be asked for. -/
def xOk (N K : Int) : Bool := dOk N K && (decide (K ≤ 5) && decide (-134217728 ≤ v24 N K ∧ v24 N K ≤ 134217728))
theorem v24_8 : v24 8 0 = 134217728 := by decide
theorem v24_m8 : v24 (-8) 0 = -134217728 := by decide
theorem sign_le {n : Int} : Int.sign n ≤ 0 ↔ n ≤ 0 := by
  rcases Int.lt_trichotomy n 0 with h | h | h
  · rw [Int.sign_eq_neg_one_of_neg h]; omega
  · subst h; simp
  · rw [Int.sign_eq_one_of_pos h]; omega
theorem isFamily_v {p q : List Int} {f : Int} (hp : p.length ≤ 1000000) (hq : q.length ≤ 1000000) : i_isFamily p q f = some (faOk p q f) := by
  unfold i_isFamily faOk
  rw [bsome (isSmall_v (by omega))]
  cases smOk p with
  | false => rfl
  | true =>
    rw [ct rfl, bsome (isSmall_v (by omega))]
    cases smOk q with
    | false => rfl
    | true => rw [ct rfl, bret, inside_v]; rfl
theorem inRange_v {N K : Int} (h : dOk N K = true) : i_inRange N K = some (decide (-134217728 ≤ v24 N K ∧ v24 N K ≤ 134217728)) := by
  unfold i_inRange
  rw [bsome (compareD_v (by decide) h), v24_m8]
  by_cases h1 : -134217728 ≤ v24 N K
  · rw [ct (decide_eq_true (sign_le.2 (by omega))), bsome (compareD_v h (by decide)), v24_8]
    simp only [sign_le]
    congr 1
    simp [h1]; omega
  · rw [cf (decide_eq_false (by rw [sign_le]; omega))]; simp [h1]
theorem isFamilyNumber_v (N K : Int) : i_isFamilyNumber N K = some (xOk N K) := by
  unfold i_isFamilyNumber xOk
  rw [bsome (isDyadic_v ..)]
  cases h : dOk N K with
  | false => rfl
  | true =>
    by_cases h5 : K ≤ 5
    · rw [ct rfl, ct (decide_eq_true h5), bret, inRange_v h]; simp [h5]
    · rw [ct rfl, cf (decide_eq_false h5)]; simp [h5]
theorem isMoment_v {i : Int} {f : Nat} (hf : f ≤ 4) : i_isMoment i (f : Int) = some (decide (0 ≤ i ∧ i ≤ 2 ^ f)) := by
  unfold i_isMoment
  rw [ct (by simp), p2f hf, bret, inside_v]
theorem xOk_bnd {N K : Int} (h : xOk N K = true) : 0 ≤ K ∧ K ≤ 5 ∧ N.natAbs ≤ 256 := by
  unfold xOk at h
  simp only [Bool.and_eq_true, decide_eq_true_eq] at h
  obtain ⟨h1, h2, h3, h4⟩ := h
  have h5 := (dOk_iff.1 h1).1
  refine ⟨h5.1, h2, ?_⟩
  obtain ⟨k, rfl⟩ := Int.eq_ofNat_of_zero_le h5.1
  have hk : k ≤ 5 := by omega
  unfold v24 at h3 h4
  rw [Int.toNat_natCast] at h3 h4
  have hp : (524288 : Int) ≤ 2 ^ (24 - k) := by
    have : (2 : Int) ^ 19 ≤ 2 ^ (24 - k) := by exact_mod_cast Nat.pow_le_pow_right (by decide) (show 19 ≤ 24 - k by omega)
    exact this
  by_cases hn : 0 ≤ N
  · have := Int.mul_le_mul_of_nonneg_left hp hn
    omega
  · have := Int.mul_le_mul_of_nonpos_left (show N ≤ 0 by omega) hp
    omega
/-- The sign of the family at a number and a moment. -/
def fsg (p q : List Int) (N : Int) (K i f : Nat) : Int := Int.sign (hv N K (fam p q i f))
def fbo (p q : List Int) (N : Int) (K i k f : Nat) : Int := if fsg p q N K k f ≠ fsg p q N K i f then 0 else fsg p q N K i f
theorem signAt_fam {p q : List Int} {N : Int} {K i f : Nat} (hp : smOk p = true) (hq : smOk q = true) (hf : f ≤ 4) (hi : i ≤ 2 ^ f) (hN : N.natAbs ≤ 4294967295) (hK : K ≤ 24) : i_signAt (trim (fam p q i f)) N (K : Int) = some (fsg p q N K i f) := by
  obtain ⟨_, _, p3, _⟩ := smOk_bnd hp
  obtain ⟨_, _, q3, _⟩ := smOk_bnd hq
  have hb := fam_bnd p3 q3 hf hi
  obtain ⟨m, hm⟩ := trim_dec _ (fam p q i f) rfl
  have hl := trim_len (fam p q i f)
  have h6 : (fam p q i f).length = 6 := by unfold fam; rw [List.length_map, List.length_range]
  rw [signAt_v (by omega) (fun c hc => by
    have : c ∈ fam p q i f := by rw [hm]; exact List.mem_append_left _ hc
    have := hb c this
    omega) hN hK]
  unfold fsg
  conv => rhs; rw [hm]
  rw [hv_zeros]
theorem familySign_v {p q : List Int} {N : Int} {K i k f : Nat} (hp : smOk p = true) (hq : smOk q = true) (hf : f ≤ 4) (hi : i ≤ 2 ^ f) (hk : k ≤ 2 ^ f) (hN : N.natAbs ≤ 4294967295) (hK : K ≤ 24) : i_familySign p q N (K : Int) (i : Int) (k : Int) (f : Int) = some (fbo p q N K i k f) := by
  unfold i_familySign fbo
  rw [bsome (familyAt_v hp hq hf hi), bsome (signAt_fam hp hq hf hi hN hK), bsome (familyAt_v hp hq hf hk), bsome (signAt_fam hp hq hf hk hN hK)]
  by_cases h : fsg p q N K k f = fsg p q N K i f
  · rw [cf (by simp [h]), if_neg (by simp [h])]
  · rw [ct (by simp [h]), if_pos h]
/-! faboth -/
theorem faAsked_v {p q : List Int} {f : Int} (hp : p.length ≤ 1000000) (hq : q.length ≤ 1000000) : s_faAsked p q f = some (faOk p q f) := by
  unfold s_faAsked faOk
  rw [bsome (deGood_v (by omega))]
  cases smOk p with
  | false => rfl
  | true =>
    rw [ct rfl, bsome (deGood_v (by omega))]
    cases smOk q with
    | false => rfl
    | true => rw [ct rfl, bret, l1In_v]; rfl
theorem faSign_v {p q : List Int} {N : Int} {K i f : Nat} (hp : smOk p = true) (hq : smOk q = true) (hf : f ≤ 4) (hi : i ≤ 2 ^ f) (hN : N.natAbs ≤ 256) (hK : K ≤ 5) : s_faSign p q N (K : Int) (i : Int) (f : Int) = some (fsg p q N K i f) := by
  obtain ⟨_, _, p3, _⟩ := smOk_bnd hp
  obtain ⟨_, _, q3, _⟩ := smOk_bnd hq
  unfold s_faSign
  have h6 : (fam p q i f).length = 6 := by unfold fam; rw [List.length_map, List.length_range]
  rw [bsome (faAt_v hp hq hf hi), bret, sgSign_v (by omega) (fam_bnd p3 q3 hf hi) hN hK]
  rfl
theorem faBoth_v {p q : List Int} {N : Int} {K i k f : Nat} (hp : smOk p = true) (hq : smOk q = true) (hf : f ≤ 4) (hi : i ≤ 2 ^ f) (hk : k ≤ 2 ^ f) (hN : N.natAbs ≤ 256) (hK : K ≤ 5) : s_faBoth p q N (K : Int) (i : Int) (k : Int) (f : Int) = some (fbo p q N K i k f) := by
  unfold s_faBoth fbo
  rw [bsome (faSign_v hp hq hf hi hN hK), bsome (faSign_v hp hq hf hk hN hK)]
  by_cases h : fsg p q N K k f = fsg p q N K i f
  · rw [cf (by simp [h]), if_neg (by simp [h])]
  · rw [ct (by simp [h]), if_pos h]
/-! faX -/
theorem faX_v (N K : Int) : s_faX N K = some (xOk N K) := by
  unfold s_faX xOk
  rw [bsome (dyGood_v ..)]
  cases h : dOk N K with
  | false => rfl
  | true =>
    by_cases h5 : K ≤ 5
    · rw [ct rfl, ct (decide_eq_true h5), bsome (dyCmp_v (by decide) h), v24_m8]
      by_cases h1 : -134217728 ≤ v24 N K
      · rw [ct (decide_eq_true (sign_le.2 (by omega))), bsome (dyCmp_v h (by decide)), v24_8]
        simp only [sign_le]
        congr 1
        simp [h1, h5]; omega
      · rw [cf (decide_eq_false (by rw [sign_le]; omega))]; simp [h1]
    · rw [ct rfl, cf (decide_eq_false h5)]; simp [h5]
/-! mainFamilySign -/
theorem main_FnExactFamilySign {p q : List Int} {x : Int × Int} {i k f : Int} (hp : p.length ≤ 1000000) (hq : q.length ≤ 1000000) (_ : okD (.pair (.int .i64) (.int .i64)) x) (_ : okD (.int .i64) i) (_ : okD (.int .i64) k) (_ : okD (.int .i64) f) : ∃ w, s_FamilySign p q x.1 x.2 i k f = some w ∧ i_FamilySign p q x.1 x.2 i k f = some w := by
  obtain ⟨N, K⟩ := x
  unfold s_FamilySign i_FamilySign s_faMoment
  simp only
  rw [bsome (isFamily_v hp hq), bsome (faAsked_v hp hq)]
  by_cases hF : faOk p q f = true
  rotate_left
  · have hF := Bool.eq_false_iff.2 hF
    rw [hF]; exact ⟨_, rfl, rfl⟩
  have hF' := hF
  unfold faOk at hF'
  simp only [Bool.and_eq_true, decide_eq_true_eq] at hF'
  obtain ⟨h1, h2, h3, h4⟩ := hF'
  obtain ⟨f, rfl⟩ := Int.eq_ofNat_of_zero_le h3
  have hf : f ≤ 4 := by omega
  have hdy : s_dyPower (f : Int) = some (2 ^ f) := dyPower_v h3 (by omega)
  rw [hF, ct rfl, cnt, bsome hdy, bret, bsome (l1In_v ..), bsome (isFamilyNumber_v ..)]
  by_cases hi : 0 ≤ i ∧ i ≤ 2 ^ f
  rotate_left
  · rw [ct (by simp; omega)]
    cases xOk N K with
    | false => exact ⟨_, rfl, rfl⟩
    | true => rw [cnt, bsome (isMoment_v hf), ct (by simp; omega)]; exact ⟨_, rfl, rfl⟩
  rw [cf (by simp; omega), bsome (faAsked_v hp hq), hF, ct rfl, bsome hdy, bret, bsome (l1In_v ..)]
  by_cases hk : 0 ≤ k ∧ k ≤ 2 ^ f
  rotate_left
  · rw [ct (by simp; omega)]
    cases xOk N K with
    | false => exact ⟨_, rfl, rfl⟩
    | true => rw [cnt, bsome (isMoment_v hf), cf (by simp; omega), bsome (isMoment_v hf), ct (by simp; omega)]; exact ⟨_, rfl, rfl⟩
  rw [cf (by simp; omega), bsome (faX_v ..)]
  cases hx : xOk N K with
  | false => exact ⟨_, rfl, rfl⟩
  | true =>
    obtain ⟨x1, x2, x3⟩ := xOk_bnd hx
    obtain ⟨K, rfl⟩ := Int.eq_ofNat_of_zero_le x1
    obtain ⟨i, rfl⟩ := Int.eq_ofNat_of_zero_le hi.1
    obtain ⟨k, rfl⟩ := Int.eq_ofNat_of_zero_le hk.1
    have hi' : i ≤ 2 ^ f := by have := hi.2; exact_mod_cast this
    have hk' : k ≤ 2 ^ f := by have := hk.2; exact_mod_cast this
    rw [cnt, cnt, bsome (isMoment_v hf), cf (by simp; omega), bsome (isMoment_v hf), cf (by simp; omega)]
    exact ⟨_, bsome (faBoth_v h1 h2 hf hi' hk' x3 (by omega)), bsome (familySign_v h1 h2 hf hi' hk' (by omega) (by omega))⟩
/-! scaf -/
def rb (n : Nat) : Nat := if n % 6 = 5 then 0 else if n % 3 = 0 then 1 else n
theorem rb_le (n : Nat) : rb n ≤ n + 1 := by unfold rb; split <;> (try split) <;> omega
theorem walk_loop {f : Int → Option Bool} {n : Nat} {r : Option Bool} (h : ∀ i : Nat, i < n → f i = f ((i + 1 : Nat) : Int)) (h' : f n = r) : f 0 = r := by
  have main : ∀ m i : Nat, i + m = n → f i = r := by
    intro m
    induction m with
    | zero => intro i hi; rw [show i = n by omega, h']
    | succ m ih => intro i hi; rw [h i (by omega), ih (i + 1) (by omega)]
  exact main n 0 (by omega)
theorem to_loop {A V : Type} {a : List A} {f5 f9 : List V → Int → Option (List V × Nat)} {fill d : V} {fgE : V → A} {Q : V → Prop} {R : Nat}
    (h5 : ∀ (outs : List V) (i : Nat) (hi : i < a.length), outs.length = a.length + R → ∃ v, fgE v = a[i] ∧ Q v ∧ f5 outs i = f5 (outs.set i v) ((i + 1 : Nat) : Int))
    (h5' : ∀ outs, f5 outs a.length = f9 outs a.length)
    (h9 : ∀ (outs : List V) (i : Nat), i < outs.length → outs.length = a.length + R → f9 outs i = f9 (outs.set i fill) ((i + 1 : Nat) : Int))
    (h9' : ∀ outs : List V, outs.length = a.length + R → f9 outs outs.length = some (outs, a.length)) :
    ∃ P : List V, P.length = a.length ∧ P.map fgE = a ∧ (∀ v ∈ P, Q v) ∧ f5 (List.replicate (a.length + R) d) 0 = some (P ++ List.replicate R fill, a.length) := by
  have second : ∀ (P : List V) (m j : Nat), P.length = a.length → j + m = R → f9 (P ++ (List.replicate j fill ++ List.replicate m d)) ((a.length + j : Nat) : Int) = some (P ++ List.replicate R fill, a.length) := by
    intro P m
    induction m with
    | zero =>
      intro j hP hj
      obtain rfl : j = R := by omega
      have := h9' (P ++ (List.replicate j fill ++ List.replicate 0 d)) (by simp [hP])
      simp only [List.replicate_zero, List.append_nil] at this ⊢
      rw [← this]
      simp [hP]
    | succ m ih =>
      intro j hP hj
      rw [h9 _ _ (by simp; omega) (by simp [hP]; omega)]
      have e : (P ++ (List.replicate j fill ++ List.replicate (m + 1) d)).set (a.length + j) fill = P ++ (List.replicate (j + 1) fill ++ List.replicate m d) := by
        rw [List.set_append_right _ _ (by omega), List.set_append_right _ _ (by simp; omega), List.replicate_succ, List.length_replicate, show a.length + j - P.length - j = 0 by omega, List.set_cons_zero, List.replicate_succ']
        simp
      rw [e]
      exact ih (j + 1) hP (by omega)
  have first : ∀ (m : Nat) (P : List V), P.length + m = a.length → P.map fgE = a.take P.length → (∀ v ∈ P, Q v) →
      ∃ P' : List V, P'.length = a.length ∧ P'.map fgE = a ∧ (∀ v ∈ P', Q v) ∧ f5 (P ++ List.replicate (m + R) d) (P.length : Int) = some (P' ++ List.replicate R fill, a.length) := by
    intro m
    induction m with
    | zero =>
      intro P hP hm hQ
      refine ⟨P, by omega, by rw [hm, List.take_of_length_le (by omega)], hQ, ?_⟩
      rw [show P.length = a.length by omega, h5']
      have := second P R 0 (by omega) (by omega)
      rw [← this]
      simp
    | succ m ih =>
      intro P hP hm hQ
      obtain ⟨v, g1, g2, g3⟩ := h5 (P ++ List.replicate (m + 1 + R) d) P.length (by omega) (by simp; omega)
      obtain ⟨P', q1, q2, q3, q4⟩ := ih (P ++ [v]) (by simp; omega) (by rw [List.map_append, hm, List.length_append, List.length_singleton, List.take_succ_eq_append_getElem (show P.length < a.length by omega)]; simp [g1]) (fun u hu => by
        rcases List.mem_append.1 hu with h | h
        · exact hQ u h
        · rw [List.mem_singleton.1 h]; exact g2)
      refine ⟨P', q1, q2, q3, ?_⟩
      rw [g3, ← q4]
      have e : (P ++ List.replicate (m + 1 + R) d).set P.length v = P ++ [v] ++ List.replicate (m + R) d := by
        rw [List.set_append_right _ _ (by omega), Nat.sub_self, show m + 1 + R = m + R + 1 by omega, List.replicate_succ, List.set_cons_zero]
        simp
      rw [e, List.length_append, List.length_singleton]
  have := first a.length [] (by simp) (by simp) (by simp)
  simpa using this
theorem roomBehind_v (n : Nat) : w_roomBehind (n : Int) = some (rb n : Int) := by
  have h6 : Int.tmod (n : Int) 6 = ((n % 6 : Nat) : Int) := by rw [Int.tmod_eq_emod_of_nonneg (by omega)]; omega
  have h3 : Int.tmod (n : Int) 3 = ((n % 3 : Nat) : Int) := by rw [Int.tmod_eq_emod_of_nonneg (by omega)]; omega
  unfold w_roomBehind rb
  rw [h6, h3]
  by_cases h : n % 6 = 5
  · rw [if_pos h, ct (by simp; omega)]; rfl
  · rw [if_neg h, cf (by simp; omega)]
    by_cases h' : n % 3 = 0
    · rw [if_pos h', ct (by simp; omega)]; rfl
    · rw [if_neg h', cf (by simp; omega)]
theorem rbw {n : Nat} (h : n ≤ 1000000) : IntKind.wrap .i64 ((n : Int) + (rb n : Int)) = ((n + rb n : Nat) : Int) := by
  have := rb_le n
  rw [wrap64 (by omega) (by omega)]; omega
theorem blt {i n : Nat} (h : i < n) : Nat.blt i n = true := by simp [Nat.blt_eq, h]
end Go.Proofs.YtnndolcjljhhcaaE
