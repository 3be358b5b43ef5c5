/- Plain lemmas on what the printed functions come to. -/
import Derived.Test.YtbaeikcfchiiaaaWF
set_option maxRecDepth 100000
set_option linter.unusedVariables false
set_option linter.unusedSimpArgs false
namespace Go.Proofs.YtbaeikcfchiiaaaE
/-! famsgn -/
/-- The sign of the family at a number and a moment. -/
def fsg (p q : List Int) (N : Int) (K i f : Nat) : Int := Int.sign (hv N K (fam p q i f))
def fbo (p q : List Int) (N : Int) (K i k f : Nat) : Int := if fsg p q N K k f ≠ fsg p q N K i f then 0 else fsg p q N K i f
theorem signAt_fam {p q : List Int} {N : Int} {K i f : Nat} (hp : smOk p = true) (hq : smOk q = true) (hf : f ≤ 4) (hi : i ≤ 2 ^ f) (hN : N.natAbs ≤ 4294967295) (hK : K ≤ 24) : i_signAt (trim (fam p q i f)) N (K : Int) = some (fsg p q N K i f) := by
  obtain ⟨_, _, p3, _⟩ := smOk_bnd hp
  obtain ⟨_, _, q3, _⟩ := smOk_bnd hq
  have hb := fam_bnd p3 q3 hf hi
  obtain ⟨m, hm⟩ := trim_dec _ (fam p q i f) rfl
  have hl := trim_len (fam p q i f)
  have h6 : (fam p q i f).length = 6 := by unfold fam; rw [List.length_map, List.length_range]
  rw [signAt_v (by omega) (fun c hc => by
    have : c ∈ fam p q i f := by rw [hm]; exact List.mem_append_left _ hc
    have := hb c this
    omega) hN hK]
  unfold fsg
  conv => rhs; rw [hm]
  rw [hv_zeros]
theorem familySign_v {p q : List Int} {N : Int} {K i k f : Nat} (hp : smOk p = true) (hq : smOk q = true) (hf : f ≤ 4) (hi : i ≤ 2 ^ f) (hk : k ≤ 2 ^ f) (hN : N.natAbs ≤ 4294967295) (hK : K ≤ 24) : i_familySign p q N (K : Int) (i : Int) (k : Int) (f : Int) = some (fbo p q N K i k f) := by
  unfold i_familySign fbo
  rw [bsome (familyAt_v hp hq hf hi), bsome (signAt_fam hp hq hf hi hN hK), bsome (familyAt_v hp hq hf hk), bsome (signAt_fam hp hq hf hk hN hK)]
  by_cases h : fsg p q N K k f = fsg p q N K i f
  · rw [cf (by simp [h]), if_neg (by simp [h])]
  · rw [ct (by simp [h]), if_pos h]
/-! faboth -/
theorem faSign_v {p q : List Int} {N : Int} {K i f : Nat} (hp : smOk p = true) (hq : smOk q = true) (hf : f ≤ 4) (hi : i ≤ 2 ^ f) (hN : N.natAbs ≤ 256) (hK : K ≤ 5) : s_faSign p q N (K : Int) (i : Int) (f : Int) = some (fsg p q N K i f) := by
  obtain ⟨_, _, p3, _⟩ := smOk_bnd hp
  obtain ⟨_, _, q3, _⟩ := smOk_bnd hq
  unfold s_faSign
  have h6 : (fam p q i f).length = 6 := by unfold fam; rw [List.length_map, List.length_range]
  rw [bsome (faAt_v hp hq hf hi), bret, sgSign_v (by omega) (fam_bnd p3 q3 hf hi) hN hK]
  rfl
theorem faBoth_v {p q : List Int} {N : Int} {K i k f : Nat} (hp : smOk p = true) (hq : smOk q = true) (hf : f ≤ 4) (hi : i ≤ 2 ^ f) (hk : k ≤ 2 ^ f) (hN : N.natAbs ≤ 256) (hK : K ≤ 5) : s_faBoth p q N (K : Int) (i : Int) (k : Int) (f : Int) = some (fbo p q N K i k f) := by
  unfold s_faBoth fbo
  rw [bsome (faSign_v hp hq hf hi hN hK), bsome (faSign_v hp hq hf hk hN hK)]
  by_cases h : fsg p q N K k f = fsg p q N K i f
  · rw [cf (by simp [h]), if_neg (by simp [h])]
  · rw [ct (by simp [h]), if_pos h]
/-! grls -/
/-- The greater and the lesser of two numbers. -/
def gt2 (a b : Int × Int) : Int × Int := bif decide (v24 a.1 a.2 < v24 b.1 b.2) then b else a
def ls2 (a b : Int × Int) : Int × Int := bif decide (v24 b.1 b.2 < v24 a.1 a.2) then b else a
theorem sign_pos {n : Int} : 0 < Int.sign n ↔ 0 < n := by
  rcases Int.lt_trichotomy n 0 with h | h | h
  · rw [Int.sign_eq_neg_one_of_neg h]; omega
  · subst h; simp
  · rw [Int.sign_eq_one_of_pos h]; omega
theorem greater_v {a b : Int × Int} (ha : dOk a.1 a.2 = true) (hb : dOk b.1 b.2 = true) : i_greater a.1 a.2 b.1 b.2 = some (gt2 a b) := by
  unfold i_greater gt2
  rw [bsome (compareD_v hb ha)]
  by_cases h : v24 a.1 a.2 < v24 b.1 b.2
  · rw [ct (decide_eq_true (sign_pos.2 (by omega))), ct (decide_eq_true h)]
  · rw [cf (decide_eq_false (by rw [sign_pos]; omega)), cf (decide_eq_false h)]
theorem lesser_v {a b : Int × Int} (ha : dOk a.1 a.2 = true) (hb : dOk b.1 b.2 = true) : i_lesser a.1 a.2 b.1 b.2 = some (ls2 a b) := by
  unfold i_lesser ls2
  rw [bsome (compareD_v hb ha)]
  by_cases h : v24 b.1 b.2 < v24 a.1 a.2
  · rw [ct (decide_eq_true (sign_lt.2 (by omega))), ct (decide_eq_true h)]
  · rw [cf (decide_eq_false (by rw [sign_lt]; omega)), cf (decide_eq_false h)]
theorem gt2_ok {a b : Int × Int} (ha : dOk a.1 a.2 = true) (hb : dOk b.1 b.2 = true) : dOk (gt2 a b).1 (gt2 a b).2 = true := by
  unfold gt2; cases decide (v24 a.1 a.2 < v24 b.1 b.2) <;> assumption
theorem ls2_ok {a b : Int × Int} (ha : dOk a.1 a.2 = true) (hb : dOk b.1 b.2 = true) : dOk (ls2 a b).1 (ls2 a b).2 = true := by
  unfold ls2; cases decide (v24 b.1 b.2 < v24 a.1 a.2) <;> assumption
abbrev Iv := (Int × Int) × (Int × Int)
def ivOk (x : Iv) : Prop := dOk x.1.1 x.1.2 = true ∧ dOk x.2.1 x.2.2 = true
/-! oki -/
theorem okI {n : Int} (h : okD (.int .i64) n) : -9223372036854775808 ≤ n ∧ n ≤ 9223372036854775807 := by
  have h : (Lit.int .i64 n).wf = true := h
  simp [Lit.wf, IntKind.min, IntKind.max, IntKind.signed, IntKind.bits] at h
  exact h
/-! stepholds -/
theorem fsg_bnd {p q : List Int} {N : Int} {K i f : Nat} : fsg p q N K i f = -1 ∨ fsg p q N K i f = 0 ∨ fsg p q N K i f = 1 := by
  unfold fsg
  rcases Int.lt_trichotomy (hv N K (fam p q i f)) 0 with h | h | h
  · exact Or.inl (Int.sign_eq_neg_one_of_neg h)
  · rw [h]; exact Or.inr (Or.inl rfl)
  · exact Or.inr (Or.inr (Int.sign_eq_one_of_pos h))
theorem fbo_bnd {p q : List Int} {N : Int} {K i k f : Nat} : fbo p q N K i k f = -1 ∨ fbo p q N K i k f = 0 ∨ fbo p q N K i k f = 1 := by
  unfold fbo
  split
  · exact Or.inr (Or.inl rfl)
  · exact fsg_bnd
/-- Whether a step holds. -/
def hol (p q : List Int) (N : Int) (K : Nat) (M : Int) (L i f : Nat) : Bool := decide (fbo p q N K i (i + 1) f * fbo p q M L i (i + 1) f < 0) && !decide (slp p q (N * 2 ^ (max K L - K)) (M * 2 ^ (max K L - L)) (2 ^ max K L) i f = 0)
theorem fbo_prod {p q : List Int} {N M : Int} {K L i f : Nat} : IntKind.wrap .i64 (fbo p q N K i (i + 1) f * fbo p q M L i (i + 1) f) = fbo p q N K i (i + 1) f * fbo p q M L i (i + 1) f := by
  rcases fbo_bnd (p := p) (q := q) (N := N) (K := K) (i := i) (k := i + 1) (f := f) with h | h | h <;> rcases fbo_bnd (p := p) (q := q) (N := M) (K := L) (i := i) (k := i + 1) (f := f) with g | g | g <;> rw [h, g] <;> decide
theorem faHolds_v {p q : List Int} {N M : Int} {K L i f : Nat} (hp : smOk p = true) (hq : smOk q = true) (hf : f ≤ 4) (hi : i + 1 ≤ 2 ^ f) (F : Fit N K M L) :
    s_faHolds p q N (K : Int) M (L : Int) (i : Int) (f : Int) = some (hol p q N K M L i f) := by
  have hf16 : 2 ^ f ≤ 16 := Nat.le_trans (Nat.pow_le_pow_right (by decide) hf) (by decide)
  have e : IntKind.wrap .i64 ((i : Int) + 1) = ((i + 1 : Nat) : Int) := by rw [wrap64 (by omega) (by omega)]; rfl
  unfold s_faHolds
  rw [e, bsome (faBoth_v hp hq hf (by omega) hi F.n F.k), bsome (faBoth_v hp hq hf (by omega) hi F.m F.l), fbo_prod]
  unfold hol
  cases decide (fbo p q N K i (i + 1) f * fbo p q M L i (i + 1) f < 0) with
  | false => rfl
  | true => rw [ct rfl, bsome (faSlope_v hp hq hf hi F)]; rfl
theorem stepHolds_v {p q : List Int} {N M : Int} {K L i f : Nat} (hp : smOk p = true) (hq : smOk q = true) (hf : f ≤ 4) (hi : i + 1 ≤ 2 ^ f) (F : Fit N K M L) :
    i_stepHolds p q N (K : Int) M (L : Int) (i : Int) (f : Int) = some (hol p q N K M L i f) := by
  have hf16 : 2 ^ f ≤ 16 := Nat.le_trans (Nat.pow_le_pow_right (by decide) hf) (by decide)
  have e : IntKind.wrap .i64 ((i : Int) + 1) = ((i + 1 : Nat) : Int) := by rw [wrap64 (by omega) (by omega)]; rfl
  have n1 := F.n
  have m1 := F.m
  have k1 := F.k
  have l1 := F.l
  unfold i_stepHolds
  rw [e, bsome (familySign_v hp hq hf (by omega) hi (by omega) (by omega)), bsome (familySign_v hp hq hf (by omega) hi (by omega) (by omega)), fbo_prod]
  unfold hol
  cases decide (fbo p q N K i (i + 1) f * fbo p q M L i (i + 1) f < 0) with
  | false => rfl
  | true => rw [ct rfl, bsome (slopeSign_v hp hq hf hi F)]; rfl
/-! fitof -/
theorem fit_of {N K M L : Int} (h : fitOk N K M L = true) : ∃ k l : Nat, K = k ∧ L = l ∧ Fit N k M l := by
  unfold fitOk at h
  simp only [Bool.and_eq_true, decide_eq_true_eq] at h
  obtain ⟨⟨h1, h2⟩, ⟨h3, h4⟩, h5, h6, h7⟩ := h
  have a1 := (dOk_iff.1 h1).1
  have b1 := (dOk_iff.1 h2).1
  obtain ⟨k, rfl⟩ := Int.eq_ofNat_of_zero_le a1.1
  obtain ⟨l, rfl⟩ := Int.eq_ofNat_of_zero_le b1.1
  have bnd : ∀ {N : Int} {k T : Nat}, k ≤ T → T ≤ 5 → -134217728 ≤ v24 N (k : Int) → v24 N (k : Int) ≤ 134217728 → (N * 2 ^ (T - k)).natAbs ≤ 256 := by
    intro N k T hk hT g1 g2
    unfold v24 at g1 g2
    rw [Int.toNat_natCast] at g1 g2
    have e : N * 2 ^ (24 - k) = N * 2 ^ (T - k) * 2 ^ (24 - T) := by rw [Int.mul_assoc, ← Int.pow_add]; congr 2; omega
    rw [e] at g1 g2
    generalize N * 2 ^ (T - k) = x at g1 g2 ⊢
    have hp : (524288 : Int) ≤ 2 ^ (24 - T) := by
      have : (2 : Int) ^ 19 ≤ 2 ^ (24 - T) := by exact_mod_cast Nat.pow_le_pow_right (by decide) (show 19 ≤ 24 - T by omega)
      exact this
    by_cases hn : 0 ≤ x
    · have := Int.mul_le_mul_of_nonneg_left hp hn
      omega
    · have := Int.mul_le_mul_of_nonpos_left (show x ≤ 0 by omega) hp
      omega
  have n0 := bnd (N := N) (k := k) (T := k) (Nat.le_refl _) (by omega) h5 (by omega)
  have m0 := bnd (N := M) (k := l) (T := l) (Nat.le_refl _) (by omega) (by omega) h7
  rw [Nat.sub_self, Int.pow_zero, Int.mul_one] at n0 m0
  exact ⟨k, l, rfl, rfl, by omega, by omega, n0, m0, bnd (by omega) (by omega) h5 (by omega), bnd (by omega) (by omega) (by omega) h7⟩
end Go.Proofs.YtbaeikcfchiiaaaE
