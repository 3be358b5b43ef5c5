/- Plain lemmas on what the printed functions come to. -/
import Derived.Test.YtbaeikcfchiiaaaUG
set_option maxRecDepth 100000
set_option linter.unusedVariables false
set_option linter.unusedSimpArgs false
namespace Go.Proofs.YtbaeikcfchiiaaaE
/-! oki -/
theorem okI {n : Int} (h : okD (.int .i64) n) : -9223372036854775808 ≤ n ∧ n ≤ 9223372036854775807 := by
  have h : (Lit.int .i64 n).wf = true := h
  simp [Lit.wf, IntKind.min, IntKind.max, IntKind.signed, IntKind.bits] at h
  exact h
/-! fitof -/
theorem fit_of {N K M L : Int} (h : fitOk N K M L = true) : ∃ k l : Nat, K = k ∧ L = l ∧ Fit N k M l := by
  unfold fitOk at h
  simp only [Bool.and_eq_true, decide_eq_true_eq] at h
  obtain ⟨⟨h1, h2⟩, ⟨h3, h4⟩, h5, h6, h7⟩ := h
  have a1 := (dOk_iff.1 h1).1
  have b1 := (dOk_iff.1 h2).1
  obtain ⟨k, rfl⟩ := Int.eq_ofNat_of_zero_le a1.1
  obtain ⟨l, rfl⟩ := Int.eq_ofNat_of_zero_le b1.1
  have bnd : ∀ {N : Int} {k T : Nat}, k ≤ T → T ≤ 5 → -134217728 ≤ v24 N (k : Int) → v24 N (k : Int) ≤ 134217728 → (N * 2 ^ (T - k)).natAbs ≤ 256 := by
    intro N k T hk hT g1 g2
    unfold v24 at g1 g2
    rw [Int.toNat_natCast] at g1 g2
    have e : N * 2 ^ (24 - k) = N * 2 ^ (T - k) * 2 ^ (24 - T) := by rw [Int.mul_assoc, ← Int.pow_add]; congr 2; omega
    rw [e] at g1 g2
    generalize N * 2 ^ (T - k) = x at g1 g2 ⊢
    have hp : (524288 : Int) ≤ 2 ^ (24 - T) := by
      have : (2 : Int) ^ 19 ≤ 2 ^ (24 - T) := by exact_mod_cast Nat.pow_le_pow_right (by decide) (show 19 ≤ 24 - T by omega)
      exact this
    by_cases hn : 0 ≤ x
    · have := Int.mul_le_mul_of_nonneg_left hp hn
      omega
    · have := Int.mul_le_mul_of_nonpos_left (show x ≤ 0 by omega) hp
      omega
  have n0 := bnd (N := N) (k := k) (T := k) (Nat.le_refl _) (by omega) h5 (by omega)
  have m0 := bnd (N := M) (k := l) (T := l) (Nat.le_refl _) (by omega) (by omega) h7
  rw [Nat.sub_self, Int.pow_zero, Int.mul_one] at n0 m0
  exact ⟨k, l, rfl, rfl, by omega, by omega, n0, m0, bnd (by omega) (by omega) h5 (by omega), bnd (by omega) (by omega) (by omega) h7⟩
/-! stepholds -/
theorem fsg_bnd {p q : List Int} {N : Int} {K i f : Nat} : fsg p q N K i f = -1 ∨ fsg p q N K i f = 0 ∨ fsg p q N K i f = 1 := by
  unfold fsg
  rcases Int.lt_trichotomy (hv N K (fam p q i f)) 0 with h | h | h
  · exact Or.inl (Int.sign_eq_neg_one_of_neg h)
  · rw [h]; exact Or.inr (Or.inl rfl)
  · exact Or.inr (Or.inr (Int.sign_eq_one_of_pos h))
theorem fbo_bnd {p q : List Int} {N : Int} {K i k f : Nat} : fbo p q N K i k f = -1 ∨ fbo p q N K i k f = 0 ∨ fbo p q N K i k f = 1 := by
  unfold fbo
  split
  · exact Or.inr (Or.inl rfl)
  · exact fsg_bnd
/-- Whether a step holds. -/
def hol (p q : List Int) (N : Int) (K : Nat) (M : Int) (L i f : Nat) : Bool := decide (fbo p q N K i (i + 1) f * fbo p q M L i (i + 1) f < 0) && !decide (slp p q (N * 2 ^ (max K L - K)) (M * 2 ^ (max K L - L)) (2 ^ max K L) i f = 0)
theorem fbo_prod {p q : List Int} {N M : Int} {K L i f : Nat} : IntKind.wrap .i64 (fbo p q N K i (i + 1) f * fbo p q M L i (i + 1) f) = fbo p q N K i (i + 1) f * fbo p q M L i (i + 1) f := by
  rcases fbo_bnd (p := p) (q := q) (N := N) (K := K) (i := i) (k := i + 1) (f := f) with h | h | h <;> rcases fbo_bnd (p := p) (q := q) (N := M) (K := L) (i := i) (k := i + 1) (f := f) with g | g | g <;> rw [h, g] <;> decide
theorem faHolds_v {p q : List Int} {N M : Int} {K L i f : Nat} (hp : smOk p = true) (hq : smOk q = true) (hf : f ≤ 4) (hi : i + 1 ≤ 2 ^ f) (F : Fit N K M L) :
    s_faHolds p q N (K : Int) M (L : Int) (i : Int) (f : Int) = some (hol p q N K M L i f) := by
  have hf16 : 2 ^ f ≤ 16 := Nat.le_trans (Nat.pow_le_pow_right (by decide) hf) (by decide)
  have e : IntKind.wrap .i64 ((i : Int) + 1) = ((i + 1 : Nat) : Int) := by rw [wrap64 (by omega) (by omega)]; rfl
  unfold s_faHolds
  rw [e, bsome (faBoth_v hp hq hf (by omega) hi F.n F.k), bsome (faBoth_v hp hq hf (by omega) hi F.m F.l), fbo_prod]
  unfold hol
  cases decide (fbo p q N K i (i + 1) f * fbo p q M L i (i + 1) f < 0) with
  | false => rfl
  | true => rw [ct rfl, bsome (faSlope_v hp hq hf hi F)]; rfl
theorem stepHolds_v {p q : List Int} {N M : Int} {K L i f : Nat} (hp : smOk p = true) (hq : smOk q = true) (hf : f ≤ 4) (hi : i + 1 ≤ 2 ^ f) (F : Fit N K M L) :
    i_stepHolds p q N (K : Int) M (L : Int) (i : Int) (f : Int) = some (hol p q N K M L i f) := by
  have hf16 : 2 ^ f ≤ 16 := Nat.le_trans (Nat.pow_le_pow_right (by decide) hf) (by decide)
  have e : IntKind.wrap .i64 ((i : Int) + 1) = ((i + 1 : Nat) : Int) := by rw [wrap64 (by omega) (by omega)]; rfl
  have n1 := F.n
  have m1 := F.m
  have k1 := F.k
  have l1 := F.l
  unfold i_stepHolds
  rw [e, bsome (familySign_v hp hq hf (by omega) hi (by omega) (by omega)), bsome (familySign_v hp hq hf (by omega) hi (by omega) (by omega)), fbo_prod]
  unfold hol
  cases decide (fbo p q N K i (i + 1) f * fbo p q M L i (i + 1) f < 0) with
  | false => rfl
  | true => rw [ct rfl, bsome (slopeSign_v hp hq hf hi F)]; rfl
/-! mainStepHolds -/
theorem main_FnExactStepHolds {p q : List Int} {x : (Int × Int) × (Int × Int)} {i f : Int} (hp : p.length ≤ 1000000) (hq : q.length ≤ 1000000) (_ : okD (.pair (.pair (.int .i64) (.int .i64)) (.pair (.int .i64) (.int .i64))) x) (hi : okD (.int .i64) i) (_ : okD (.int .i64) f) :
    ∃ w, s_StepHolds p q x.1.1 x.1.2 x.2.1 x.2.2 i f = some w ∧ i_StepHolds p q x.1.1 x.1.2 x.2.1 x.2.2 i f = some w := by
  obtain ⟨⟨N, K⟩, M, L⟩ := x
  have hi := okI hi
  unfold s_StepHolds i_StepHolds s_faStep
  simp only
  rw [bsome (isFamily_v hp hq), bsome (faAsked_v hp hq)]
  by_cases hF : faOk p q f = true
  rotate_left
  · have hF := Bool.eq_false_iff.2 hF
    rw [hF]; exact ⟨_, rfl, rfl⟩
  have hF' := hF
  unfold faOk at hF'
  simp only [Bool.and_eq_true, decide_eq_true_eq] at hF'
  obtain ⟨h1, h2, h3, h4⟩ := hF'
  obtain ⟨f, rfl⟩ := Int.eq_ofNat_of_zero_le h3
  have hf : f ≤ 4 := by omega
  have hf16 : (2 : Int) ^ f ≤ 16 := by
    have : (2 : Int) ^ f ≤ 2 ^ 4 := by exact_mod_cast Nat.pow_le_pow_right (by decide) hf
    exact this
  have hf0 : (0 : Int) < 2 ^ f := Int.pow_pos (by decide)
  have hdy : s_dyPower (f : Int) = some (2 ^ f) := dyPower_v h3 (by omega)
  rw [hF, ct rfl, cnt, bsome hdy, bret, wrap64 (n := (2 : Int) ^ f - 1) (by omega) (by omega), bsome (l1In_v ..), bsome (isFit_v ..)]
  cases hx : fitOk N K M L with
  | false =>
    rw [cnf]
    by_cases hin : 0 ≤ i ∧ i ≤ 2 ^ f - 1
    · rw [cf (by simp; omega), bsome (deFit_v ..), hx]; exact ⟨_, rfl, rfl⟩
    · rw [ct (by simp; omega)]; exact ⟨_, rfl, rfl⟩
  | true =>
    rw [cnt, bsome (isMoment_v hf)]
    by_cases hin : 0 ≤ i ∧ i ≤ 2 ^ f - 1
    · rw [cf (by simp; omega), bsome (deFit_v ..), hx, cnt, wrap64 (n := i + 1) (by omega) (by omega), cf (by simp; omega), cf (by simp; omega)]
      obtain ⟨k, l, rfl, rfl, hfit⟩ := fit_of hx
      obtain ⟨i, rfl⟩ := Int.eq_ofNat_of_zero_le hin.1
      have hi1 : i + 1 ≤ 2 ^ f := by
        have h9 : (i : Int) + 1 ≤ 2 ^ f := by omega
        exact_mod_cast h9
      exact ⟨_, bsome (faHolds_v h1 h2 hf hi1 hfit), bsome (stepHolds_v h1 h2 hf hi1 hfit)⟩
    · rw [ct (by simp; omega)]
      by_cases hmx : i = 9223372036854775807
      · rw [hmx, show IntKind.wrap .i64 (9223372036854775807 + 1) = -9223372036854775808 from by decide, ct (by simp)]; exact ⟨_, rfl, rfl⟩
      · rw [wrap64 (n := i + 1) (by omega) (by omega)]
        by_cases h0 : i = -1
        · subst h0; rw [cf (by simp; omega), ct (by decide)]; exact ⟨_, rfl, rfl⟩
        · rw [ct (by simp; omega)]; exact ⟨_, rfl, rfl⟩
end Go.Proofs.YtbaeikcfchiiaaaE
