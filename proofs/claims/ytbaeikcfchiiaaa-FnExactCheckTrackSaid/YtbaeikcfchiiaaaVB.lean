/- Plain lemmas on what the printed functions come to. -/
import Derived.Test.YtbaeikcfchiiaaaVA
set_option maxRecDepth 100000
set_option linter.unusedVariables false
set_option linter.unusedSimpArgs false
namespace Go.Proofs.YtbaeikcfchiiaaaE
/-! famsign0 -/
theorem v24_8 : v24 8 0 = 134217728 := by decide
theorem v24_m8 : v24 (-8) 0 = -134217728 := by decide
theorem sign_le {n : Int} : Int.sign n ≤ 0 ↔ n ≤ 0 := by
  rcases Int.lt_trichotomy n 0 with h | h | h
  · rw [Int.sign_eq_neg_one_of_neg h]; omega
  · subst h; simp
  · rw [Int.sign_eq_one_of_pos h]; omega
theorem inRange_v {N K : Int} (h : dOk N K = true) : i_inRange N K = some (decide (-134217728 ≤ v24 N K ∧ v24 N K ≤ 134217728)) := by
  unfold i_inRange
  rw [bsome (compareD_v (by decide) h), v24_m8]
  by_cases h1 : -134217728 ≤ v24 N K
  · rw [ct (decide_eq_true (sign_le.2 (by omega))), bsome (compareD_v h (by decide)), v24_8]
    simp only [sign_le]
    congr 1
    simp [h1]; omega
  · rw [cf (decide_eq_false (by rw [sign_le]; omega))]; simp [h1]
/-! fit -/
/-- A dyadic number in its form is told by its value. -/
theorem v24_inj {N K M L : Int} (ha : dOk N K = true) (hb : dOk M L = true) (h : v24 N K = v24 M L) : N = M ∧ K = L := by
  obtain ⟨a1, a2, a3⟩ := dOk_iff.1 ha
  obtain ⟨b1, b2, b3⟩ := dOk_iff.1 hb
  have main : ∀ {N M : Int} {k l : Nat}, k ≤ l → l ≤ 24 → (l = 0 ∨ Int.tmod M 2 ≠ 0) → N * 2 ^ (24 - k) = M * 2 ^ (24 - l) → k = l ∧ N = M := by
    intro N M k l hkl hl hM e
    have e2 : (2 : Int) ^ (24 - k) = 2 ^ (l - k) * 2 ^ (24 - l) := by rw [← Int.pow_add]; congr 1; omega
    have hp : (2 : Int) ^ (24 - l) ≠ 0 := Int.ne_of_gt (Int.pow_pos (by decide))
    rw [e2, ← Int.mul_assoc] at e
    have e3 := Int.mul_eq_mul_right_iff hp |>.1 e
    by_cases hk : l = k
    · subst hk
      rw [Nat.sub_self] at e3
      exact ⟨rfl, by simpa using e3⟩
    · exfalso
      rcases hM with h | h
      · omega
      · apply h
        have : l - k = (l - k - 1) + 1 := by omega
        rw [this, Int.pow_succ, ← Int.mul_assoc] at e3
        rw [← e3]
        exact Int.mul_tmod_left _ _
  unfold v24 at h
  by_cases hkl : K.toNat ≤ L.toNat
  · obtain ⟨e1, e2⟩ := main hkl (by omega) (b3.imp (by omega) id) h
    exact ⟨e2, by omega⟩
  · obtain ⟨e1, e2⟩ := main (show L.toNat ≤ K.toNat by omega) (by omega) (a3.imp (by omega) id) h.symm
    exact ⟨e2.symm, by omega⟩
/-- Whether an interval is fit. -/
def fitOk (N K M L : Int) : Bool := (dOk N K && dOk M L) && (decide (K ≤ 5 ∧ L ≤ 5) && decide (-134217728 ≤ v24 N K ∧ v24 N K < v24 M L ∧ v24 M L ≤ 134217728))
theorem isFit_v (N K M L : Int) : i_isFit N K M L = some (fitOk N K M L) := by
  unfold i_isFit fitOk i_isInterval
  rw [bsome (isDyadic_v ..)]
  cases ha : dOk N K with
  | false => rfl
  | true =>
    rw [ct rfl, bsome (isDyadic_v ..)]
    cases hb : dOk M L with
    | false => rfl
    | true =>
      rw [ct rfl, bsome (compareD_v ha hb)]
      simp only [Option.bind_some, sign_le]
      by_cases h1 : v24 N K - v24 M L ≤ 0
      · rw [ct (decide_eq_true h1), bsome (inRange_v ha)]
        by_cases h2 : -134217728 ≤ v24 N K ∧ v24 N K ≤ 134217728
        · rw [ct (decide_eq_true h2), bsome (inRange_v hb)]
          by_cases h3 : -134217728 ≤ v24 M L ∧ v24 M L ≤ 134217728
          · rw [ct (decide_eq_true h3)]
            by_cases h4 : K ≤ 5
            · rw [ct (decide_eq_true h4)]
              by_cases h5 : L ≤ 5
              · rw [ct (decide_eq_true h5)]
                by_cases h6 : N = M ∧ K = L
                · obtain ⟨rfl, rfl⟩ := h6; simp
                · have : v24 N K ≠ v24 M L := fun e => h6 (v24_inj ha hb e)
                  have h7 : v24 N K < v24 M L := by omega
                  simp only [Bool.and_true, h4, h5, and_self, decide_true, Bool.true_and]
                  congr 1
                  rw [decide_eq_true (show -134217728 ≤ v24 N K ∧ v24 N K < v24 M L ∧ v24 M L ≤ 134217728 by omega)]
                  by_cases e1 : N = M
                  · have e2 : ¬ K = L := fun e => h6 ⟨e1, e⟩
                    simp [e2]
                  · simp [e1]
              · rw [cf (decide_eq_false h5)]; simp [h5]
            · rw [cf (decide_eq_false h4)]; simp [h4]
          · rw [cf (decide_eq_false h3)]; congr 1; symm; rw [Bool.and_eq_false_iff]; right; rw [Bool.and_eq_false_iff]; right; exact decide_eq_false (by omega)
        · rw [cf (decide_eq_false h2)]; congr 1; symm; rw [Bool.and_eq_false_iff]; right; rw [Bool.and_eq_false_iff]; right; exact decide_eq_false (by omega)
      · rw [cf (decide_eq_false h1)]; congr 1; symm; rw [Bool.and_eq_false_iff]; right; rw [Bool.and_eq_false_iff]; right; exact decide_eq_false (by omega)
/-! fitS -/
theorem sign_lt {n : Int} : Int.sign n < 0 ↔ n < 0 := by
  rcases Int.lt_trichotomy n 0 with h | h | h
  · rw [Int.sign_eq_neg_one_of_neg h]; omega
  · subst h; simp
  · rw [Int.sign_eq_one_of_pos h]; omega
theorem deFit_v (N K M L : Int) : s_deFit N K M L = some (fitOk N K M L) := by
  unfold s_deFit fitOk s_ivGood
  rw [bsome (dyGood_v ..)]
  cases ha : dOk N K with
  | false => rfl
  | true =>
    rw [ct rfl, bsome (dyGood_v ..)]
    cases hb : dOk M L with
    | false => rfl
    | true =>
      rw [ct rfl, bsome (dyCmp_v ha hb)]
      simp only [Option.bind_some, sign_le]
      by_cases h1 : v24 N K - v24 M L ≤ 0
      · rw [ct (decide_eq_true h1)]
        by_cases h4 : K ≤ 5
        · rw [ct (decide_eq_true h4)]
          by_cases h5 : L ≤ 5
          · rw [ct (decide_eq_true h5), bsome (dyCmp_v ha hb)]
            by_cases h6 : v24 N K - v24 M L < 0
            · rw [ct (decide_eq_true (sign_lt.2 h6)), bsome (dyCmp_v (by decide) ha), v24_m8]
              by_cases h7 : -134217728 ≤ v24 N K
              · rw [ct (decide_eq_true (sign_le.2 (by omega))), bsome (dyCmp_v hb (by decide)), v24_8]
                simp only [sign_le, h4, h5, and_self, decide_true, Bool.true_and, Bool.and_true]
                congr 1
                rw [decide_eq_decide]; omega
              · rw [cf (decide_eq_false (by rw [sign_le]; omega))]; congr 1; symm; rw [Bool.and_eq_false_iff]; right; rw [Bool.and_eq_false_iff]; right; exact decide_eq_false (by omega)
            · rw [cf (decide_eq_false (by rw [sign_lt]; exact h6))]; congr 1; symm; rw [Bool.and_eq_false_iff]; right; rw [Bool.and_eq_false_iff]; right; exact decide_eq_false (by omega)
          · rw [cf (decide_eq_false h5)]; simp [h5]
        · rw [cf (decide_eq_false h4)]; simp [h4]
      · rw [cf (decide_eq_false h1)]; congr 1; symm; rw [Bool.and_eq_false_iff]; right; rw [Bool.and_eq_false_iff]; right; exact decide_eq_false (by omega)
/-! moment -/
/-- Whether a family and its fineness are valid. -/
def faOk (p q : List Int) (f : Int) : Bool := smOk p && (smOk q && decide (0 ≤ f ∧ f ≤ 4))
theorem isFamily_v {p q : List Int} {f : Int} (hp : p.length ≤ 1000000) (hq : q.length ≤ 1000000) : i_isFamily p q f = some (faOk p q f) := by
  unfold i_isFamily faOk
  rw [bsome (isSmall_v (by omega))]
  cases smOk p with
  | false => rfl
  | true =>
    rw [ct rfl, bsome (isSmall_v (by omega))]
    cases smOk q with
    | false => rfl
    | true => rw [ct rfl, bret, inside_v]; rfl
/-! faasked -/
theorem faAsked_v {p q : List Int} {f : Int} (hp : p.length ≤ 1000000) (hq : q.length ≤ 1000000) : s_faAsked p q f = some (faOk p q f) := by
  unfold s_faAsked faOk
  rw [bsome (deGood_v (by omega))]
  cases smOk p with
  | false => rfl
  | true =>
    rw [ct rfl, bsome (deGood_v (by omega))]
    cases smOk q with
    | false => rfl
    | true => rw [ct rfl, bret, l1In_v]; rfl
end Go.Proofs.YtbaeikcfchiiaaaE
