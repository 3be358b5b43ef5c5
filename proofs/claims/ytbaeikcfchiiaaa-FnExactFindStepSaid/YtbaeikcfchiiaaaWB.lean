/- Plain lemmas on what the printed functions come to. -/
import Derived.Test.YtbaeikcfchiiaaaWA
set_option maxRecDepth 100000
set_option linter.unusedVariables false
set_option linter.unusedSimpArgs false
namespace Go.Proofs.YtbaeikcfchiiaaaE
/-! fitS -/
theorem sign_lt {n : Int} : Int.sign n < 0 ↔ n < 0 := by
  rcases Int.lt_trichotomy n 0 with h | h | h
  · rw [Int.sign_eq_neg_one_of_neg h]; omega
  · subst h; simp
  · rw [Int.sign_eq_one_of_pos h]; omega
theorem deFit_v (N K M L : Int) : s_deFit N K M L = some (fitOk N K M L) := by
  unfold s_deFit fitOk s_ivGood
  rw [bsome (dyGood_v ..)]
  cases ha : dOk N K with
  | false => rfl
  | true =>
    rw [ct rfl, bsome (dyGood_v ..)]
    cases hb : dOk M L with
    | false => rfl
    | true =>
      rw [ct rfl, bsome (dyCmp_v ha hb)]
      simp only [Option.bind_some, sign_le]
      by_cases h1 : v24 N K - v24 M L ≤ 0
      · rw [ct (decide_eq_true h1)]
        by_cases h4 : K ≤ 5
        · rw [ct (decide_eq_true h4)]
          by_cases h5 : L ≤ 5
          · rw [ct (decide_eq_true h5), bsome (dyCmp_v ha hb)]
            by_cases h6 : v24 N K - v24 M L < 0
            · rw [ct (decide_eq_true (sign_lt.2 h6)), bsome (dyCmp_v (by decide) ha), v24_m8]
              by_cases h7 : -134217728 ≤ v24 N K
              · rw [ct (decide_eq_true (sign_le.2 (by omega))), bsome (dyCmp_v hb (by decide)), v24_8]
                simp only [sign_le, h4, h5, and_self, decide_true, Bool.true_and, Bool.and_true]
                congr 1
                rw [decide_eq_decide]; omega
              · rw [cf (decide_eq_false (by rw [sign_le]; omega))]; congr 1; symm; rw [Bool.and_eq_false_iff]; right; rw [Bool.and_eq_false_iff]; right; exact decide_eq_false (by omega)
            · rw [cf (decide_eq_false (by rw [sign_lt]; exact h6))]; congr 1; symm; rw [Bool.and_eq_false_iff]; right; rw [Bool.and_eq_false_iff]; right; exact decide_eq_false (by omega)
          · rw [cf (decide_eq_false h5)]; simp [h5]
        · rw [cf (decide_eq_false h4)]; simp [h4]
      · rw [cf (decide_eq_false h1)]; congr 1; symm; rw [Bool.and_eq_false_iff]; right; rw [Bool.and_eq_false_iff]; right; exact decide_eq_false (by omega)
/-! moment -/
/-- Whether a family and its fineness are valid. -/
def faOk (p q : List Int) (f : Int) : Bool := smOk p && (smOk q && decide (0 ≤ f ∧ f ≤ 4))
theorem isFamily_v {p q : List Int} {f : Int} (hp : p.length ≤ 1000000) (hq : q.length ≤ 1000000) : i_isFamily p q f = some (faOk p q f) := by
  unfold i_isFamily faOk
  rw [bsome (isSmall_v (by omega))]
  cases smOk p with
  | false => rfl
  | true =>
    rw [ct rfl, bsome (isSmall_v (by omega))]
    cases smOk q with
    | false => rfl
    | true => rw [ct rfl, bret, inside_v]; rfl
/-! faasked -/
theorem faAsked_v {p q : List Int} {f : Int} (hp : p.length ≤ 1000000) (hq : q.length ≤ 1000000) : s_faAsked p q f = some (faOk p q f) := by
  unfold s_faAsked faOk
  rw [bsome (deGood_v (by omega))]
  cases smOk p with
  | false => rfl
  | true =>
    rw [ct rfl, bsome (deGood_v (by omega))]
    cases smOk q with
    | false => rfl
    | true => rw [ct rfl, bret, l1In_v]; rfl
/-! most -/
theorem l1Most_v (a b : Int) : s_l1Most a b = some (max a b) := by
  unfold s_l1Most
  simp only [Bool.cond_decide]
  split
  · rw [show max a b = a by omega]
  · rw [show max a b = b by omega]
/-! dysum -/
/-- Numbers over a common power of 2. -/
def upS (N K M L : Int) : Int := N * 2 ^ (max K.toNat L.toNat - K.toNat) + M * 2 ^ (max K.toNat L.toNat - L.toNat)
theorem kmax {K L : Int} (h1 : 0 ≤ K) (h2 : 0 ≤ L) : (bif decide (K < L) then L else K) = ((max K.toNat L.toNat : Nat) : Int) := by
  by_cases h : K < L
  · rw [ct (decide_eq_true h)]; omega
  · rw [cf (decide_eq_false h)]; omega
theorem wv_lt {s : Bool} {h l : Nat} {n : Int} (e : wv s h l = n) : h * 2 ^ 64 + l = n.natAbs := by
  rw [← e]; unfold wv; cases s <;> simp <;> omega
/-- The sum of two numbers, as a wide one. -/
theorem wideSum_v {N K M L : Int} (ha : dOk N K = true) (hb : dOk M L = true) {R : Type} (G : Bool × Int × Int → Option R) (r : R)
    (hG : ∀ (s : Bool) (h l : Nat), h < 2 ^ 64 → l < 2 ^ 64 → wv s h l = upS N K M L → G (s, (h : Int), (l : Int)) = some r) :
    ((i_wideOf N).bind fun r0 => (i_wide_shift r0.fst r0.snd.fst r0.snd.snd (IntKind.wrap .i64 ((bif decide (K < L) then L else K) - K))).bind fun r1 =>
      (i_wideOf M).bind fun r2 => (i_wide_shift r2.fst r2.snd.fst r2.snd.snd (IntKind.wrap .i64 ((bif decide (K < L) then L else K) - L))).bind fun r3 =>
      (i_wide_add r1.fst r1.snd.fst r1.snd.snd r3.fst r3.snd.fst r3.snd.snd).bind G) = some r := by
  obtain ⟨a1, a2, _⟩ := dOk_iff.1 ha
  obtain ⟨b1, b2, _⟩ := dOk_iff.1 hb
  rw [bsome (wideOf_v (by omega) (by omega)), kmax a1.1 b1.1]
  rw [wrap64 (n := ((max K.toNat L.toNat : Nat) : Int) - K) (by omega) (by omega), wrap64 (n := ((max K.toNat L.toNat : Nat) : Int) - L) (by omega) (by omega),
    show ((max K.toNat L.toNat : Nat) : Int) - K = ((max K.toNat L.toNat - K.toNat : Nat) : Int) by omega, show ((max K.toNat L.toNat : Nat) : Int) - L = ((max K.toNat L.toNat - L.toNat : Nat) : Int) by omega]
  obtain ⟨h, l, e1, e2, e3, e4⟩ := wshift_v (N := N) (k := max K.toNat L.toNat - K.toNat) (by omega) (by omega)
  obtain ⟨h', l', f1, f2, f3, f4⟩ := wshift_v (N := M) (k := max K.toNat L.toNat - L.toNat) (by omega) (by omega)
  rw [bsome e1, bsome (wideOf_v (by omega) (by omega)), bsome f1]
  have bnd : ∀ {N : Int} {k : Nat}, N.natAbs ≤ 1099511627776 → k ≤ 24 → (N * 2 ^ k).natAbs ≤ 1099511627776 * 2 ^ 24 := by
    intro N k h1 h2
    rw [Int.natAbs_mul, Int.natAbs_pow]
    exact Nat.mul_le_mul h1 (Nat.pow_le_pow_right (by decide) h2)
  have m1 := wv_lt e4
  have m2 := wv_lt f4
  have m3 := bnd (N := N) (k := max K.toNat L.toNat - K.toNat) (by omega) (by omega)
  have m4 := bnd (N := M) (k := max K.toNat L.toNat - L.toNat) (by omega) (by omega)
  obtain ⟨s2, h2, l2, g1, g2, g3, g4⟩ := wadd_v (s := decide (N < 0)) (s' := decide (M < 0)) e2 e3 f2 f3 (by rw [m1, m2]; exact Nat.lt_of_le_of_lt (Nat.add_le_add m3 m4) (by decide))
  rw [bsome g1]
  exact hG s2 h2 l2 g2 g3 (by rw [g4, e4, f4]; rfl)
theorem middleOf_v {N K M L : Int} (ha : dOk N K = true) (hb : dOk M L = true) : i_middleOf N K M L = some (dmk (max K.toNat L.toNat + 1) (upS N K M L)) := by
  obtain ⟨a1, a2, _⟩ := dOk_iff.1 ha
  obtain ⟨b1, b2, _⟩ := dOk_iff.1 hb
  unfold i_middleOf
  refine wideSum_v ha hb _ _ fun s h l hh hl hv => ?_
  show (i_wide_fit s (h : Int) (l : Int) _).bind _ = _
  rw [kmax a1.1 b1.1, wrap64 (n := ((max K.toNat L.toNat : Nat) : Int) + 1) (by omega) (by omega), show ((max K.toNat L.toNat : Nat) : Int) + 1 = ((max K.toNat L.toNat + 1 : Nat) : Int) by omega, bsome (fit_v (by omega) hh hl), hv]
theorem dyMake_loop {t0 t1 : Int} : ∀ (k : Nat) (n : Int), k ≤ 1000 → n.natAbs ≤ 4611686018427387904 → s_dyMake_1003 n (k : Int) t0 t1 = some (dmk k n) := by
  have fin : ∀ (k : Nat) (n : Int), (k = 0 ∨ n % 2 ≠ 0) → ((s_dyGood n (k : Int)).bind fun r => bif !r then some (((0 : Int), (0 : Int)), false) else some ((n, (k : Int)), true)) = some (dmk k n) := by
    intro k n hf
    rw [bsome (dyGood_v ..)]
    unfold dmk
    rw [red_form hf]
    cases dOk n (k : Int) <;> rfl
  intro k
  induction k with
  | zero =>
    intro n _ _
    rw [Es_dyMake_1003, cf (by decide)]
    exact fin 0 n (.inl rfl)
  | succ k ih =>
    intro n hk hn
    rw [Es_dyMake_1003, ct (decide_eq_true (by omega))]
    by_cases he : n % 2 = 0
    · have e2 : Int.tdiv n 2 = n / 2 := by rw [Int.tdiv_eq_ediv_of_dvd (Int.dvd_of_emod_eq_zero he)]
      rw [ct (decide_eq_true (tmod2.2 he)), e2, wrap64 (n := n / 2) (by omega) (by omega), wrap64 (n := ((k + 1 : Nat) : Int) - 1) (by omega) (by omega), show ((k + 1 : Nat) : Int) - 1 = (k : Int) by omega, ih (n / 2) (by omega) (by omega)]
      congr 1
      have := @dmk_scale k 1 (n / 2)
      rw [← this]
      congr 1
      omega
    · rw [cf (decide_eq_false (by rw [tmod2]; exact he))]
      exact fin (k + 1) n (.inr he)
theorem dyMake_v {k : Nat} {n : Int} (hk : k ≤ 1000) (hn : n.natAbs ≤ 4611686018427387904) : s_dyMake n (k : Int) = some (dmk k n) := by
  unfold s_dyMake
  by_cases h0 : n = 0
  · subst h0
    rw [ct (by decide)]
    by_cases hk0 : (0 : Int) < k
    · rw [ct (decide_eq_true hk0)]
      have := dyMake_loop (t0 := 0) (t1 := 0) 0 0 (by omega) (by omega)
      rw [dmk_zero] at this ⊢
      exact this
    · rw [cf (decide_eq_false hk0)]
      exact dyMake_loop k 0 hk hn
  · rw [cf (decide_eq_false h0)]
    exact dyMake_loop k n hk hn
theorem dyHalf_v {N K M L : Int} (ha : dOk N K = true) (hb : dOk M L = true) (h1 : N.natAbs ≤ 1048576) (h2 : M.natAbs ≤ 1048576) : s_dyHalf N K M L = some (dmk (max K.toNat L.toNat + 1) (upS N K M L)) := by
  obtain ⟨a1, a2, _⟩ := dOk_iff.1 ha
  obtain ⟨b1, b2, _⟩ := dOk_iff.1 hb
  unfold s_dyHalf
  have bnd : ∀ {N : Int} {k : Nat}, N.natAbs ≤ 1048576 → k ≤ 24 → N.natAbs * 2 ^ k ≤ 1048576 * 2 ^ 24 := fun h1 h2 => Nat.mul_le_mul h1 (Nat.pow_le_pow_right (by decide) h2)
  have m1 := bnd (k := max K.toNat L.toNat - K.toNat) h1 (by omega)
  have m2 := bnd (k := max K.toNat L.toNat - L.toNat) h2 (by omega)
  have n1 : (N * 2 ^ (max K.toNat L.toNat - K.toNat)).natAbs = N.natAbs * 2 ^ (max K.toNat L.toNat - K.toNat) := by rw [Int.natAbs_mul, Int.natAbs_pow]; rfl
  have n2 : (M * 2 ^ (max K.toNat L.toNat - L.toNat)).natAbs = M.natAbs * 2 ^ (max K.toNat L.toNat - L.toNat) := by rw [Int.natAbs_mul, Int.natAbs_pow]; rfl
  rw [bsome (l1Most_v ..), show max K L = ((max K.toNat L.toNat : Nat) : Int) by omega]
  rw [bsome (dyAt_v (k := max K.toNat L.toNat) a1.1 (by omega) (by omega) (Nat.le_trans m1 (by decide))), bsome (dyAt_v (k := max K.toNat L.toNat) b1.1 (by omega) (by omega) (Nat.le_trans m2 (by decide))), cnt, cnt]
  simp only
  rw [← n1] at m1
  rw [← n2] at m2
  have hs : (upS N K M L).natAbs ≤ 4611686018427387904 := by
    unfold upS
    generalize N * 2 ^ (max K.toNat L.toNat - K.toNat) = x at m1
    generalize M * 2 ^ (max K.toNat L.toNat - L.toNat) = y at m2
    omega
  rw [wrap64 (n := N * 2 ^ (max K.toNat L.toNat - K.toNat) + M * 2 ^ (max K.toNat L.toNat - L.toNat)) (by have := hs; unfold upS at this; omega) (by have := hs; unfold upS at this; omega),
    wrap64 (n := ((max K.toNat L.toNat : Nat) : Int) + 1) (by omega) (by omega), show ((max K.toNat L.toNat : Nat) : Int) + 1 = ((max K.toNat L.toNat + 1 : Nat) : Int) by omega]
  exact bsome (dyMake_v (by omega) hs)
end Go.Proofs.YtbaeikcfchiiaaaE
