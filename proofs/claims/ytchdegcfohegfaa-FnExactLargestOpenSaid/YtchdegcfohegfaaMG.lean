/- Plain lemmas on what the printed functions come to. -/
import Derived.Test.YtchdegcfohegfaaMF
set_option maxRecDepth 100000
set_option linter.unusedVariables false
set_option linter.unusedSimpArgs false
namespace Go.Proofs.YtchdegcfohegfaaE
/-! dyok -/
/-- Whether a dyadic number is valid. -/
def dOk (N K : Int) : Bool := decide ((0 ≤ K ∧ K ≤ 24) ∧ (-1099511627776 ≤ N ∧ N ≤ 1099511627776) ∧ (K = 0 ∨ Int.tmod N 2 ≠ 0))
theorem dOk_iff {N K : Int} : dOk N K = true ↔ ((0 ≤ K ∧ K ≤ 24) ∧ (-1099511627776 ≤ N ∧ N ≤ 1099511627776) ∧ (K = 0 ∨ Int.tmod N 2 ≠ 0)) := by simp [dOk]
theorem dyGood_v (N K : Int) : s_dyGood N K = some (dOk N K) := by
  unfold s_dyGood dOk
  rw [bsome (l1In_v ..)]
  by_cases h1 : 0 ≤ K ∧ K ≤ 24
  · rw [ct (by simpa using h1), bsome (l1In_v ..)]
    by_cases h2 : -1099511627776 ≤ N ∧ N ≤ 1099511627776
    · rw [ct (by simpa using h2)]
      by_cases h3 : K = 0
      · rw [ct (by simpa using h3)]; simp [h2, h3]
      · rw [cf (by simpa using h3)]; simp [h1, h2, h3]
    · rw [cf (by simp; omega)]; simp [h2]
  · rw [cf (by simp; omega)]; simp [h1]
/-- A number over 2^24. -/
def vd24 (N K : Int) : Int := N * 2 ^ (24 - K.toNat)
theorem sgn_scale {a : Int} {k : Nat} : Int.sign (a * 2 ^ k) = Int.sign a := by
  have hp : (0 : Int) < 2 ^ k := Int.pow_pos (by decide)
  rw [Int.sign_mul, Int.sign_eq_one_of_pos hp, Int.mul_one]
/-! cmpint -/
theorem sign_ne {n : Int} : Int.sign n = 0 ↔ n = 0 := Int.sign_eq_zero_iff_zero
/-! u64 -/
theorem wrapu (n : Int) : IntKind.wrap .u64 n = n % 18446744073709551616 := by
  unfold IntKind.wrap
  rw [show IntKind.signed .u64 = false from rfl, show IntKind.bits .u64 = 64 from rfl]
  simp
theorem wrapu_nat {n : Nat} (h : n < 18446744073709551616) : IntKind.wrap .u64 (n : Int) = (n : Int) := by rw [wrapu]; omega
theorem fdiv_nat (a b : Nat) : Int.fdiv (a : Int) (b : Int) = ((a / b : Nat) : Int) := by
  rw [Int.fdiv_eq_ediv_of_nonneg _ (by omega)]; rfl
theorem pow_nat (k : Nat) : (2 : Int) ^ k = ((2 ^ k : Nat) : Int) := by simp
/-! wide -/
/-! 64-bit numbers without a sign -/
theorem bor {a b : Nat} (ha : a < 2 ^ 64) (hb : b < 2 ^ 64) : (BitVec.ofInt 64 (a : Int) ||| BitVec.ofInt 64 (b : Int)).toNat = a ||| b := by
  rw [BitVec.toNat_or, BitVec.ofInt_natCast, BitVec.ofInt_natCast, BitVec.toNat_ofNat, BitVec.toNat_ofNat, Nat.mod_eq_of_lt ha, Nat.mod_eq_of_lt hb]
theorem bits64 : IntKind.bits .u64 = 64 := rfl
theorem size_v {n : Int} (h1 : -4611686018427387904 ≤ n) (h2 : n ≤ 4611686018427387904) : i_size n = some (n.natAbs : Int) := by
  unfold i_size
  by_cases h : n < 0
  · rw [ct (by simpa using h), wrap64 (n := 0 - n) (by omega) (by omega), wrapu]
    congr 1; omega
  · rw [cf (by simpa using h), wrapu]
    congr 1; omega
theorem wideOf_v {n : Int} (h1 : -4611686018427387904 ≤ n) (h2 : n ≤ 4611686018427387904) : i_wideOf n = some (decide (n < 0), 0, (n.natAbs : Int)) := by
  unfold i_wideOf; rw [bsome (size_v h1 h2)]
/-- A number of 128 bits, up. -/
theorem shiftUp_v {s : Bool} {h l k : Nat} (hl : l < 2 ^ 64) (hk : k < 64) (hm : (h * 2 ^ 64 + l) * 2 ^ k < 2 ^ 128) :
    ∃ h' l' : Nat, i_wide_shift s (h : Int) (l : Int) (k : Int) = some (s, (h' : Int), (l' : Int)) ∧ h' < 2 ^ 64 ∧ l' < 2 ^ 64 ∧ h' * 2 ^ 64 + l' = (h * 2 ^ 64 + l) * 2 ^ k := by
  have hp : 0 < 2 ^ k := Nat.two_pow_pos k
  have hhk : h * 2 ^ k < 2 ^ 64 := by
    have h1 : h * 2 ^ 64 * 2 ^ k ≤ (h * 2 ^ 64 + l) * 2 ^ k := Nat.mul_le_mul_right _ (Nat.le_add_right _ _)
    have h2 : h * 2 ^ 64 * 2 ^ k = h * 2 ^ k * 2 ^ 64 := Nat.mul_right_comm _ _ _
    rw [h2] at h1
    have h3 : h * 2 ^ k * 2 ^ 64 < 2 ^ 64 * 2 ^ 64 := Nat.lt_of_le_of_lt h1 (by rw [show (2 : Nat) ^ 64 * 2 ^ 64 = 2 ^ 128 from by decide]; exact hm)
    exact Nat.lt_of_mul_lt_mul_right h3
  have hsplit : 2 ^ (64 - k) * 2 ^ k = 2 ^ 64 := by rw [← Nat.pow_add]; congr 1; omega
  have hlow : l / 2 ^ (64 - k) < 2 ^ k := by
    rw [Nat.div_lt_iff_lt_mul (Nat.two_pow_pos _), Nat.mul_comm, hsplit]; exact hl
  have hq : l * 2 ^ k / 2 ^ 64 = l / 2 ^ (64 - k) := by rw [← hsplit, Nat.mul_div_mul_right _ _ hp]
  have hor : h * 2 ^ k ||| l / 2 ^ (64 - k) = h * 2 ^ k + l / 2 ^ (64 - k) := by
    have := Nat.two_pow_add_eq_or_of_lt hlow h
    rw [Nat.mul_comm h, this]
  have h64 : l / 2 ^ (64 - k) < 2 ^ 64 := Nat.lt_of_lt_of_le hlow (Nat.pow_le_pow_right (by decide) (by omega))
  have hsum : h * 2 ^ k + l / 2 ^ (64 - k) < 2 ^ 64 := by
    have e : (h * 2 ^ 64 + l) * 2 ^ k = h * 2 ^ k * 2 ^ 64 + l * 2 ^ k := by rw [Nat.add_mul, Nat.mul_right_comm]
    rw [e] at hm
    have : (h * 2 ^ k * 2 ^ 64 + l * 2 ^ k) / 2 ^ 64 < 2 ^ 64 := by rw [Nat.div_lt_iff_lt_mul (by decide)]; exact Nat.lt_of_lt_of_eq hm (by decide)
    rwa [Nat.add_comm, Nat.add_mul_div_right _ _ (by decide), hq, Nat.add_comm] at this
  refine ⟨h * 2 ^ k + l / 2 ^ (64 - k), l * 2 ^ k % 2 ^ 64, ?_, hsum, Nat.mod_lt _ (by decide), ?_⟩
  · unfold i_wide_shift
    rw [ct (by simp), cf (by simp; omega), ct (by simp), wrap64 (n := 64 - (k : Int)) (by omega) (by omega), ct (by simp; omega), ct (by simp)]
    rw [Int.toNat_natCast, show Int.toNat (64 - (k : Int)) = 64 - k by omega, bits64, Nat.min_eq_left (by omega), Nat.min_eq_left (by omega), pow_nat, pow_nat]
    rw [show (h : Int) * ((2 ^ k : Nat) : Int) = ((h * 2 ^ k : Nat) : Int) by simp, show (l : Int) * ((2 ^ k : Nat) : Int) = ((l * 2 ^ k : Nat) : Int) by simp, fdiv_nat, wrapu_nat hhk, bor hhk h64, hor, wrapu_nat hsum, wrapu]
    rfl
  · rw [← hq, Nat.add_mul, Nat.add_mul, Nat.mul_right_comm, Nat.add_assoc]
    congr 1
    rw [Nat.mul_comm (l * 2 ^ k / 2 ^ 64)]
    exact Nat.div_add_mod _ _
/-- The value of a number of 128 bits. -/
def wv (s : Bool) (h l : Nat) : Int := if s then -((h * 2 ^ 64 + l : Nat) : Int) else ((h * 2 ^ 64 + l : Nat) : Int)
theorem cmpU_v (x y : Int) : cmp_Compare_uint64 x y = some (Int.sign (x - y)) := by
  unfold cmp_Compare_uint64
  simp only [decide_true, Bool.not_true, cond_false, Bool.cond_decide]
  split
  · rw [Int.sign_eq_neg_one_of_neg (by omega)]
  · split
    · rw [Int.sign_eq_one_of_pos (by omega)]
    · rw [show x - y = 0 by omega]; rfl
theorem cmpOr2_v (x y : Int) : cmp_Or_int [x, y] = some (if x ≠ 0 then x else y) := by
  have e0 : cmp_Or_int_1003 0 [x, y] 2 2 = some 0 := by rw [Ecmp_Or_int_1003]; rfl
  have e1 : cmp_Or_int_1003 0 [x, y] 2 1 = some y := by
    rw [Ecmp_Or_int_1003, show IntKind.wrap .i64 (1 + 1) = 2 from rfl, e0]
    by_cases h : y = 0 <;> simp [boundA, h]
  unfold cmp_Or_int
  show cmp_Or_int_1003 0 [x, y] 2 0 = _
  rw [Ecmp_Or_int_1003, show IntKind.wrap .i64 (0 + 1) = 1 from rfl, e1]
  by_cases h : x = 0 <;> simp [boundA, h]
theorem compareSizes_v {s s' : Bool} {h l h' l' : Nat} (hl : l < 2 ^ 64) (hl' : l' < 2 ^ 64) : i_compareSizes s h l s' h' l' = some (Int.sign (((h * 2 ^ 64 + l : Nat) : Int) - ((h' * 2 ^ 64 + l' : Nat) : Int))) := by
  unfold i_compareSizes
  rw [bsome (cmpU_v ..), bsome (cmpU_v ..), bret, cmpOr2_v]
  congr 1
  rcases Int.lt_trichotomy (h : Int) (h' : Int) with hh | hh | hh
  · rw [if_pos (by rw [Int.sign_eq_neg_one_of_neg (by omega)]; decide), Int.sign_eq_neg_one_of_neg (by omega), Int.sign_eq_neg_one_of_neg (by omega)]
  · rw [if_neg (by rw [hh]; simp)]
    congr 1; omega
  · rw [if_pos (by rw [Int.sign_eq_one_of_pos (by omega)]; decide), Int.sign_eq_one_of_pos (by omega), Int.sign_eq_one_of_pos (by omega)]
theorem compareWide_v {s s' : Bool} {h l h' l' : Nat} (hl : l < 2 ^ 64) (hl' : l' < 2 ^ 64) : i_compareWide s h l s' h' l' = some (Int.sign (wv s h l - wv s' h' l')) := by
  have z : ∀ (s : Bool) (h l : Nat), i_wide_isZero s h l = some (decide (h * 2 ^ 64 + l = 0)) := by
    intro s h l
    unfold i_wide_isZero
    by_cases hh : h = 0
    · subst hh; simp
    · rw [cf (by simp; omega)]; congr 1; simp; omega
  unfold i_compareWide
  rw [bsome (z ..)]
  generalize hm : h * 2 ^ 64 + l = m
  generalize hm' : h' * 2 ^ 64 + l' = m'
  have c1 : i_compareSizes s h l s' h' l' = some (Int.sign ((m : Int) - m')) := by rw [compareSizes_v hl hl', hm, hm']
  have c2 : i_compareSizes s' h' l' s h l = some (Int.sign ((m' : Int) - m)) := by rw [compareSizes_v hl' hl, hm, hm']
  unfold wv
  rw [hm, hm']
  have body : (m ≠ 0 ∨ m' ≠ 0) → (bif !s == s' then bif s then some (-1) else some 1 else bif s then (i_compareSizes s' h' l' s h l).bind fun r => some r else (i_compareSizes s h l s' h' l').bind fun r => some r) = some (Int.sign ((if s then -(m : Int) else m) - (if s' then -(m' : Int) else m'))) := by
    intro hne
    rw [bret, bret, c1, c2]
    cases s <;> cases s' <;> simp
    · rw [Int.sign_eq_one_of_pos (by omega)]
    · rw [Int.sign_eq_neg_one_of_neg (by omega)]
    · congr 1; omega
  by_cases h0 : m = 0
  · rw [ct (by simpa using h0), bsome (z ..), hm']
    by_cases h0' : m' = 0
    · rw [ct (by simpa using h0'), h0, h0']; cases s <;> cases s' <;> rfl
    · rw [cf (by simpa using h0')]; exact body (.inr h0')
  · rw [cf (by simpa using h0)]; exact body (.inl h0)
/-! cmpd -/
theorem wv_of {N : Int} {h l k : Nat} (e : h * 2 ^ 64 + l = (0 * 2 ^ 64 + N.natAbs) * 2 ^ k) : wv (decide (N < 0)) h l = N * 2 ^ k := by
  unfold wv
  rw [e, Nat.zero_mul, Nat.zero_add]
  by_cases hn : N < 0
  · rw [if_pos (by simpa using hn)]
    have : N = -((N.natAbs : Nat) : Int) := by omega
    conv => rhs; rw [this]
    simp [Int.neg_mul]
  · rw [if_neg (by simpa using hn)]
    have : N = ((N.natAbs : Nat) : Int) := by omega
    conv => rhs; rw [this]
    simp
theorem wshift_v {N : Int} {k : Nat} (hN : N.natAbs ≤ 1099511627776) (hk : k ≤ 24) : ∃ h l : Nat, i_wide_shift (decide (N < 0)) 0 (N.natAbs : Int) (k : Int) = some (decide (N < 0), (h : Int), (l : Int)) ∧ h < 2 ^ 64 ∧ l < 2 ^ 64 ∧ wv (decide (N < 0)) h l = N * 2 ^ k := by
  have hp : 2 ^ k ≤ 2 ^ 24 := Nat.pow_le_pow_right (by decide) hk
  obtain ⟨h, l, e1, e2, e3, e4⟩ := shiftUp_v (s := decide (N < 0)) (h := 0) (l := N.natAbs) (k := k) (Nat.lt_of_le_of_lt hN (by decide)) (by omega) (by
    have : (0 * 2 ^ 64 + N.natAbs) * 2 ^ k ≤ 1099511627776 * 2 ^ 24 := Nat.mul_le_mul (by omega) hp
    exact Nat.lt_of_le_of_lt this (by decide))
  exact ⟨h, l, e1, e2, e3, wv_of e4⟩
theorem compareD_v {N K M L : Int} (ha : dOk N K = true) (hb : dOk M L = true) : i_compareD N K M L = some (Int.sign (vd24 N K - vd24 M L)) := by
  obtain ⟨a1, a2, _⟩ := dOk_iff.1 ha
  obtain ⟨b1, b2, _⟩ := dOk_iff.1 hb
  unfold i_compareD
  rw [bsome (wideOf_v (by omega) (by omega))]
  obtain ⟨k, hk⟩ : ∃ k : Nat, (bif decide (K < L) then L else K) = (k : Int) ∧ K ≤ k ∧ L ≤ k ∧ k ≤ 24 := by
    by_cases h : K < L
    · exact ⟨L.toNat, by simp [h]; omega⟩
    · exact ⟨K.toNat, by simp [h]; omega⟩
  obtain ⟨hk, k1, k2, k3⟩ := hk
  rw [hk, wrap64 (by omega) (by omega), wrap64 (by omega) (by omega), show (k : Int) - K = ((k - K.toNat : Nat) : Int) by omega, show (k : Int) - L = ((k - L.toNat : Nat) : Int) by omega]
  obtain ⟨h, l, e1, e2, e3, e4⟩ := wshift_v (N := N) (k := k - K.toNat) (by omega) (by omega)
  obtain ⟨h', l', f1, f2, f3, f4⟩ := wshift_v (N := M) (k := k - L.toNat) (by omega) (by omega)
  rw [bsome e1, bsome (wideOf_v (by omega) (by omega)), bsome f1, bret, compareWide_v e3 f3, e4, f4]
  congr 1
  have s := @sgn_scale (N * 2 ^ (k - K.toNat) - M * 2 ^ (k - L.toNat)) (24 - k)
  rw [← s, Int.sub_mul, Int.mul_assoc, Int.mul_assoc, ← Int.pow_add, ← Int.pow_add, show k - K.toNat + (24 - k) = 24 - K.toNat by omega, show k - L.toNat + (24 - k) = 24 - L.toNat by omega]
  rfl
/-! dynorm -/
/-- A number over a power of 2 in its form. -/
def red : Nat → Int → Int × Int
  | 0, n => (n, 0)
  | k + 1, n => if n % 2 = 0 then red k (n / 2) else (n, ((k + 1 : Nat) : Int))
theorem red_zero : ∀ k : Nat, red k 0 = (0, 0)
  | 0 => rfl
  | k + 1 => by rw [red, if_pos (by decide), show (0 : Int) / 2 = 0 from rfl, red_zero k]
theorem red_up (n : Int) : ∀ (j k : Nat), red (k + j) (n * 2 ^ j) = red k n
  | 0, k => by simp
  | j + 1, k => by
    have e : n * 2 ^ (j + 1) = (n * 2 ^ j) * 2 := by rw [Int.pow_succ, Int.mul_assoc]
    rw [show k + (j + 1) = (k + j) + 1 from rfl, red, e, if_pos (Int.mul_emod_left _ _), Int.mul_ediv_cancel _ (by decide), red_up n j k]
theorem red_form {n : Int} {k : Nat} (h : k = 0 ∨ n % 2 ≠ 0) : red k n = (n, (k : Int)) := by
  cases k with
  | zero => rfl
  | succ k => rw [red, if_neg (h.resolve_left (by omega))]
theorem tmod2 {n : Int} : Int.tmod n 2 = 0 ↔ n % 2 = 0 := by
  constructor
  · intro h; exact Int.emod_eq_zero_of_dvd (Int.dvd_of_tmod_eq_zero h)
  · intro h; exact Int.tmod_eq_zero_of_dvd (Int.dvd_of_emod_eq_zero h)
theorem red_dOk {N K : Int} (h : dOk N K = true) {k : Nat} (hk : K ≤ k) : red k (N * 2 ^ (k - K.toNat)) = (N, K) := by
  obtain ⟨h1, h2, h3⟩ := dOk_iff.1 h
  obtain ⟨K, rfl⟩ := Int.eq_ofNat_of_zero_le h1.1
  rw [Int.toNat_natCast]
  have := red_up N (k - K) K
  rw [show K + (k - K) = k by omega] at this
  rw [this, red_form]
  rcases h3 with h3 | h3
  · left; omega
  · right; intro e; exact h3 (tmod2.2 e)
/-- What the form is. -/
theorem red_spec : ∀ (k : Nat) (n : Int), ∃ r : Nat, (red k n).2 = (r : Int) ∧ r ≤ k ∧ n = (red k n).1 * 2 ^ (k - r) ∧ (r = 0 ∨ (red k n).1 % 2 ≠ 0)
  | 0, n => ⟨0, rfl, Nat.le_refl _, by simp [red], .inl rfl⟩
  | k + 1, n => by
    by_cases h : n % 2 = 0
    · obtain ⟨r, h1, h2, h3, h4⟩ := red_spec k (n / 2)
      have e : red (k + 1) n = red k (n / 2) := by rw [red, if_pos h]
      rw [e]
      refine ⟨r, h1, by omega, ?_, h4⟩
      have e2 : n = n / 2 * 2 := by omega
      rw [show k + 1 - r = (k - r) + 1 by omega, Int.pow_succ, ← Int.mul_assoc, ← h3]
      exact e2
    · have e : red (k + 1) n = (n, ((k + 1 : Nat) : Int)) := by rw [red, if_neg h]
      rw [e]
      exact ⟨k + 1, rfl, Nat.le_refl _, by simp, .inr h⟩
theorem red_abs (k : Nat) (n : Int) : (red k n).1.natAbs ≤ n.natAbs := by
  obtain ⟨r, _, _, h3, _⟩ := red_spec k n
  conv => rhs; rw [h3]
  rw [Int.natAbs_mul]
  exact Nat.le_mul_of_pos_right _ (Int.natAbs_pos.2 (Int.ne_of_gt (Int.pow_pos (by decide))))
/-- A number over a power of 2, if it is valid. -/
def dmk (k : Nat) (n : Int) : (Int × Int) × Bool := bif dOk (red k n).1 (red k n).2 then (red k n, true) else ((0, 0), false)
theorem dmk_eq {k k' : Nat} {n n' : Int} (h : red k n = red k' n') : dmk k n = dmk k' n' := by unfold dmk; rw [h]
theorem red_ok {k : Nat} {n : Int} (hk : k ≤ 24) (hn : n.natAbs ≤ 1099511627776) : dOk (red k n).1 (red k n).2 = true := by
  obtain ⟨r, h1, h2, h3, h4⟩ := red_spec k n
  have := red_abs k n
  rw [dOk_iff, h1]
  refine ⟨by omega, by omega, ?_⟩
  rcases h4 with h4 | h4
  · left; omega
  · right; intro e; exact h4 (tmod2.1 e)
theorem dmk_ok {k : Nat} {n : Int} (hk : k ≤ 24) (hn : n.natAbs ≤ 1099511627776) : dmk k n = (red k n, true) := by unfold dmk; rw [red_ok hk hn]; rfl
theorem red_v24 {k : Nat} {n : Int} (hk : k ≤ 24) : vd24 (red k n).1 (red k n).2 = n * 2 ^ (24 - k) := by
  obtain ⟨r, h1, h2, h3, h4⟩ := red_spec k n
  unfold vd24
  rw [h1, Int.toNat_natCast]
  conv => rhs; rw [h3]
  rw [Int.mul_assoc, ← Int.pow_add, show k - r + (24 - k) = 24 - r by omega]
theorem dmk_scale {k j : Nat} {n : Int} : dmk (k + j) (n * 2 ^ j) = dmk k n := dmk_eq (red_up n j k)
theorem dmk_zero (k : Nat) : dmk k 0 = ((0, 0), true) := by unfold dmk; rw [red_zero]; rfl
/-! dymake -/
theorem dyMake_loop {t0 t1 : Int} : ∀ (k : Nat) (n : Int), k ≤ 1000 → n.natAbs ≤ 4611686018427387904 → s_dyMake_1003 n (k : Int) t0 t1 = some (dmk k n) := by
  have fin : ∀ (k : Nat) (n : Int), (k = 0 ∨ n % 2 ≠ 0) → ((s_dyGood n (k : Int)).bind fun r => bif !r then some (((0 : Int), (0 : Int)), false) else some ((n, (k : Int)), true)) = some (dmk k n) := by
    intro k n hf
    rw [bsome (dyGood_v ..)]
    unfold dmk
    rw [red_form hf]
    cases dOk n (k : Int) <;> rfl
  intro k
  induction k with
  | zero =>
    intro n _ _
    rw [Es_dyMake_1003, cf (by decide)]
    exact fin 0 n (.inl rfl)
  | succ k ih =>
    intro n hk hn
    rw [Es_dyMake_1003, ct (decide_eq_true (by omega))]
    by_cases he : n % 2 = 0
    · have e2 : Int.tdiv n 2 = n / 2 := by rw [Int.tdiv_eq_ediv_of_dvd (Int.dvd_of_emod_eq_zero he)]
      rw [ct (decide_eq_true (tmod2.2 he)), e2, wrap64 (n := n / 2) (by omega) (by omega), wrap64 (n := ((k + 1 : Nat) : Int) - 1) (by omega) (by omega), show ((k + 1 : Nat) : Int) - 1 = (k : Int) by omega, ih (n / 2) (by omega) (by omega)]
      congr 1
      have := @dmk_scale k 1 (n / 2)
      rw [← this]
      congr 1
      omega
    · rw [cf (decide_eq_false (by rw [tmod2]; exact he))]
      exact fin (k + 1) n (.inr he)
theorem dyMake_v {k : Nat} {n : Int} (hk : k ≤ 1000) (hn : n.natAbs ≤ 4611686018427387904) : s_dyMake n (k : Int) = some (dmk k n) := by
  unfold s_dyMake
  by_cases h0 : n = 0
  · subst h0
    rw [ct (by decide)]
    by_cases hk0 : (0 : Int) < k
    · rw [ct (decide_eq_true hk0)]
      have := dyMake_loop (t0 := 0) (t1 := 0) 0 0 (by omega) (by omega)
      rw [dmk_zero] at this ⊢
      exact this
    · rw [cf (decide_eq_false hk0)]
      exact dyMake_loop k 0 hk hn
  · rw [cf (decide_eq_false h0)]
    exact dyMake_loop k n hk hn
/-! boxnum -/
theorem box_num {b : Bx} (hb : bOkB b = true) {i : Nat} (hi : i < b.2.1.length) : (b.2.1.getD i 0).natAbs ≤ 2048 ∧ (b.2.2.getD i 0).natAbs ≤ 2048 := by
  obtain ⟨K, lo, hh⟩ := b
  have hp := bOk_parts hb
  unfold bOkB bOk at hb
  simp only [Bool.and_eq_true, List.all_eq_true, List.mem_range] at hb
  have h1 := hb.2.1 i hi
  unfold bSide at h1
  have h2 := p2le (show K.toNat ≤ 8 by have := hp.1; have := hp.2.1; omega)
  have h2 : (2 : Int) ^ K.toNat ≤ 256 := h2
  have h1 := of_decide_eq_true h1
  show (lo.getD i 0).natAbs ≤ 2048 ∧ (hh.getD i 0).natAbs ≤ 2048
  generalize lo.getD i 0 = x at h1
  generalize hh.getD i 0 = y at h1
  omega
theorem bxNumber_v {n K : Int} (h0 : 0 ≤ K) (h1 : K ≤ 24) (hn : n.natAbs ≤ 1099511627776) : s_bxNumber n K = some (red K.toNat n) := by
  obtain ⟨k, rfl⟩ := Int.eq_ofNat_of_zero_le h0
  unfold s_bxNumber
  rw [bsome (dyMake_v (by omega) (by omega)), Int.toNat_natCast, dmk_ok (by omega) hn]
/-! vols -/
/-! Volumes of boxes, times 2^27. -/
def prd : List Int → Int
  | [] => 1
  | x :: xs => x * prd xs
/-- The widths of a box's sides. -/
def wds (lo hi : List Int) : List Int := List.zipWith (fun l h => h - l) lo hi
theorem prd_dbl : ∀ (w : List Int), prd (w.map (2 * ·)) = 2 ^ w.length * prd w
  | [] => rfl
  | x :: xs => by
    have ih := prd_dbl xs
    simp only [List.map_cons, prd, List.length_cons, Int.pow_succ] at ih ⊢
    rw [ih]
    grind
theorem prd_set : ∀ (w : List Int) (i : Nat) (h : i < w.length), 2 * prd ((w.map (2 * ·)).set i (w[i])) = 2 ^ w.length * prd w
  | x :: xs, 0, _ => by
    have ih := prd_dbl xs
    simp only [List.map_cons, List.set_cons_zero, prd, List.length_cons, Int.pow_succ, List.getElem_cons_zero]
    rw [ih]
    grind
  | x :: xs, i + 1, h => by
    have ih := prd_set xs i (by simpa using h)
    simp only [List.map_cons, List.set_cons_succ, prd, List.length_cons, Int.pow_succ, List.getElem_cons_succ]
    grind
theorem prd_le {m : Int} (hm : 0 ≤ m) : ∀ (w : List Int), (∀ x ∈ w, 0 ≤ x ∧ x ≤ m) → 0 ≤ prd w ∧ prd w ≤ m ^ w.length
  | [], _ => by simp [prd]
  | x :: xs, h => by
    obtain ⟨h1, h2⟩ := h x (List.mem_cons_self ..)
    obtain ⟨i1, i2⟩ := prd_le hm xs fun y hy => h y (List.mem_cons_of_mem _ hy)
    simp only [prd, List.length_cons, Int.pow_succ]
    refine ⟨Int.mul_nonneg h1 i1, ?_⟩
    rw [Int.mul_comm]
    exact Int.mul_le_mul i2 h2 h1 (Int.pow_nonneg hm)
def vol (k : Nat) (lo hi : List Int) : Int := prd (wds lo hi) * 2 ^ (27 - lo.length * k)
def volB (b : Bx) : Int := vol b.1.toNat b.2.1 b.2.2
theorem wds_dbl (lo hi : List Int) : wds (lo.map (2 * ·)) (hi.map (2 * ·)) = (wds lo hi).map (2 * ·) := by
  unfold wds
  rw [List.zipWith_map, List.map_zipWith]
  congr 1
  funext a b
  omega
theorem wds_len {lo hi : List Int} (h : hi.length = lo.length) : (wds lo hi).length = lo.length := by unfold wds; simp [h]
theorem hv2_even {x : Int} (h : x.natAbs ≤ 8192) (he : Int.tmod x 2 = 0) : 2 * hv2 x = x := by
  unfold hv2
  have h2 : x % 2 = 0 := tmod2.1 he
  have e2 : Int.tdiv x 2 = x / 2 := by rw [Int.tdiv_eq_ediv_of_dvd (Int.dvd_of_emod_eq_zero h2)]
  rw [e2, wrap64 (n := x / 2) (by omega) (by omega)]
  omega
theorem nrm_vol : ∀ (k : Nat) (lo hi : List Int), k ≤ 9 → lo.length ≤ 3 → hi.length = lo.length → (∀ c ∈ lo ++ hi, c.natAbs ≤ 8192) → volB (nrm k lo hi) = vol k lo hi
  | 0, lo, hi, _, _, _, _ => rfl
  | k + 1, lo, hi, hk, hl, he, hb => by
    unfold nrm
    cases hv : evn lo hi with
    | false => rfl
    | true =>
      rw [cond_true]
      unfold evn at hv
      rw [List.all_eq_true] at hv
      have hlo : (lo.map hv2).map (2 * ·) = lo := by
        rw [List.map_map]
        conv => rhs; rw [← List.map_id lo]
        refine List.map_congr_left fun c hc => ?_
        exact hv2_even (hb c (List.mem_append_left _ hc)) (of_decide_eq_true (hv c (List.mem_append_left _ hc)))
      have hhi : (hi.map hv2).map (2 * ·) = hi := by
        rw [List.map_map]
        conv => rhs; rw [← List.map_id hi]
        refine List.map_congr_left fun c hc => ?_
        exact hv2_even (hb c (List.mem_append_right _ hc)) (of_decide_eq_true (hv c (List.mem_append_right _ hc)))
      rw [nrm_vol k (lo.map hv2) (hi.map hv2) (by omega) (by simpa using hl) (by simpa using he) (fun c hc => ?_)]
      · unfold vol
        conv => rhs; rw [← hlo, ← hhi, wds_dbl, prd_dbl, wds_len (by simpa using he)]
        simp only [List.length_map]
        have e1 : 27 - lo.length * k = lo.length + (27 - lo.length * (k + 1)) := by
          have : lo.length * (k + 1) ≤ 27 := Nat.le_trans (Nat.mul_le_mul hl hk) (by decide)
          have : lo.length * (k + 1) = lo.length * k + lo.length := Nat.mul_succ _ _
          omega
        rw [e1, Int.pow_add]
        grind
      · rw [← List.map_append] at hc
        obtain ⟨c', hc', rfl⟩ := List.mem_map.1 hc
        have h1 := hv2_even (hb c' hc') (of_decide_eq_true (hv c' hc'))
        have h2 := hb c' hc'
        omega
theorem dbl_eq {x : Int} (h : x.natAbs ≤ 2048) : dbl x = 2 * x := by unfold dbl; exact wrap64 (by omega) (by omega)
theorem box_at {b : Bx} (hb : bOkB b = true) {i : Nat} (hi : i < b.2.1.length) (hi' : i < b.2.2.length) : b.2.1[i].natAbs ≤ 2048 ∧ b.2.2[i].natAbs ≤ 2048 := by
  have := box_num hb hi
  rw [List.getD_eq_getElem?_getD, List.getElem?_eq_getElem hi, List.getD_eq_getElem?_getD, List.getElem?_eq_getElem hi'] at this
  exact this
theorem hlv_vol {b x y : Bx} {i : Nat} (hb : bOkB b = true) (hi : i < b.2.1.length) (h : hlv b i = ([x, y], true)) : volB x + volB y = volB b := by
  obtain ⟨p1, p2, p3, p4, p5⟩ := bOk_parts hb
  have hi' : i < b.2.2.length := by rw [p5]; exact hi
  have hA : ∀ {lo hi : List Int} {x : Bx}, (bmk (b.1.toNat + 1) lo hi).2 = true → (bmk (b.1.toNat + 1) lo hi).1 = x → lo.length = b.2.1.length → hi.length = b.2.1.length → (∀ c ∈ lo ++ hi, c.natAbs ≤ 8192) → volB x = vol (b.1.toNat + 1) lo hi := by
    intro lo hi x h1 h2 h3 h4 h5
    rw [← nrm_vol _ lo hi (by omega) (by omega) (by omega) h5, ← h2]
    unfold bmk at h1 ⊢
    cases hc : bOkB (nrm (b.1.toNat + 1) lo hi) with
    | true => rfl
    | false => rw [hc] at h1; cases h1
  unfold hlv at h
  cases hc : (hfA b i).2 && (hfB b i).2 with
  | false => rw [hc] at h; cases h
  | true =>
    rw [hc, cond_true] at h
    rw [Bool.and_eq_true] at hc
    simp only [Prod.mk.injEq, List.cons.injEq, and_true] at h
    obtain ⟨e1, e2⟩ := h
    have hmid : midS b i = b.2.1[i] + b.2.2[i] := by
      unfold midS
      have := box_at hb hi hi'
      rw [List.getD_eq_getElem?_getD, List.getElem?_eq_getElem hi, List.getD_eq_getElem?_getD, List.getElem?_eq_getElem hi', Option.getD_some, Option.getD_some, wrap64 (by omega) (by omega)]
    have bd : ∀ c, c ∈ b.2.1 ∨ c ∈ b.2.2 → c.natAbs ≤ 2048 := by
      intro c hc
      rcases hc with hc | hc
      · obtain ⟨j, hj, rfl⟩ := List.getElem_of_mem hc
        exact (box_at hb hj (by omega)).1
      · obtain ⟨j, hj, rfl⟩ := List.getElem_of_mem hc
        exact (box_at hb (by omega) hj).2
    have hm := box_at hb hi hi'
    have bd2 : ∀ c ∈ (b.2.1.map dbl).set i (midS b i) ++ (b.2.2.map dbl).set i (midS b i) ++ (b.2.1.map dbl ++ b.2.2.map dbl), c.natAbs ≤ 8192 := by
      intro c hc
      simp only [List.mem_append] at hc
      have h1 : ∀ l : List Int, (∀ c ∈ l, c.natAbs ≤ 2048) → c ∈ l.map dbl → c.natAbs ≤ 8192 := by
        intro l hl hc
        obtain ⟨c', hc', rfl⟩ := List.mem_map.1 hc
        have := hl c' hc'
        rw [dbl_eq this]; omega
      have h2 : ∀ l : List Int, (∀ c ∈ l, c.natAbs ≤ 2048) → c ∈ (l.map dbl).set i (midS b i) → c.natAbs ≤ 8192 := by
        intro l hl hc
        rcases List.mem_or_eq_of_mem_set hc with hc | rfl
        · exact h1 l hl hc
        · rw [hmid]; omega
      rcases hc with (hc | hc) | (hc | hc)
      · exact h2 _ (fun c hc => bd c (.inl hc)) hc
      · exact h2 _ (fun c hc => bd c (.inr hc)) hc
      · exact h1 _ (fun c hc => bd c (.inl hc)) hc
      · exact h1 _ (fun c hc => bd c (.inr hc)) hc
    have wl := wds_len (lo := b.2.1) (hi := b.2.2) p5
    have v1 := hA hc.1 e1 (by simp) (by simp [p5]) (fun c hc => bd2 c (by simp only [List.mem_append] at hc ⊢; rcases hc with h | h; exact .inr (.inl h); exact .inl (.inr h)))
    have v2 := hA hc.2 e2 (by simp) (by simp [p5]) (fun c hc => bd2 c (by simp only [List.mem_append] at hc ⊢; rcases hc with h | h; exact .inl (.inl h); exact .inr (.inr h)))
    have w1 : wds (b.2.1.map dbl) ((b.2.2.map dbl).set i (midS b i)) = ((wds b.2.1 b.2.2).map (2 * ·)).set i (wds b.2.1 b.2.2)[i] := by
      refine List.ext_getElem (by simp [wds]) fun j h1 h2 => ?_
      have hj : j < b.2.1.length := by simpa [wds, p5] using h1
      have := box_at hb hj (by omega)
      simp only [wds, List.getElem_zipWith, List.getElem_set, List.getElem_map]
      by_cases hij : i = j
      · subst hij
        rw [if_pos rfl, if_pos rfl]; have d1 := dbl_eq this.1; omega
      · rw [if_neg hij, if_neg hij]; have d1 := dbl_eq this.1; have d2 := dbl_eq this.2; omega
    have w2 : wds ((b.2.1.map dbl).set i (midS b i)) (b.2.2.map dbl) = ((wds b.2.1 b.2.2).map (2 * ·)).set i (wds b.2.1 b.2.2)[i] := by
      refine List.ext_getElem (by simp [wds]) fun j h1 h2 => ?_
      have hj : j < b.2.1.length := by simpa [wds, p5] using h1
      have := box_at hb hj (by omega)
      simp only [wds, List.getElem_zipWith, List.getElem_set, List.getElem_map]
      by_cases hij : i = j
      · subst hij
        rw [if_pos rfl, if_pos rfl]; have d1 := dbl_eq this.2; omega
      · rw [if_neg hij, if_neg hij]; have d1 := dbl_eq this.1; have d2 := dbl_eq this.2; omega
    rw [v1, v2]
    unfold volB vol
    rw [w1, w2, List.length_map, List.length_set, List.length_map]
    have hp := prd_set (wds b.2.1 b.2.2) i (by omega)
    generalize prd (((wds b.2.1 b.2.2).map (2 * ·)).set i (wds b.2.1 b.2.2)[i]) = P at hp ⊢
    have hp : 2 * P = 2 ^ b.2.1.length * prd (wds b.2.1 b.2.2) := by rw [hp, wl]
    have e3 : 27 - b.2.1.length * b.1.toNat = b.2.1.length + (27 - b.2.1.length * (b.1.toNat + 1)) := by
      have : b.2.1.length * (b.1.toNat + 1) ≤ 3 * 9 := Nat.mul_le_mul p4 (by omega)
      have : b.2.1.length * (b.1.toNat + 1) = b.2.1.length * b.1.toNat + b.2.1.length := Nat.mul_succ _ _
      omega
    rw [e3, Int.pow_add]
    generalize (2 : Int) ^ (27 - b.2.1.length * (b.1.toNat + 1)) = B
    generalize (2 : Int) ^ b.2.1.length = A at hp ⊢
    grind
theorem wds_bd {b : Bx} (hb : bOkB b = true) : ∀ w ∈ wds b.2.1 b.2.2, 0 ≤ w ∧ w ≤ 16 * 2 ^ b.1.toNat := by
  intro w hw
  obtain ⟨_, _, _, _, p5⟩ := bOk_parts hb
  obtain ⟨j, hj, rfl⟩ := List.getElem_of_mem hw
  rw [wds_len p5] at hj
  unfold bOkB bOk at hb
  simp only [Bool.and_eq_true, List.all_eq_true, List.mem_range] at hb
  have h1 := hb.2.1 j hj
  unfold bSide at h1
  have h1 := of_decide_eq_true h1
  rw [List.getD_eq_getElem?_getD, List.getElem?_eq_getElem hj, List.getD_eq_getElem?_getD, List.getElem?_eq_getElem (by omega), Option.getD_some, Option.getD_some] at h1
  simp only [wds, List.getElem_zipWith]
  omega
theorem volB_bd {b : Bx} (hb : bOkB b = true) : 0 ≤ prd (wds b.2.1 b.2.2) ∧ prd (wds b.2.1 b.2.2) ≤ 68719476736 ∧ 0 ≤ volB b ∧ volB b ≤ 549755813888 := by
  obtain ⟨p1, p2, p3, p4, p5⟩ := bOk_parts hb
  have hp : (0 : Int) < 2 ^ b.1.toNat := p2pos _
  obtain ⟨h1, h2⟩ := prd_le (m := 16 * 2 ^ b.1.toNat) (by omega) (wds b.2.1 b.2.2) (wds_bd hb)
  rw [wds_len p5] at h2
  have e1 : ((16 : Int) * 2 ^ b.1.toNat) ^ b.2.1.length = 2 ^ ((4 + b.1.toNat) * b.2.1.length) := by
    rw [show (16 : Int) = 2 ^ 4 from rfl, ← Int.pow_add, Int.pow_mul]
  rw [e1] at h2
  have hm : b.2.1.length * b.1.toNat ≤ 3 * 8 := Nat.mul_le_mul p4 (by omega)
  have hm2 : (4 + b.1.toNat) * b.2.1.length = 4 * b.2.1.length + b.2.1.length * b.1.toNat := by rw [Nat.add_mul, Nat.mul_comm b.1.toNat]
  refine ⟨h1, Int.le_trans h2 (p2le (n := 36) (by omega)), Int.mul_nonneg h1 (Int.le_of_lt (p2pos _)), ?_⟩
  unfold volB vol
  refine Int.le_trans (Int.mul_le_mul_of_nonneg_right h2 (Int.le_of_lt (p2pos _))) ?_
  rw [← Int.pow_add]
  exact p2le (n := 39) (by omega)
def vsum : List Bx → Int
  | [] => 0
  | b :: bs => volB b + vsum bs
theorem vsum_nn : ∀ {bs : List Bx}, (∀ b ∈ bs, bOkB b = true) → 0 ≤ vsum bs
  | [], _ => Int.le_refl _
  | b :: bs, h => Int.add_nonneg (volB_bd (h b (List.mem_cons_self ..))).2.2.1 (vsum_nn fun x hx => h x (List.mem_cons_of_mem _ hx))
theorem lbx_vol {s : Nat} : ∀ {l : List Nd} {st bs : List Bx}, (∀ n ∈ l, vN s n = true) → (∀ b ∈ st, bOkB b = true ∧ b.2.1.length = s) → lbx l st = some bs → vsum bs ≤ vsum st
  | [], st, bs, _, hst, h => by
    unfold lbx at h
    cases h
    exact vsum_nn fun b hb => (hst b hb).1
  | n :: l, [], bs, _, hst, h => by
    unfold lbx at h
    cases h
    exact Int.le_refl _
  | n :: l, x :: st, bs, hn, hst, h => by
    unfold lbx at h
    have hx := hst x (List.mem_cons_self ..)
    split at h
    · rename_i h0
      split at h
      · rename_i a b hab
        have hr := vN_halve (hn n (List.mem_cons_self ..)) h0
        have hi : n.2.toNat < x.2.1.length := by omega
        have hv := hlv_vol hx.1 hi hab
        obtain ⟨a', b', e, o1, o2, o3, o4⟩ := hlv_ok (b := x) (i := n.2.toNat) (by rw [hab])
        rw [hab] at e
        simp only [Prod.mk.injEq, List.cons.injEq, and_true] at e
        obtain ⟨rfl, rfl⟩ := e
        have := lbx_vol (s := s) (fun m hm => hn m (List.mem_cons_of_mem _ hm)) (fun c hc => by
          rcases List.mem_cons.1 hc with rfl | hc
          · exact ⟨o1, by omega⟩
          · rcases List.mem_cons.1 hc with rfl | hc
            · exact ⟨o2, by omega⟩
            · exact hst c (List.mem_cons_of_mem _ hc)) h
        simp only [vsum] at this ⊢
        omega
      · cases h
    · cases hl : lbx l st with
      | none => rw [hl] at h; cases h
      | some r =>
        rw [hl] at h
        cases h
        have := lbx_vol (s := s) (fun m hm => hn m (List.mem_cons_of_mem _ hm)) (fun c hc => hst c (List.mem_cons_of_mem _ hc)) hl
        simp only [vsum]
        omega
end Go.Proofs.YtchdegcfohegfaaE
