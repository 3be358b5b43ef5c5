/- Plain lemmas on what the printed functions come to. -/
import Derived.Test.YtkahcjnkmbbplaaLF
set_option maxRecDepth 100000
set_option linter.unusedVariables false
set_option linter.unusedSimpArgs false
namespace Go.Proofs.YtkahcjnkmbbplaaE
/-! dyok -/
/-- Whether a dyadic number is valid. -/
def dOk (N K : Int) : Bool := decide ((0 ≤ K ∧ K ≤ 24) ∧ (-1099511627776 ≤ N ∧ N ≤ 1099511627776) ∧ (K = 0 ∨ Int.tmod N 2 ≠ 0))
theorem dOk_iff {N K : Int} : dOk N K = true ↔ ((0 ≤ K ∧ K ≤ 24) ∧ (-1099511627776 ≤ N ∧ N ≤ 1099511627776) ∧ (K = 0 ∨ Int.tmod N 2 ≠ 0)) := by simp [dOk]
theorem dyGood_v (N K : Int) : s_dyGood N K = some (dOk N K) := by
  unfold s_dyGood dOk
  rw [bsome (l1In_v ..)]
  by_cases h1 : 0 ≤ K ∧ K ≤ 24
  · rw [ct (by simpa using h1), bsome (l1In_v ..)]
    by_cases h2 : -1099511627776 ≤ N ∧ N ≤ 1099511627776
    · rw [ct (by simpa using h2)]
      by_cases h3 : K = 0
      · rw [ct (by simpa using h3)]; simp [h2, h3]
      · rw [cf (by simpa using h3)]; simp [h1, h2, h3]
    · rw [cf (by simp; omega)]; simp [h2]
  · rw [cf (by simp; omega)]; simp [h1]
/-- A number over 2^24. -/
def v24 (N K : Int) : Int := N * 2 ^ (24 - K.toNat)
theorem sgn_scale {a : Int} {k : Nat} : Int.sign (a * 2 ^ k) = Int.sign a := by
  have hp : (0 : Int) < 2 ^ k := Int.pow_pos (by decide)
  rw [Int.sign_mul, Int.sign_eq_one_of_pos hp, Int.mul_one]
/-! dyok2 -/
theorem isDyadic_v (N K : Int) : i_isDyadic N K = some (dOk N K) := by
  unfold i_isDyadic i_isPlaces dOk
  rw [inside_v, bret, Option.bind_some]
  by_cases h1 : 0 ≤ K ∧ K ≤ 24
  · rw [ct (by simpa using h1), bsome (inside_v ..)]
    by_cases h2 : -1099511627776 ≤ N ∧ N ≤ 1099511627776
    · rw [ct (by simpa using h2)]
      by_cases h3 : K = 0
      · rw [ct (by simpa using h3)]; simp [h2, h3]
      · rw [cf (by simpa using h3)]; simp [h1, h2, h3]
    · rw [cf (by simp; omega)]; simp [h2]
  · rw [cf (by simp; omega)]; simp [h1]
/-! cmpint -/
theorem sign_ne {n : Int} : Int.sign n = 0 ↔ n = 0 := Int.sign_eq_zero_iff_zero
/-! u64 -/
theorem wrapu (n : Int) : IntKind.wrap .u64 n = n % 18446744073709551616 := by
  unfold IntKind.wrap
  rw [show IntKind.signed .u64 = false from rfl, show IntKind.bits .u64 = 64 from rfl]
  simp
theorem wrapu_nat {n : Nat} (h : n < 18446744073709551616) : IntKind.wrap .u64 (n : Int) = (n : Int) := by rw [wrapu]; omega
theorem fdiv_nat (a b : Nat) : Int.fdiv (a : Int) (b : Int) = ((a / b : Nat) : Int) := by
  rw [Int.fdiv_eq_ediv_of_nonneg _ (by omega)]; rfl
theorem pow_nat (k : Nat) : (2 : Int) ^ k = ((2 ^ k : Nat) : Int) := by simp
/-! wide -/
/-! 64-bit numbers without a sign -/
theorem bor {a b : Nat} (ha : a < 2 ^ 64) (hb : b < 2 ^ 64) : (BitVec.ofInt 64 (a : Int) ||| BitVec.ofInt 64 (b : Int)).toNat = a ||| b := by
  rw [BitVec.toNat_or, BitVec.ofInt_natCast, BitVec.ofInt_natCast, BitVec.toNat_ofNat, BitVec.toNat_ofNat, Nat.mod_eq_of_lt ha, Nat.mod_eq_of_lt hb]
theorem bits64 : IntKind.bits .u64 = 64 := rfl
theorem size_v {n : Int} (h1 : -4611686018427387904 ≤ n) (h2 : n ≤ 4611686018427387904) : i_size n = some (n.natAbs : Int) := by
  unfold i_size
  by_cases h : n < 0
  · rw [ct (by simpa using h), wrap64 (n := 0 - n) (by omega) (by omega), wrapu]
    congr 1; omega
  · rw [cf (by simpa using h), wrapu]
    congr 1; omega
theorem wideOf_v {n : Int} (h1 : -4611686018427387904 ≤ n) (h2 : n ≤ 4611686018427387904) : i_wideOf n = some (decide (n < 0), 0, (n.natAbs : Int)) := by
  unfold i_wideOf; rw [bsome (size_v h1 h2)]
/-- A number of 128 bits, up. -/
theorem shiftUp_v {s : Bool} {h l k : Nat} (hl : l < 2 ^ 64) (hk : k < 64) (hm : (h * 2 ^ 64 + l) * 2 ^ k < 2 ^ 128) :
    ∃ h' l' : Nat, i_wide_shift s (h : Int) (l : Int) (k : Int) = some (s, (h' : Int), (l' : Int)) ∧ h' < 2 ^ 64 ∧ l' < 2 ^ 64 ∧ h' * 2 ^ 64 + l' = (h * 2 ^ 64 + l) * 2 ^ k := by
  have hp : 0 < 2 ^ k := Nat.two_pow_pos k
  have hhk : h * 2 ^ k < 2 ^ 64 := by
    have h1 : h * 2 ^ 64 * 2 ^ k ≤ (h * 2 ^ 64 + l) * 2 ^ k := Nat.mul_le_mul_right _ (Nat.le_add_right _ _)
    have h2 : h * 2 ^ 64 * 2 ^ k = h * 2 ^ k * 2 ^ 64 := Nat.mul_right_comm _ _ _
    rw [h2] at h1
    have h3 : h * 2 ^ k * 2 ^ 64 < 2 ^ 64 * 2 ^ 64 := Nat.lt_of_le_of_lt h1 (by rw [show (2 : Nat) ^ 64 * 2 ^ 64 = 2 ^ 128 from by decide]; exact hm)
    exact Nat.lt_of_mul_lt_mul_right h3
  have hsplit : 2 ^ (64 - k) * 2 ^ k = 2 ^ 64 := by rw [← Nat.pow_add]; congr 1; omega
  have hlow : l / 2 ^ (64 - k) < 2 ^ k := by
    rw [Nat.div_lt_iff_lt_mul (Nat.two_pow_pos _), Nat.mul_comm, hsplit]; exact hl
  have hq : l * 2 ^ k / 2 ^ 64 = l / 2 ^ (64 - k) := by rw [← hsplit, Nat.mul_div_mul_right _ _ hp]
  have hor : h * 2 ^ k ||| l / 2 ^ (64 - k) = h * 2 ^ k + l / 2 ^ (64 - k) := by
    have := Nat.two_pow_add_eq_or_of_lt hlow h
    rw [Nat.mul_comm h, this]
  have h64 : l / 2 ^ (64 - k) < 2 ^ 64 := Nat.lt_of_lt_of_le hlow (Nat.pow_le_pow_right (by decide) (by omega))
  have hsum : h * 2 ^ k + l / 2 ^ (64 - k) < 2 ^ 64 := by
    have e : (h * 2 ^ 64 + l) * 2 ^ k = h * 2 ^ k * 2 ^ 64 + l * 2 ^ k := by rw [Nat.add_mul, Nat.mul_right_comm]
    rw [e] at hm
    have : (h * 2 ^ k * 2 ^ 64 + l * 2 ^ k) / 2 ^ 64 < 2 ^ 64 := by rw [Nat.div_lt_iff_lt_mul (by decide)]; exact Nat.lt_of_lt_of_eq hm (by decide)
    rwa [Nat.add_comm, Nat.add_mul_div_right _ _ (by decide), hq, Nat.add_comm] at this
  refine ⟨h * 2 ^ k + l / 2 ^ (64 - k), l * 2 ^ k % 2 ^ 64, ?_, hsum, Nat.mod_lt _ (by decide), ?_⟩
  · unfold i_wide_shift
    rw [ct (by simp), cf (by simp; omega), ct (by simp), wrap64 (n := 64 - (k : Int)) (by omega) (by omega), ct (by simp; omega), ct (by simp)]
    rw [Int.toNat_natCast, show Int.toNat (64 - (k : Int)) = 64 - k by omega, bits64, Nat.min_eq_left (by omega), Nat.min_eq_left (by omega), pow_nat, pow_nat]
    rw [show (h : Int) * ((2 ^ k : Nat) : Int) = ((h * 2 ^ k : Nat) : Int) by simp, show (l : Int) * ((2 ^ k : Nat) : Int) = ((l * 2 ^ k : Nat) : Int) by simp, fdiv_nat, wrapu_nat hhk, bor hhk h64, hor, wrapu_nat hsum, wrapu]
    rfl
  · rw [← hq, Nat.add_mul, Nat.add_mul, Nat.mul_right_comm, Nat.add_assoc]
    congr 1
    rw [Nat.mul_comm (l * 2 ^ k / 2 ^ 64)]
    exact Nat.div_add_mod _ _
/-- The value of a number of 128 bits. -/
def wv (s : Bool) (h l : Nat) : Int := if s then -((h * 2 ^ 64 + l : Nat) : Int) else ((h * 2 ^ 64 + l : Nat) : Int)
theorem cmpU_v (x y : Int) : cmp_Compare_uint64 x y = some (Int.sign (x - y)) := by
  unfold cmp_Compare_uint64
  simp only [decide_true, Bool.not_true, cond_false, Bool.cond_decide]
  split
  · rw [Int.sign_eq_neg_one_of_neg (by omega)]
  · split
    · rw [Int.sign_eq_one_of_pos (by omega)]
    · rw [show x - y = 0 by omega]; rfl
theorem cmpOr2_v (x y : Int) : cmp_Or_int [x, y] = some (if x ≠ 0 then x else y) := by
  have e0 : cmp_Or_int_1003 0 [x, y] 2 2 = some 0 := by rw [Ecmp_Or_int_1003]; rfl
  have e1 : cmp_Or_int_1003 0 [x, y] 2 1 = some y := by
    rw [Ecmp_Or_int_1003, show IntKind.wrap .i64 (1 + 1) = 2 from rfl, e0]
    by_cases h : y = 0 <;> simp [boundA, h]
  unfold cmp_Or_int
  show cmp_Or_int_1003 0 [x, y] 2 0 = _
  rw [Ecmp_Or_int_1003, show IntKind.wrap .i64 (0 + 1) = 1 from rfl, e1]
  by_cases h : x = 0 <;> simp [boundA, h]
theorem compareSizes_v {s s' : Bool} {h l h' l' : Nat} (hl : l < 2 ^ 64) (hl' : l' < 2 ^ 64) : i_compareSizes s h l s' h' l' = some (Int.sign (((h * 2 ^ 64 + l : Nat) : Int) - ((h' * 2 ^ 64 + l' : Nat) : Int))) := by
  unfold i_compareSizes
  rw [bsome (cmpU_v ..), bsome (cmpU_v ..), bret, cmpOr2_v]
  congr 1
  rcases Int.lt_trichotomy (h : Int) (h' : Int) with hh | hh | hh
  · rw [if_pos (by rw [Int.sign_eq_neg_one_of_neg (by omega)]; decide), Int.sign_eq_neg_one_of_neg (by omega), Int.sign_eq_neg_one_of_neg (by omega)]
  · rw [if_neg (by rw [hh]; simp)]
    congr 1; omega
  · rw [if_pos (by rw [Int.sign_eq_one_of_pos (by omega)]; decide), Int.sign_eq_one_of_pos (by omega), Int.sign_eq_one_of_pos (by omega)]
theorem compareWide_v {s s' : Bool} {h l h' l' : Nat} (hl : l < 2 ^ 64) (hl' : l' < 2 ^ 64) : i_compareWide s h l s' h' l' = some (Int.sign (wv s h l - wv s' h' l')) := by
  have z : ∀ (s : Bool) (h l : Nat), i_wide_isZero s h l = some (decide (h * 2 ^ 64 + l = 0)) := by
    intro s h l
    unfold i_wide_isZero
    by_cases hh : h = 0
    · subst hh; simp
    · rw [cf (by simp; omega)]; congr 1; simp; omega
  unfold i_compareWide
  rw [bsome (z ..)]
  generalize hm : h * 2 ^ 64 + l = m
  generalize hm' : h' * 2 ^ 64 + l' = m'
  have c1 : i_compareSizes s h l s' h' l' = some (Int.sign ((m : Int) - m')) := by rw [compareSizes_v hl hl', hm, hm']
  have c2 : i_compareSizes s' h' l' s h l = some (Int.sign ((m' : Int) - m)) := by rw [compareSizes_v hl' hl, hm, hm']
  unfold wv
  rw [hm, hm']
  have body : (m ≠ 0 ∨ m' ≠ 0) → (bif !s == s' then bif s then some (-1) else some 1 else bif s then (i_compareSizes s' h' l' s h l).bind fun r => some r else (i_compareSizes s h l s' h' l').bind fun r => some r) = some (Int.sign ((if s then -(m : Int) else m) - (if s' then -(m' : Int) else m'))) := by
    intro hne
    rw [bret, bret, c1, c2]
    cases s <;> cases s' <;> simp
    · rw [Int.sign_eq_one_of_pos (by omega)]
    · rw [Int.sign_eq_neg_one_of_neg (by omega)]
    · congr 1; omega
  by_cases h0 : m = 0
  · rw [ct (by simpa using h0), bsome (z ..), hm']
    by_cases h0' : m' = 0
    · rw [ct (by simpa using h0'), h0, h0']; cases s <;> cases s' <;> rfl
    · rw [cf (by simpa using h0')]; exact body (.inr h0')
  · rw [cf (by simpa using h0)]; exact body (.inl h0)
/-! cmpd -/
theorem wv_of {N : Int} {h l k : Nat} (e : h * 2 ^ 64 + l = (0 * 2 ^ 64 + N.natAbs) * 2 ^ k) : wv (decide (N < 0)) h l = N * 2 ^ k := by
  unfold wv
  rw [e, Nat.zero_mul, Nat.zero_add]
  by_cases hn : N < 0
  · rw [if_pos (by simpa using hn)]
    have : N = -((N.natAbs : Nat) : Int) := by omega
    conv => rhs; rw [this]
    simp [Int.neg_mul]
  · rw [if_neg (by simpa using hn)]
    have : N = ((N.natAbs : Nat) : Int) := by omega
    conv => rhs; rw [this]
    simp
theorem wshift_v {N : Int} {k : Nat} (hN : N.natAbs ≤ 1099511627776) (hk : k ≤ 24) : ∃ h l : Nat, i_wide_shift (decide (N < 0)) 0 (N.natAbs : Int) (k : Int) = some (decide (N < 0), (h : Int), (l : Int)) ∧ h < 2 ^ 64 ∧ l < 2 ^ 64 ∧ wv (decide (N < 0)) h l = N * 2 ^ k := by
  have hp : 2 ^ k ≤ 2 ^ 24 := Nat.pow_le_pow_right (by decide) hk
  obtain ⟨h, l, e1, e2, e3, e4⟩ := shiftUp_v (s := decide (N < 0)) (h := 0) (l := N.natAbs) (k := k) (Nat.lt_of_le_of_lt hN (by decide)) (by omega) (by
    have : (0 * 2 ^ 64 + N.natAbs) * 2 ^ k ≤ 1099511627776 * 2 ^ 24 := Nat.mul_le_mul (by omega) hp
    exact Nat.lt_of_le_of_lt this (by decide))
  exact ⟨h, l, e1, e2, e3, wv_of e4⟩
theorem compareD_v {N K M L : Int} (ha : dOk N K = true) (hb : dOk M L = true) : i_compareD N K M L = some (Int.sign (v24 N K - v24 M L)) := by
  obtain ⟨a1, a2, _⟩ := dOk_iff.1 ha
  obtain ⟨b1, b2, _⟩ := dOk_iff.1 hb
  unfold i_compareD
  rw [bsome (wideOf_v (by omega) (by omega))]
  obtain ⟨k, hk⟩ : ∃ k : Nat, (bif decide (K < L) then L else K) = (k : Int) ∧ K ≤ k ∧ L ≤ k ∧ k ≤ 24 := by
    by_cases h : K < L
    · exact ⟨L.toNat, by simp [h]; omega⟩
    · exact ⟨K.toNat, by simp [h]; omega⟩
  obtain ⟨hk, k1, k2, k3⟩ := hk
  rw [hk, wrap64 (by omega) (by omega), wrap64 (by omega) (by omega), show (k : Int) - K = ((k - K.toNat : Nat) : Int) by omega, show (k : Int) - L = ((k - L.toNat : Nat) : Int) by omega]
  obtain ⟨h, l, e1, e2, e3, e4⟩ := wshift_v (N := N) (k := k - K.toNat) (by omega) (by omega)
  obtain ⟨h', l', f1, f2, f3, f4⟩ := wshift_v (N := M) (k := k - L.toNat) (by omega) (by omega)
  rw [bsome e1, bsome (wideOf_v (by omega) (by omega)), bsome f1, bret, compareWide_v e3 f3, e4, f4]
  congr 1
  have s := @sgn_scale (N * 2 ^ (k - K.toNat) - M * 2 ^ (k - L.toNat)) (24 - k)
  rw [← s, Int.sub_mul, Int.mul_assoc, Int.mul_assoc, ← Int.pow_add, ← Int.pow_add, show k - K.toNat + (24 - k) = 24 - K.toNat by omega, show k - L.toNat + (24 - k) = 24 - L.toNat by omega]
  rfl
/-! dynorm -/
/-- A number over a power of 2 in its form. -/
def red : Nat → Int → Int × Int
  | 0, n => (n, 0)
  | k + 1, n => if n % 2 = 0 then red k (n / 2) else (n, ((k + 1 : Nat) : Int))
theorem red_zero : ∀ k : Nat, red k 0 = (0, 0)
  | 0 => rfl
  | k + 1 => by rw [red, if_pos (by decide), show (0 : Int) / 2 = 0 from rfl, red_zero k]
theorem red_up (n : Int) : ∀ (j k : Nat), red (k + j) (n * 2 ^ j) = red k n
  | 0, k => by simp
  | j + 1, k => by
    have e : n * 2 ^ (j + 1) = (n * 2 ^ j) * 2 := by rw [Int.pow_succ, Int.mul_assoc]
    rw [show k + (j + 1) = (k + j) + 1 from rfl, red, e, if_pos (Int.mul_emod_left _ _), Int.mul_ediv_cancel _ (by decide), red_up n j k]
theorem red_form {n : Int} {k : Nat} (h : k = 0 ∨ n % 2 ≠ 0) : red k n = (n, (k : Int)) := by
  cases k with
  | zero => rfl
  | succ k => rw [red, if_neg (h.resolve_left (by omega))]
theorem tmod2 {n : Int} : Int.tmod n 2 = 0 ↔ n % 2 = 0 := by
  constructor
  · intro h; exact Int.emod_eq_zero_of_dvd (Int.dvd_of_tmod_eq_zero h)
  · intro h; exact Int.tmod_eq_zero_of_dvd (Int.dvd_of_emod_eq_zero h)
theorem red_dOk {N K : Int} (h : dOk N K = true) {k : Nat} (hk : K ≤ k) : red k (N * 2 ^ (k - K.toNat)) = (N, K) := by
  obtain ⟨h1, h2, h3⟩ := dOk_iff.1 h
  obtain ⟨K, rfl⟩ := Int.eq_ofNat_of_zero_le h1.1
  rw [Int.toNat_natCast]
  have := red_up N (k - K) K
  rw [show K + (k - K) = k by omega] at this
  rw [this, red_form]
  rcases h3 with h3 | h3
  · left; omega
  · right; intro e; exact h3 (tmod2.2 e)
/-- What the form is. -/
theorem red_spec : ∀ (k : Nat) (n : Int), ∃ r : Nat, (red k n).2 = (r : Int) ∧ r ≤ k ∧ n = (red k n).1 * 2 ^ (k - r) ∧ (r = 0 ∨ (red k n).1 % 2 ≠ 0)
  | 0, n => ⟨0, rfl, Nat.le_refl _, by simp [red], .inl rfl⟩
  | k + 1, n => by
    by_cases h : n % 2 = 0
    · obtain ⟨r, h1, h2, h3, h4⟩ := red_spec k (n / 2)
      have e : red (k + 1) n = red k (n / 2) := by rw [red, if_pos h]
      rw [e]
      refine ⟨r, h1, by omega, ?_, h4⟩
      have e2 : n = n / 2 * 2 := by omega
      rw [show k + 1 - r = (k - r) + 1 by omega, Int.pow_succ, ← Int.mul_assoc, ← h3]
      exact e2
    · have e : red (k + 1) n = (n, ((k + 1 : Nat) : Int)) := by rw [red, if_neg h]
      rw [e]
      exact ⟨k + 1, rfl, Nat.le_refl _, by simp, .inr h⟩
theorem red_abs (k : Nat) (n : Int) : (red k n).1.natAbs ≤ n.natAbs := by
  obtain ⟨r, _, _, h3, _⟩ := red_spec k n
  conv => rhs; rw [h3]
  rw [Int.natAbs_mul]
  exact Nat.le_mul_of_pos_right _ (Int.natAbs_pos.2 (Int.ne_of_gt (Int.pow_pos (by decide))))
/-- A number over a power of 2, if it is valid. -/
def dmk (k : Nat) (n : Int) : (Int × Int) × Bool := bif dOk (red k n).1 (red k n).2 then (red k n, true) else ((0, 0), false)
theorem dmk_eq {k k' : Nat} {n n' : Int} (h : red k n = red k' n') : dmk k n = dmk k' n' := by unfold dmk; rw [h]
theorem red_ok {k : Nat} {n : Int} (hk : k ≤ 24) (hn : n.natAbs ≤ 1099511627776) : dOk (red k n).1 (red k n).2 = true := by
  obtain ⟨r, h1, h2, h3, h4⟩ := red_spec k n
  have := red_abs k n
  rw [dOk_iff, h1]
  refine ⟨by omega, by omega, ?_⟩
  rcases h4 with h4 | h4
  · left; omega
  · right; intro e; exact h4 (tmod2.1 e)
theorem dmk_ok {k : Nat} {n : Int} (hk : k ≤ 24) (hn : n.natAbs ≤ 1099511627776) : dmk k n = (red k n, true) := by unfold dmk; rw [red_ok hk hn]; rfl
theorem red_v24 {k : Nat} {n : Int} (hk : k ≤ 24) : v24 (red k n).1 (red k n).2 = n * 2 ^ (24 - k) := by
  obtain ⟨r, h1, h2, h3, h4⟩ := red_spec k n
  unfold v24
  rw [h1, Int.toNat_natCast]
  conv => rhs; rw [h3]
  rw [Int.mul_assoc, ← Int.pow_add, show k - r + (24 - k) = 24 - r by omega]
theorem dmk_scale {k j : Nat} {n : Int} : dmk (k + j) (n * 2 ^ j) = dmk k n := dmk_eq (red_up n j k)
theorem dmk_zero (k : Nat) : dmk k 0 = ((0, 0), true) := by unfold dmk; rw [red_zero]; rfl
/-! dymake -/
theorem dyMake_loop {t0 t1 : Int} : ∀ (k : Nat) (n : Int), k ≤ 1000 → n.natAbs ≤ 4611686018427387904 → s_dyMake_1003 n (k : Int) t0 t1 = some (dmk k n) := by
  have fin : ∀ (k : Nat) (n : Int), (k = 0 ∨ n % 2 ≠ 0) → ((s_dyGood n (k : Int)).bind fun r => bif !r then some (((0 : Int), (0 : Int)), false) else some ((n, (k : Int)), true)) = some (dmk k n) := by
    intro k n hf
    rw [bsome (dyGood_v ..)]
    unfold dmk
    rw [red_form hf]
    cases dOk n (k : Int) <;> rfl
  intro k
  induction k with
  | zero =>
    intro n _ _
    rw [Es_dyMake_1003, cf (by decide)]
    exact fin 0 n (.inl rfl)
  | succ k ih =>
    intro n hk hn
    rw [Es_dyMake_1003, ct (decide_eq_true (by omega))]
    by_cases he : n % 2 = 0
    · have e2 : Int.tdiv n 2 = n / 2 := by rw [Int.tdiv_eq_ediv_of_dvd (Int.dvd_of_emod_eq_zero he)]
      rw [ct (decide_eq_true (tmod2.2 he)), e2, wrap64 (n := n / 2) (by omega) (by omega), wrap64 (n := ((k + 1 : Nat) : Int) - 1) (by omega) (by omega), show ((k + 1 : Nat) : Int) - 1 = (k : Int) by omega, ih (n / 2) (by omega) (by omega)]
      congr 1
      have := @dmk_scale k 1 (n / 2)
      rw [← this]
      congr 1
      omega
    · rw [cf (decide_eq_false (by rw [tmod2]; exact he))]
      exact fin (k + 1) n (.inr he)
theorem dyMake_v {k : Nat} {n : Int} (hk : k ≤ 1000) (hn : n.natAbs ≤ 4611686018427387904) : s_dyMake n (k : Int) = some (dmk k n) := by
  unfold s_dyMake
  by_cases h0 : n = 0
  · subst h0
    rw [ct (by decide)]
    by_cases hk0 : (0 : Int) < k
    · rw [ct (decide_eq_true hk0)]
      have := dyMake_loop (t0 := 0) (t1 := 0) 0 0 (by omega) (by omega)
      rw [dmk_zero] at this ⊢
      exact this
    · rw [cf (decide_eq_false hk0)]
      exact dyMake_loop k 0 hk hn
  · rw [cf (decide_eq_false h0)]
    exact dyMake_loop k n hk hn
/-! fitw -/
theorem sd1 (h : Nat) : Int.fdiv (h : Int) (2 ^ min (Int.toNat (IntKind.wrap .i64 (0 - -1))) (IntKind.bits .u64)) = ((h / 2 : Nat) : Int) := by
  rw [show (2 : Int) ^ min (Int.toNat (IntKind.wrap .i64 (0 - -1))) (IntKind.bits .u64) = ((2 : Nat) : Int) from by decide, fdiv_nat]
theorem sd2 {h l : Nat} (hh : h < 2 ^ 64) (hl : l < 2 ^ 64) : IntKind.wrap .u64 (((BitVec.ofInt (IntKind.bits .u64) (Int.fdiv (l : Int) (2 ^ min (Int.toNat (IntKind.wrap .i64 (0 - -1))) (IntKind.bits .u64))) ||| BitVec.ofInt (IntKind.bits .u64) (IntKind.wrap .u64 ((h : Int) * 2 ^ min (Int.toNat (IntKind.wrap .i64 (64 - IntKind.wrap .i64 (0 - -1)))) (IntKind.bits .u64)))).toNat : Nat) : Int) = ((l / 2 + (h % 2) * 2 ^ 63 : Nat) : Int) := by
  have hor : l / 2 ||| (h % 2) * 2 ^ 63 = l / 2 + (h % 2) * 2 ^ 63 := by
    have := Nat.two_pow_add_eq_or_of_lt (show l / 2 < 2 ^ 63 by omega) (h % 2)
    rw [Nat.or_comm, Nat.mul_comm (h % 2), ← this, Nat.add_comm]
  rw [sd1, show (2 : Int) ^ min (Int.toNat (IntKind.wrap .i64 (64 - IntKind.wrap .i64 (0 - -1)))) (IntKind.bits .u64) = ((2 ^ 63 : Nat) : Int) from by decide]
  rw [show (h : Int) * ((2 ^ 63 : Nat) : Int) = ((h * 2 ^ 63 : Nat) : Int) from (Int.natCast_mul h (2 ^ 63)).symm, wrapu ((h * 2 ^ 63 : Nat) : Int), show (((h * 2 ^ 63 : Nat) : Int) % 18446744073709551616) = (((h % 2) * 2 ^ 63 : Nat) : Int) by omega]
  rw [bits64, bor (by omega) (by omega), hor, wrapu_nat (by omega)]
theorem isZero_v (s : Bool) (h l : Nat) : i_wide_isZero s h l = some (decide (h * 2 ^ 64 + l = 0)) := by
  unfold i_wide_isZero
  by_cases hh : h = 0
  · subst hh; simp
  · rw [cf (by simp; omega)]; congr 1; simp; omega
theorem dmk_form {k : Nat} {n : Int} (h : k = 0 ∨ n % 2 ≠ 0) : dmk k n = bif decide (k ≤ 24 ∧ n.natAbs ≤ 1099511627776) then ((n, (k : Int)), true) else ((0, 0), false) := by
  unfold dmk
  rw [red_form h]
  congr 1
  unfold dOk
  rw [decide_eq_decide]
  constructor
  · rintro ⟨h1, h2, _⟩; omega
  · rintro ⟨h1, h2⟩
    refine ⟨by omega, by omega, ?_⟩
    rcases h with h | h
    · left; omega
    · right; intro e; exact h (tmod2.1 e)
theorem fitFin {s : Bool} {h l k : Nat} (hh : h < 2 ^ 64) (hl : l < 2 ^ 64) (hf : k = 0 ∨ wv s h l % 2 ≠ 0) :
    (bif decide (24 < (k : Int)) then some (((0 : Int), (0 : Int)), false) else bif decide (0 < (h : Int)) then some ((0, 0), false) else bif decide (1099511627776 < (l : Int)) then some ((0, 0), false) else
      bif s then some ((IntKind.wrap .i64 (0 - IntKind.wrap .i64 (l : Int)), (k : Int)), true) else some ((IntKind.wrap .i64 (l : Int), (k : Int)), true)) = some (dmk k (wv s h l)) := by
  have ha : (wv s h l).natAbs = h * 2 ^ 64 + l := by unfold wv; cases s <;> simp <;> omega
  rw [dmk_form hf, ha]
  by_cases h1 : 24 < k
  · rw [ct (decide_eq_true (by omega)), cf (decide_eq_false (by omega))]
  · rw [cf (decide_eq_false (by omega))]
    by_cases h2 : 0 < h
    · rw [ct (by simpa using h2), cf (decide_eq_false (by omega))]
    · rw [cf (by simpa using h2)]
      by_cases h3 : 1099511627776 < l
      · rw [ct (by simp; omega), cf (decide_eq_false (by omega))]
      · rw [cf (by simp; omega), ct (c := decide (k ≤ 24 ∧ h * 2 ^ 64 + l ≤ 1099511627776)) (decide_eq_true (by omega)), wrap64 (n := (l : Int)) (by omega) (by omega), wrap64 (n := 0 - (l : Int)) (by omega) (by omega)]
        obtain rfl : h = 0 := by omega
        unfold wv
        cases s <;> simp
theorem fit_loop {s : Bool} {t0 t1 : Int} : ∀ (k h l : Nat), k ≤ 1000 → h < 2 ^ 64 → l < 2 ^ 64 → i_wide_fit_1003 (k : Int) s (h : Int) (l : Int) t0 t1 = some (dmk k (wv s h l))
  | 0, h, l, _, hh, hl => by
    rw [Ei_wide_fit_1003, cf (by decide)]
    exact fitFin hh hl (.inl rfl)
  | k + 1, h, l, hk, hh, hl => by
    rw [Ei_wide_fit_1003, ct (decide_eq_true (by omega))]
    by_cases he : l % 2 = 0
    · rw [ct (decide_eq_true (tmod2.2 (by omega))), sd1, sd2 hh hl, wrap64 (n := ((k + 1 : Nat) : Int) - 1) (by omega) (by omega), show ((k + 1 : Nat) : Int) - 1 = (k : Int) by omega, fit_loop k _ _ (by omega) (by omega) (by omega)]
      congr 1
      have := @dmk_scale k 1 (wv s (h / 2) (l / 2 + h % 2 * 2 ^ 63))
      rw [← this]
      congr 1
      unfold wv
      cases s <;> simp <;> omega
    · rw [cf (decide_eq_false (by rw [tmod2]; omega))]
      exact fitFin hh hl (.inr (by unfold wv; cases s <;> simp <;> omega))
theorem fit_v {s : Bool} {h l k : Nat} (hk : k ≤ 1000) (hh : h < 2 ^ 64) (hl : l < 2 ^ 64) : i_wide_fit s (h : Int) (l : Int) (k : Int) = some (dmk k (wv s h l)) := by
  unfold i_wide_fit
  rw [bsome (isZero_v ..)]
  by_cases h0 : h * 2 ^ 64 + l = 0
  · rw [ct (by simpa using h0)]
    have : wv s h l = 0 := by unfold wv; rw [h0]; cases s <;> rfl
    rw [this, dmk_zero]
  · rw [cf (by simpa using h0)]
    exact fit_loop k h l hk hh hl
/-! sign -/
theorem l1Sign_v (n : Int) : s_l1Sign n = some (Int.sign n) := by
  unfold s_l1Sign
  simp only [Bool.cond_decide]
  split
  · rw [Int.sign_eq_one_of_pos (by assumption)]
  · split
    · rw [Int.sign_eq_neg_one_of_neg (by assumption)]
    · rw [show n = 0 by omega]; rfl
theorem sign_ge {n : Int} : 0 ≤ Int.sign n ↔ 0 ≤ n := by
  rcases Int.lt_trichotomy n 0 with h | h | h
  · rw [Int.sign_eq_neg_one_of_neg h]; omega
  · subst h; simp
  · rw [Int.sign_eq_one_of_pos h]; omega
/-! dycmp -/
theorem dyDown_v {a b : Int} (hb : 0 < b) (h1 : -4611686018427387904 ≤ a) (h2 : a ≤ 4611686018427387904) : s_dyDown a b = some (a / b) := by
  unfold s_dyDown
  rw [ct (by simp; omega), ct (by simp; omega)]
  have e := Int.mul_tdiv_add_tmod a b
  have q1 : Int.natAbs (Int.tdiv a b) ≤ a.natAbs := Int.natAbs_tdiv_le_natAbs a b
  rw [wrap64 (n := Int.tdiv a b) (by omega) (by omega)]
  by_cases hn : Int.tmod a b < 0
  · rw [ct (by simpa using hn), wrap64 (by omega) (by omega)]
    have hm : -b < Int.tmod a b := by
      have := Int.natAbs_tmod a b
      have h3 : a.natAbs % b.natAbs < b.natAbs := Nat.mod_lt _ (by omega)
      omega
    have := ((Int.ediv_emod_unique (a := a) (b := b) (r := Int.tmod a b + b) (q := Int.tdiv a b - 1) hb).2 ⟨by rw [Int.mul_sub]; omega, by omega, by omega⟩).1
    rw [this]
  · rw [cf (by simpa using hn)]
    have hm : Int.tmod a b < b := by
      have := Int.natAbs_tmod a b
      have h3 : a.natAbs % b.natAbs < b.natAbs := Nat.mod_lt _ (by omega)
      omega
    have := ((Int.ediv_emod_unique (a := a) (b := b) (r := Int.tmod a b) (q := Int.tdiv a b) hb).2 ⟨by omega, by omega, by omega⟩).1
    rw [this]
theorem p2i (k : Nat) : (0 : Int) < 2 ^ k := Int.pow_pos (by decide)
theorem p2m {k n : Nat} (h : k ≤ n) : (2 : Int) ^ k ≤ 2 ^ n := by exact_mod_cast Nat.pow_le_pow_right (by decide) h
theorem p2a {k n : Nat} : (2 : Int) ^ (k + n) = 2 ^ k * 2 ^ n := Int.pow_add ..
theorem dyFloor_v {N K : Int} (h : dOk N K = true) : s_dyFloor N K = some (N / 2 ^ K.toNat) := by
  obtain ⟨h1, h2, _⟩ := dOk_iff.1 h
  unfold s_dyFloor
  rw [bsome (dyPower_v h1.1 (by omega)), bret, dyDown_v (p2i _) (by omega) (by omega)]
theorem dyAt_loop {k : Nat} (hk : k ≤ 1000) (c : Int) : ∀ (m i : Nat) (N : Int), i + m = k → N.natAbs * 2 ^ m ≤ 1152921504606846976 → s_dyAt_1004 (k : Int) N c (i : Int) = some (N * 2 ^ m, true)
  | 0, i, N, hi, _ => by
    rw [Es_dyAt_1004, show i = k by omega, cf ltf]; simp
  | m + 1, i, N, hi, hN => by
    have c60 : IntKind.wrap .i64 (1 * 2 ^ min (Int.toNat (IntKind.wrap .u64 60)) (IntKind.bits .i64)) = 1152921504606846976 := by decide
    have c61 : IntKind.wrap .i64 (0 - 1152921504606846976) = -1152921504606846976 := by decide
    have hp : 0 < 2 ^ m := Nat.two_pow_pos m
    have h1 : N.natAbs * 1 ≤ N.natAbs * 2 ^ (m + 1) := Nat.mul_le_mul_left _ (Nat.two_pow_pos _)
    have hlt : i < k := by omega
    rw [Es_dyAt_1004, ct (ltt hlt), c60, c61, bsome (l1In_v ..), cf (by simp; omega), wrap64 (n := N * 2) (by omega) (by omega), sc hlt (by omega),
      dyAt_loop hk c m (i + 1) (N * 2) (by omega) (by rw [Int.natAbs_mul, Nat.mul_assoc, show Int.natAbs 2 * 2 ^ m = 2 ^ (m + 1) by rw [Nat.pow_succ, Nat.mul_comm]; rfl]; exact hN), Int.mul_assoc, Int.pow_succ, Int.mul_comm 2]
theorem dyAt_v {N K : Int} {k : Nat} (hK : 0 ≤ K) (hk : K ≤ k) (hk2 : k ≤ 1000) (hN : N.natAbs * 2 ^ (k - K.toNat) ≤ 1152921504606846976) : s_dyAt N K (k : Int) = some (N * 2 ^ (k - K.toNat), true) := by
  unfold s_dyAt
  by_cases h : N = 0
  · rw [ct (by simpa using h), h]; simp
  · rw [cf (by simpa using h)]
    obtain ⟨n, rfl⟩ := Int.eq_ofNat_of_zero_le hK
    have hn : n ≤ k := by omega
    exact dyAt_loop hk2 _ (k - n) n N (by omega) hN
theorem v24_floor {N K : Int} (h : dOk N K = true) : (N / 2 ^ K.toNat) * 16777216 ≤ v24 N K ∧ v24 N K < (N / 2 ^ K.toNat) * 16777216 + 16777216 ∧ (N - N / 2 ^ K.toNat * 2 ^ K.toNat) * 2 ^ (24 - K.toNat) = v24 N K - N / 2 ^ K.toNat * 16777216 ∧ 0 ≤ N - N / 2 ^ K.toNat * 2 ^ K.toNat ∧ N - N / 2 ^ K.toNat * 2 ^ K.toNat < 2 ^ K.toNat := by
  obtain ⟨h1, h2, _⟩ := dOk_iff.1 h
  have e24 : (16777216 : Int) = 2 ^ K.toNat * 2 ^ (24 - K.toNat) := by rw [← p2a, show K.toNat + (24 - K.toNat) = 24 by omega]; rfl
  have h3 := Int.emod_nonneg N (Int.ne_of_gt (p2i K.toNat))
  have h4 := Int.emod_lt_of_pos N (p2i K.toNat)
  have h5 := Int.mul_ediv_add_emod N (2 ^ K.toNat)
  have h6 : N - N / 2 ^ K.toNat * 2 ^ K.toNat = N % 2 ^ K.toNat := by rw [Int.mul_comm]; omega
  have e : (N - N / 2 ^ K.toNat * 2 ^ K.toNat) * 2 ^ (24 - K.toNat) = v24 N K - N / 2 ^ K.toNat * 16777216 := by
    rw [Int.sub_mul, e24, Int.mul_assoc]; rfl
  have h7 : 0 ≤ (N - N / 2 ^ K.toNat * 2 ^ K.toNat) * 2 ^ (24 - K.toNat) := Int.mul_nonneg (by omega) (Int.le_of_lt (p2i _))
  have h8 : (N - N / 2 ^ K.toNat * 2 ^ K.toNat) * 2 ^ (24 - K.toNat) < 16777216 := by
    rw [e24]; exact Int.mul_lt_mul_of_pos_right (by omega) (p2i _)
  exact ⟨by omega, by omega, e, by omega, by omega⟩
theorem dyCmp_v {N K M L : Int} (ha : dOk N K = true) (hb : dOk M L = true) : s_dyCmp N K M L = some (Int.sign (v24 N K - v24 M L)) := by
  obtain ⟨a1, a2, _⟩ := dOk_iff.1 ha
  obtain ⟨b1, b2, _⟩ := dOk_iff.1 hb
  obtain ⟨a3, a4, a5, a6, a7⟩ := v24_floor ha
  obtain ⟨b3, b4, b5, b6, b7⟩ := v24_floor hb
  have pa := p2m (show K.toNat ≤ 24 by omega)
  have pb := p2m (show L.toNat ≤ 24 by omega)
  have qa : (N / 2 ^ K.toNat).natAbs ≤ N.natAbs := Int.natAbs_ediv_le_natAbs _ _
  have qb : (M / 2 ^ L.toNat).natAbs ≤ M.natAbs := Int.natAbs_ediv_le_natAbs _ _
  unfold s_dyCmp
  rw [bsome (dyFloor_v ha), bsome (dyFloor_v hb)]
  by_cases h : N / 2 ^ K.toNat = M / 2 ^ L.toNat
  · rw [cf (by simpa using h), bsome (dyPower_v a1.1 (by omega)), wrap64 (n := N / 2 ^ K.toNat * 2 ^ K.toNat) (by omega) (by omega), wrap64 (n := N - _) (by omega) (by omega)]
    have bound : ∀ {x : Int} {k : Nat}, k ≤ 24 → 0 ≤ x → x < 2 ^ k → x.natAbs * 2 ^ (24 - k) ≤ 1152921504606846976 := by
      intro x k hk h0 h1
      have : (x.natAbs * 2 ^ (24 - k) : Nat) < 2 ^ k * 2 ^ (24 - k) := Nat.mul_lt_mul_of_pos_right (by
        have : (x.natAbs : Int) < ((2 ^ k : Nat) : Int) := by simpa using (by omega : (x.natAbs : Int) < 2 ^ k)
        omega) (Nat.two_pow_pos _)
      rw [← Nat.pow_add, show k + (24 - k) = 24 by omega] at this
      omega
    rw [show (24 : Int) = ((24 : Nat) : Int) from rfl, bsome (dyAt_v (k := 24) a1.1 (by omega) (by omega) (bound (by omega) a6 a7)), bsome (dyPower_v b1.1 (by omega)), wrap64 (n := M / 2 ^ L.toNat * 2 ^ L.toNat) (by omega) (by omega), wrap64 (n := M - _) (by omega) (by omega),
      bsome (dyAt_v (k := 24) b1.1 (by omega) (by omega) (bound (by omega) b6 b7)), bret]
    simp only
    rw [a5, b5, wrap64 (by omega) (by omega), l1Sign_v]
    congr 2
    omega
  · rw [ct (by simpa using h), wrap64 (by omega) (by omega), bret, l1Sign_v]
    congr 1
    rcases Int.lt_trichotomy (N / 2 ^ K.toNat) (M / 2 ^ L.toNat) with hh | hh | hh
    · rw [Int.sign_eq_neg_one_of_neg (by omega), Int.sign_eq_neg_one_of_neg (by omega)]
    · exact absurd hh h
    · rw [Int.sign_eq_one_of_pos (by omega), Int.sign_eq_one_of_pos (by omega)]
/-! sgn -/
theorem sign_lt {n : Int} : Int.sign n < 0 ↔ n < 0 := by
  rcases Int.lt_trichotomy n 0 with h | h | h
  · rw [Int.sign_eq_neg_one_of_neg h]; omega
  · subst h; simp
  · rw [Int.sign_eq_one_of_pos h]; omega
theorem sign_pos {n : Int} : 0 < Int.sign n ↔ 0 < n := by
  rcases Int.lt_trichotomy n 0 with h | h | h
  · rw [Int.sign_eq_neg_one_of_neg h]; omega
  · subst h; simp
  · rw [Int.sign_eq_one_of_pos h]; omega
/-! leafat -/
abbrev Pt := List (Int × Int)
def ptOk (p : Pt) : Bool := p.all fun a => dOk a.1 a.2
theorem bxPoint_v {p : Pt} {n : Int} (hl : p.length ≤ 1000000) : s_bxPoint p n = some (ptOk p && decide ((p.length : Int) = n)) := by
  unfold s_bxPoint
  refine (all_list (xs := p) (f := fun i => s_bxPoint_1002 p n p p.length (i : Int)) (ok := fun a => dOk a.1 a.2) (e := some (decide ((p.length : Int) = n))) ?_ fun i hi => ?_).trans ?_
  · show s_bxPoint_1002 _ _ _ _ _ = _
    rw [Es_bxPoint_1002, cf ltf]
  · show s_bxPoint_1002 _ _ _ _ _ = if _ then s_bxPoint_1002 _ _ _ _ _ else _
    rw [Es_bxPoint_1002, ct (ltt hi), ct (bA hi), gD hi, bsome (dyGood_v ..), sc hi (by omega)]
    cases dOk p[i].1 p[i].2 <;> rfl
  · unfold ptOk
    cases p.all _ <;> rfl
theorem noPt_v {p : Pt} (hl : p.length ≤ 1000000) : slices_ContainsFunc_impl_Dyadic_impl_Dyadic_i_HasPoint_1 p = some (!ptOk p) := by
  have h1 : ∀ a : Int × Int, i_HasPoint_1 a.1 a.2 = some (!dOk a.1 a.2) := fun a => by unfold i_HasPoint_1; rw [bsome (isDyadic_v ..)]
  obtain ⟨r, e1, e2⟩ := idx_list (xs := p) (f := fun i => slices_IndexFunc_impl_Dyadic_impl_Dyadic_i_HasPoint_1_1002 p p.length (i : Int)) (p := fun a => !dOk a.1 a.2) (by
    show slices_IndexFunc_impl_Dyadic_impl_Dyadic_i_HasPoint_1_1002 _ _ _ = _
    rw [Eslices_IndexFunc_impl_Dyadic_impl_Dyadic_i_HasPoint_1_1002, cf ltf]) (fun i hi => by
    show slices_IndexFunc_impl_Dyadic_impl_Dyadic_i_HasPoint_1_1002 _ _ _ = if _ then _ else slices_IndexFunc_impl_Dyadic_impl_Dyadic_i_HasPoint_1_1002 _ _ _
    rw [Eslices_IndexFunc_impl_Dyadic_impl_Dyadic_i_HasPoint_1_1002, ct (ltt hi), ct (bA hi), gD hi, bsome (h1 _), sc hi (by omega)]
    cases dOk p[i].1 p[i].2 <;> rfl)
  unfold slices_ContainsFunc_impl_Dyadic_impl_Dyadic_i_HasPoint_1 slices_IndexFunc_impl_Dyadic_impl_Dyadic_i_HasPoint_1
  have e1' : slices_IndexFunc_impl_Dyadic_impl_Dyadic_i_HasPoint_1_1002 p p.length 0 = some r := e1
  rw [bsome e1', e2]
  unfold ptOk
  rw [List.any_eq_not_all_not]
  simp
theorem bxNumber_v {n K : Int} (h0 : 0 ≤ K) (h1 : K ≤ 24) (hn : n.natAbs ≤ 1099511627776) : s_bxNumber n K = some (red K.toNat n) := by
  obtain ⟨k, rfl⟩ := Int.eq_ofNat_of_zero_le h0
  unfold s_bxNumber
  rw [bsome (dyMake_v (by omega) (by omega)), Int.toNat_natCast, dmk_ok (by omega) hn]
theorem dyadic_v {b : Bx} {n : Int} (h0 : 0 ≤ b.1) (h1 : b.1 ≤ 24) (hn : n.natAbs ≤ 1099511627776) : i_Box_dyadic b n = some (red b.1.toNat n) := by
  obtain ⟨k, hk⟩ := Int.eq_ofNat_of_zero_le h0
  unfold i_Box_dyadic
  rw [hk, bsome (wideOf_v (by omega) (by omega))]
  have hf := fit_v (s := decide (n < 0)) (h := 0) (l := n.natAbs) (k := k) (by omega) (by decide) (by omega)
  have hw : wv (decide (n < 0)) 0 n.natAbs = n := by
    unfold wv
    by_cases h : n < 0
    · rw [decide_eq_true h, if_pos rfl]; omega
    · rw [decide_eq_false h, if_neg (by simp)]; omega
  rw [hw, dmk_ok (by omega) hn] at hf
  have hf : i_wide_fit (decide (n < 0)) 0 (n.natAbs : Int) (k : Int) = some (red k n, true) := hf
  rw [bsome hf, Int.toNat_natCast]
/-- The value of a number of a box. -/
def bv (b : Bx) (n : Int) : Int := v24 (red b.1.toNat n).1 (red b.1.toNat n).2
def inB (b : Bx) (p : Pt) (i : Nat) : Bool := decide (bv b (b.2.1.getD i 0) ≤ v24 (p.getD i (0, 0)).1 (p.getD i (0, 0)).2) && decide (v24 (p.getD i (0, 0)).1 (p.getD i (0, 0)).2 ≤ bv b (b.2.2.getD i 0))
def hasB (b : Bx) (p : Pt) : Bool := (List.range p.length).all (inB b p)
theorem all_loopR {R : Type} {f : Nat → Option R} {n : Nat} {ok : Nat → Bool} {t e : R} (h0 : f n = some t) (h1 : ∀ i, i < n → f i = if ok i then f (i + 1) else some e) : f 0 = some (if (List.range n).all ok then t else e) := by
  have main : ∀ m i, i + m = n → f i = some (if (List.range' i m).all ok then t else e) := by
    intro m
    induction m with
    | zero => intro i hi; rw [show i = n by omega, h0]; simp
    | succ m ih =>
      intro i hi
      rw [h1 i (by omega), ih (i + 1) (by omega), List.range'_succ, List.all_cons]
      cases ok i with
      | true => rw [Bool.true_and]; rfl
      | false => rfl
  rw [main n 0 (by omega), List.range_eq_range']
theorem box_num {b : Bx} (hb : bOkB b = true) {i : Nat} (hi : i < b.2.1.length) : (b.2.1.getD i 0).natAbs ≤ 2048 ∧ (b.2.2.getD i 0).natAbs ≤ 2048 := by
  obtain ⟨K, lo, hh⟩ := b
  have hp := bOk_parts hb
  unfold bOkB bOk at hb
  simp only [Bool.and_eq_true, List.all_eq_true, List.mem_range] at hb
  have h1 := hb.2.1 i hi
  unfold bSide at h1
  have h2 := p2le (show K.toNat ≤ 8 by have := hp.1; have := hp.2.1; omega)
  have h2 : (2 : Int) ^ K.toNat ≤ 256 := h2
  have h1 := of_decide_eq_true h1
  show (lo.getD i 0).natAbs ≤ 2048 ∧ (hh.getD i 0).natAbs ≤ 2048
  generalize lo.getD i 0 = x at h1
  generalize hh.getD i 0 = y at h1
  omega
theorem ptOk_at {p : Pt} (h : ptOk p = true) {i : Nat} (hi : i < p.length) : dOk p[i].1 p[i].2 = true := by
  unfold ptOk at h
  rw [List.all_eq_true] at h
  exact h _ (List.getElem_mem hi)
theorem gd2 {p : Pt} {i : Nat} (hi : i < p.length) : p.getD i (0, 0) = p[i] := by rw [List.getD_eq_getElem?_getD, List.getElem?_eq_getElem hi]; rfl
theorem bxHas_v {b : Bx} {p : Pt} (hb : bOkB b = true) (hp : ptOk p = true) (hl : p.length = b.2.1.length) : s_bxHas b.1 b.2.1 b.2.2 p = some (hasB b p) := by
  have hq := bOk_parts hb
  unfold s_bxHas
  have := all_loopR (f := fun i => s_bxHas_1002 b.1 b.2.1 b.2.2 p (p.length : Int) (i : Int)) (n := p.length) (ok := inB b p) (t := true) (e := false) (by
    show s_bxHas_1002 _ _ _ _ _ _ = _
    rw [Es_bxHas_1002, cf ltf]) (fun i hi => by
    show s_bxHas_1002 _ _ _ _ _ _ = if _ then s_bxHas_1002 _ _ _ _ _ _ else _
    obtain ⟨n1, n2⟩ := box_num hb (i := i) (by omega)
    have o1 := red_ok (k := b.1.toNat) (n := b.2.1.getD i 0) (by omega) (by omega)
    have o2 := red_ok (k := b.1.toNat) (n := b.2.2.getD i 0) (by omega) (by omega)
    have o3 := ptOk_at hp hi
    rw [Es_bxHas_1002, ct (ltt hi), ct (bA hi), ct (bA (by omega)), gD hi, Int.toNat_natCast, bsome (bxNumber_v hq.1 (by omega) (by omega)), bsome (dyCmp_v o1 o3), ct (c := boundA (i : Int) b.2.2.length) (bA (by omega)), bsome (bxNumber_v hq.1 (by omega) (by omega)), bsome (dyCmp_v o3 o2), sc hi (by omega)]
    unfold inB bv
    rw [gd2 hi]
    generalize v24 (red b.1.toNat (b.2.1.getD i 0)).1 (red b.1.toNat (b.2.1.getD i 0)).2 = x
    generalize v24 (red b.1.toNat (b.2.2.getD i 0)).1 (red b.1.toNat (b.2.2.getD i 0)).2 = y
    generalize v24 p[i].1 p[i].2 = z
    simp only [sign_pos]
    by_cases h1 : x ≤ z
    · rw [cf (decide_eq_false (by omega)), decide_eq_true h1]
      by_cases h2 : z ≤ y
      · rw [cf (decide_eq_false (by omega)), decide_eq_true h2]; rfl
      · rw [ct (decide_eq_true (by omega)), decide_eq_false h2]; rfl
    · rw [ct (decide_eq_true (by omega)), decide_eq_false h1]; rfl)
  refine this.trans ?_
  unfold hasB
  cases (List.range p.length).all (inB b p) <;> rfl
theorem hasPoint_v {b : Bx} {p : Pt} (hb : bOkB b = true) (hl : p.length = b.2.1.length) : i_HasPoint b.1 b.2.1 b.2.2 p = some (bif ptOk p then (hasB b p, true) else (false, false)) := by
  have hq := bOk_parts hb
  unfold i_HasPoint
  have hbx : i_isBox (b.1, b.2.1, b.2.2) = some true := by
    rw [isBox_v]; unfold bOkB at hb; rw [hb]
  rw [bsome hbx, nbt, cf (by rw [hl]; simp), bsome (noPt_v (by omega))]
  cases hp : ptOk p with
  | false => rfl
  | true =>
    show i_HasPoint_1004 _ _ _ _ _ _ = _
    have := all_loopR (f := fun i => i_HasPoint_1004 b.1 b.2.1 b.2.2 p (p.length : Int) (i : Int)) (n := p.length) (ok := inB b p) (t := (true, true)) (e := (false, true)) (by
      show i_HasPoint_1004 _ _ _ _ _ _ = _
      rw [Ei_HasPoint_1004, cf ltf]) (fun i hi => by
      show i_HasPoint_1004 _ _ _ _ _ _ = if _ then i_HasPoint_1004 _ _ _ _ _ _ else _
      obtain ⟨n1, n2⟩ := box_num hb (i := i) (by omega)
      have o1 := red_ok (k := b.1.toNat) (n := b.2.1.getD i 0) (by omega) (by omega)
      have o2 := red_ok (k := b.1.toNat) (n := b.2.2.getD i 0) (by omega) (by omega)
      have o3 := ptOk_at hp hi
      have hs : i_Box_side (b.1, b.2.1, b.2.2) (i : Int) = some (red b.1.toNat (b.2.1.getD i 0), red b.1.toNat (b.2.2.getD i 0)) := by
        unfold i_Box_side
        simp only
        rw [ct (bA (by omega)), Int.toNat_natCast, bsome (dyadic_v (b := (b.1, b.2.1, b.2.2)) hq.1 (show b.1 ≤ 24 by omega) (by omega)), ct (bA (by omega)), bsome (dyadic_v (b := (b.1, b.2.1, b.2.2)) hq.1 (show b.1 ≤ 24 by omega) (by omega))]
      rw [Ei_HasPoint_1004, ct (ltt hi), ct (bA hi), bsome hs, gD hi, bsome (compareD_v o3 o1), bsome (compareD_v o3 o2), sc hi (by omega)]
      unfold inB bv
      rw [gd2 hi]
      generalize v24 (red b.1.toNat (b.2.1.getD i 0)).1 (red b.1.toNat (b.2.1.getD i 0)).2 = x
      generalize v24 (red b.1.toNat (b.2.2.getD i 0)).1 (red b.1.toNat (b.2.2.getD i 0)).2 = y
      generalize v24 p[i].1 p[i].2 = z
      simp only [sign_pos, sign_lt]
      by_cases h1 : x ≤ z
      · rw [cf (decide_eq_false (by omega)), decide_eq_true h1]
        by_cases h2 : z ≤ y
        · rw [cf (decide_eq_false (by omega)), decide_eq_true h2]; rfl
        · rw [ct (decide_eq_true (by omega)), decide_eq_false h2]; rfl
      · rw [ct (decide_eq_true (by omega)), decide_eq_false h1]; rfl)
    refine this.trans ?_
    unfold hasB
    cases (List.range p.length).all (inB b p) <;> rfl
/-- Two searches. -/
theorem leafAt_l {bs : List Bx} {p : Pt} (hl : bs.length ≤ 1000000) (hp : ptOk p = true) (h : ∀ b ∈ bs, bOkB b = true ∧ p.length = b.2.1.length) : ∃ r, s_LeafAt_1005 p bs (bs.length : Int) 0 = some r ∧ i_LeafAt_1005 p bs (bs.length : Int) 0 = some r := by
  refine loop2 (σ := Unit) (τ := Unit) (f := fun i _ => s_LeafAt_1005 p bs (bs.length : Int) (i : Int)) (g := fun i _ => i_LeafAt_1005 p bs (bs.length : Int) (i : Int)) (n := bs.length) (fun _ _ _ => True) (fun _ _ _ => ?_) (fun i _ _ hi _ => ?_) bs.length 0 () () (by omega) trivial
  · refine ⟨(0, false), ?_, ?_⟩
    · show s_LeafAt_1005 _ _ _ _ = _
      rw [Es_LeafAt_1005, cf ltf]
    · show i_LeafAt_1005 _ _ _ _ = _
      rw [Ei_LeafAt_1005, cf ltf]
  · obtain ⟨h1, h2⟩ := h bs[i] (List.getElem_mem hi)
    have e1 : s_LeafAt_1005 p bs (bs.length : Int) (i : Int) = bif hasB bs[i] p then some ((i : Int), true) else s_LeafAt_1005 p bs (bs.length : Int) ((i + 1 : Nat) : Int) := by
      rw [Es_LeafAt_1005, ct (ltt hi), ct (bA hi), ct (nblt hi), gD hi, bsome (bxHas_v h1 hp h2), sc hi (by omega)]
    have e2 : i_LeafAt_1005 p bs (bs.length : Int) (i : Int) = bif hasB bs[i] p then some ((i : Int), true) else i_LeafAt_1005 p bs (bs.length : Int) ((i + 1 : Nat) : Int) := by
      rw [Ei_LeafAt_1005, ct (ltt hi), ct (bA hi), ct (nblt hi), gD hi, bsome (hasPoint_v h1 h2), hp, sc hi (by omega)]
      rfl
    cases hc : hasB bs[i] p with
    | true => exact .inl ⟨((i : Int), true), by rw [e1, hc]; rfl, by rw [e2, hc]; rfl⟩
    | false => exact .inr ⟨(), (), by rw [e1, hc]; rfl, by rw [e2, hc]; rfl, trivial⟩
theorem leafAt_no {bs : List Bx} {p : Pt} (hl : bs.length ≤ 1000000) (hp : ptOk p = false) (h : ∀ b ∈ bs, bOkB b = true ∧ p.length = b.2.1.length) : i_LeafAt_1005 p bs (bs.length : Int) 0 = some (0, false) := by
  have := all_loopR (f := fun i => i_LeafAt_1005 p bs (bs.length : Int) (i : Int)) (n := bs.length) (ok := fun _ => true) (t := ((0 : Int), false)) (e := ((0 : Int), false)) (by
    show i_LeafAt_1005 _ _ _ _ = _
    rw [Ei_LeafAt_1005, cf ltf]) (fun i hi => by
    show i_LeafAt_1005 _ _ _ _ = if _ then i_LeafAt_1005 _ _ _ _ else _
    obtain ⟨h1, h2⟩ := h bs[i] (List.getElem_mem hi)
    rw [Ei_LeafAt_1005, ct (ltt hi), ct (bA hi), ct (nblt hi), gD hi, bsome (hasPoint_v h1 h2), hp, sc hi (by omega)]
    rfl)
  refine this.trans ?_
  simp
/-! scaf -/
def rb (n : Nat) : Nat := if n % 6 = 5 then 0 else if n % 3 = 0 then 1 else n
theorem rb_le (n : Nat) : rb n ≤ n + 1 := by unfold rb; split <;> (try split) <;> omega
theorem walk_loop {f : Int → Option Bool} {n : Nat} {r : Option Bool} (h : ∀ i : Nat, i < n → f i = f ((i + 1 : Nat) : Int)) (h' : f n = r) : f 0 = r := by
  have main : ∀ m i : Nat, i + m = n → f i = r := by
    intro m
    induction m with
    | zero => intro i hi; rw [show i = n by omega, h']
    | succ m ih => intro i hi; rw [h i (by omega), ih (i + 1) (by omega)]
  exact main n 0 (by omega)
theorem to_loop {A V : Type} {a : List A} {f5 f9 : List V → Int → Option (List V × Nat)} {fill d : V} {fgE : V → A} {Q : V → Prop} {R : Nat}
    (h5 : ∀ (outs : List V) (i : Nat) (hi : i < a.length), outs.length = a.length + R → ∃ v, fgE v = a[i] ∧ Q v ∧ f5 outs i = f5 (outs.set i v) ((i + 1 : Nat) : Int))
    (h5' : ∀ outs, f5 outs a.length = f9 outs a.length)
    (h9 : ∀ (outs : List V) (i : Nat), i < outs.length → outs.length = a.length + R → f9 outs i = f9 (outs.set i fill) ((i + 1 : Nat) : Int))
    (h9' : ∀ outs : List V, outs.length = a.length + R → f9 outs outs.length = some (outs, a.length)) :
    ∃ P : List V, P.length = a.length ∧ P.map fgE = a ∧ (∀ v ∈ P, Q v) ∧ f5 (List.replicate (a.length + R) d) 0 = some (P ++ List.replicate R fill, a.length) := by
  have second : ∀ (P : List V) (m j : Nat), P.length = a.length → j + m = R → f9 (P ++ (List.replicate j fill ++ List.replicate m d)) ((a.length + j : Nat) : Int) = some (P ++ List.replicate R fill, a.length) := by
    intro P m
    induction m with
    | zero =>
      intro j hP hj
      obtain rfl : j = R := by omega
      have := h9' (P ++ (List.replicate j fill ++ List.replicate 0 d)) (by simp [hP])
      simp only [List.replicate_zero, List.append_nil] at this ⊢
      rw [← this]
      simp [hP]
    | succ m ih =>
      intro j hP hj
      rw [h9 _ _ (by simp; omega) (by simp [hP]; omega)]
      have e : (P ++ (List.replicate j fill ++ List.replicate (m + 1) d)).set (a.length + j) fill = P ++ (List.replicate (j + 1) fill ++ List.replicate m d) := by
        rw [List.set_append_right _ _ (by omega), List.set_append_right _ _ (by simp; omega), List.replicate_succ, List.length_replicate, show a.length + j - P.length - j = 0 by omega, List.set_cons_zero, List.replicate_succ']
        simp
      rw [e]
      exact ih (j + 1) hP (by omega)
  have first : ∀ (m : Nat) (P : List V), P.length + m = a.length → P.map fgE = a.take P.length → (∀ v ∈ P, Q v) →
      ∃ P' : List V, P'.length = a.length ∧ P'.map fgE = a ∧ (∀ v ∈ P', Q v) ∧ f5 (P ++ List.replicate (m + R) d) (P.length : Int) = some (P' ++ List.replicate R fill, a.length) := by
    intro m
    induction m with
    | zero =>
      intro P hP hm hQ
      refine ⟨P, by omega, by rw [hm, List.take_of_length_le (by omega)], hQ, ?_⟩
      rw [show P.length = a.length by omega, h5']
      have := second P R 0 (by omega) (by omega)
      rw [← this]
      simp
    | succ m ih =>
      intro P hP hm hQ
      obtain ⟨v, g1, g2, g3⟩ := h5 (P ++ List.replicate (m + 1 + R) d) P.length (by omega) (by simp; omega)
      obtain ⟨P', q1, q2, q3, q4⟩ := ih (P ++ [v]) (by simp; omega) (by rw [List.map_append, hm, List.length_append, List.length_singleton, List.take_succ_eq_append_getElem (show P.length < a.length by omega)]; simp [g1]) (fun u hu => by
        rcases List.mem_append.1 hu with h | h
        · exact hQ u h
        · rw [List.mem_singleton.1 h]; exact g2)
      refine ⟨P', q1, q2, q3, ?_⟩
      rw [g3, ← q4]
      have e : (P ++ List.replicate (m + 1 + R) d).set P.length v = P ++ [v] ++ List.replicate (m + R) d := by
        rw [List.set_append_right _ _ (by omega), Nat.sub_self, show m + 1 + R = m + R + 1 by omega, List.replicate_succ, List.set_cons_zero]
        simp
      rw [e, List.length_append, List.length_singleton]
  have := first a.length [] (by simp) (by simp) (by simp)
  simpa using this
theorem roomBehind_v (n : Nat) : w_roomBehind (n : Int) = some (rb n : Int) := by
  have h6 : Int.tmod (n : Int) 6 = ((n % 6 : Nat) : Int) := by rw [Int.tmod_eq_emod_of_nonneg (by omega)]; omega
  have h3 : Int.tmod (n : Int) 3 = ((n % 3 : Nat) : Int) := by rw [Int.tmod_eq_emod_of_nonneg (by omega)]; omega
  unfold w_roomBehind rb
  rw [h6, h3]
  by_cases h : n % 6 = 5
  · rw [if_pos h, ct (by simp; omega)]; rfl
  · rw [if_neg h, cf (by simp; omega)]
    by_cases h' : n % 3 = 0
    · rw [if_pos h', ct (by simp; omega)]; rfl
    · rw [if_neg h', cf (by simp; omega)]
theorem rbw {n : Nat} (h : n ≤ 1000000) : IntKind.wrap .i64 ((n : Int) + (rb n : Int)) = ((n + rb n : Nat) : Int) := by
  have := rb_le n
  rw [wrap64 (by omega) (by omega)]; omega
theorem blt {i n : Nat} (h : i < n) : Nat.blt i n = true := by simp [Nat.blt_eq, h]
end Go.Proofs.YtkahcjnkmbbplaaE
