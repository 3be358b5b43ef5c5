/- Plain lemmas on what the printed functions come to. -/
import Derived.Test.YtbaeikcfchiiaaaNH2
set_option maxRecDepth 100000
set_option linter.unusedVariables false
set_option linter.unusedSimpArgs false
namespace Go.Proofs.YtbaeikcfchiiaaaE
/-! core -/
theorem ct {α : Type} {c : Bool} {x y : α} (h : c = true) : (bif c then x else y) = x := by rw [h]; rfl
theorem cf {α : Type} {c : Bool} {x y : α} (h : c = false) : (bif c then x else y) = y := by rw [h]; rfl
theorem cnt {α : Type} {x y : α} : (bif !true then x else y) = y := rfl
theorem cnf {α : Type} {x y : α} : (bif !false then x else y) = x := rfl
theorem bA {i n : Nat} (h : i < n) : boundA (i : Int) n = true := by simp [boundA, h]
theorem bE {i n : Nat} (h : i ≤ n) : boundE (i : Int) n = true := by simp [boundE, h]
theorem bAi {i : Int} {n : Nat} (h0 : 0 ≤ i) (h : i < n) : boundA i n = true := by simp [boundA, h, h0]
theorem bEi {i : Int} {n : Nat} (h0 : 0 ≤ i) (h : i ≤ n) : boundE i n = true := by simp [boundE, h, h0]
theorem gD {α : Type} {xs : List α} {i : Nat} {d : α} (h : i < xs.length) : List.getD xs (Int.toNat (i : Int)) d = xs[i] := by
  rw [Int.toNat_natCast, List.getD_eq_getElem?_getD, List.getElem?_eq_getElem h]; rfl
theorem sc {i n : Nat} (h : i < n) (hn : n ≤ 9223372036854775807) : IntKind.wrap .i64 ((i : Int) + 1) = ((i + 1 : Nat) : Int) := by
  rw [wrap64 (by omega) (by omega)]; omega
theorem pd {i n : Nat} (h : i < n) (h0 : 0 < i) (hn : n ≤ 9223372036854775807) : IntKind.wrap .i64 ((i : Int) - 1) = ((i - 1 : Nat) : Int) := by
  rw [wrap64 (by omega) (by omega)]; omega
theorem ltt {i n : Nat} (h : i < n) : decide ((i : Int) < (n : Int)) = true := by simp [h]
theorem ltf {n : Nat} : decide ((n : Int) < (n : Int)) = false := by simp
theorem bsome {α β : Type} {x : Option α} {a : α} {f : α → Option β} (h : x = some a) : x.bind f = f a := by rw [h]; rfl
theorem bret {α : Type} (x : Option α) : (x.bind fun r => some r) = x := by cases x <;> rfl

/-- A loop that ends with false at the first that is not so. -/
theorem all_loop {f : Nat → Option Bool} {n : Nat} {ok : Nat → Bool} {e : Option Bool} (h0 : (∀ j, j < n → ok j = true) → f n = e)
    (h1 : ∀ i, i < n → (∀ j, j < i → ok j = true) → f i = if ok i then f (i + 1) else some false) : f 0 = if (List.range n).all ok then e else some false := by
  have main : ∀ m i, i + m = n → (∀ j, j < i → ok j = true) → f i = if (List.range n).all ok then e else some false := by
    intro m
    induction m with
    | zero =>
      intro i hi hj
      obtain rfl : i = n := by omega
      rw [h0 hj, if_pos]
      rw [List.all_eq_true]
      exact fun x hx => hj x (List.mem_range.1 hx)
    | succ m ih =>
      intro i hi hj
      rw [h1 i (by omega) hj]
      cases h : ok i with
      | true =>
        rw [if_pos rfl]
        exact ih (i + 1) (by omega) fun j hji => by
          by_cases e : j = i
          · rw [e]; exact h
          · exact hj j (by omega)
      | false =>
        rw [if_neg (by simp), if_neg]
        rw [List.all_eq_true]
        exact fun hx => by have := hx i (List.mem_range.2 (by omega)); rw [h] at this; cases this
  exact main n 0 (by omega) fun j hj => absurd hj (Nat.not_lt_zero j)

/-- A loop over a state, as a plain recursion. -/
def loopM {σ R : Type} (st : Nat → σ → R ⊕ σ) (fin : σ → R) : Nat → Nat → σ → R
  | 0, _, s => fin s
  | m + 1, i, s => match st i s with
    | .inl r => r
    | .inr s' => loopM st fin m (i + 1) s'
theorem loop_eq {σ R : Type} {f : Nat → σ → Option R} {st : Nat → σ → R ⊕ σ} {fin : σ → R} {n : Nat} (Inv : Nat → σ → Prop)
    (h0 : ∀ s, Inv n s → f n s = some (fin s))
    (h1 : ∀ i s, i < n → Inv i s → (∃ r, st i s = .inl r ∧ f i s = some r) ∨ (∃ s', st i s = .inr s' ∧ f i s = f (i + 1) s' ∧ Inv (i + 1) s')) :
    ∀ m i s, i + m = n → Inv i s → f i s = some (loopM st fin m i s) := by
  intro m
  induction m with
  | zero =>
    intro i s hi hs
    obtain rfl : i = n := by omega
    exact h0 s hs
  | succ m ih =>
    intro i s hi hs
    rcases h1 i s (by omega) hs with ⟨r, e1, e2⟩ | ⟨s', e1, e2, e3⟩
    · rw [e2]; simp only [loopM, e1]
    · rw [e2, ih (i + 1) s' (by omega) e3]; simp only [loopM, e1]
/-- Two loops side by side. -/
theorem loop2 {σ τ R : Type} {f : Nat → σ → Option R} {g : Nat → τ → Option R} {n : Nat} (Q : Nat → σ → τ → Prop)
    (h0 : ∀ s t, Q n s t → ∃ r, f n s = some r ∧ g n t = some r)
    (h1 : ∀ i s t, i < n → Q i s t → (∃ r, f i s = some r ∧ g i t = some r) ∨ (∃ s' t', f i s = f (i + 1) s' ∧ g i t = g (i + 1) t' ∧ Q (i + 1) s' t')) :
    ∀ m i s t, i + m = n → Q i s t → ∃ r, f i s = some r ∧ g i t = some r := by
  intro m
  induction m with
  | zero =>
    intro i s t hi hs
    obtain rfl : i = n := by omega
    exact h0 s t hs
  | succ m ih =>
    intro i s t hi hs
    rcases h1 i s t (by omega) hs with ⟨r, e1, e2⟩ | ⟨s', t', e1, e2, e3⟩
    · exact ⟨r, e1, e2⟩
    · rw [e1, e2]; exact ih (i + 1) s' t' (by omega) e3
/-! cmpint -/
theorem sign_ne {n : Int} : Int.sign n = 0 ↔ n = 0 := Int.sign_eq_zero_iff_zero
/-! u64 -/
theorem wrapu (n : Int) : IntKind.wrap .u64 n = n % 18446744073709551616 := by
  unfold IntKind.wrap
  rw [show IntKind.signed .u64 = false from rfl, show IntKind.bits .u64 = 64 from rfl]
  simp
theorem wrapu_nat {n : Nat} (h : n < 18446744073709551616) : IntKind.wrap .u64 (n : Int) = (n : Int) := by rw [wrapu]; omega
theorem fdiv_nat (a b : Nat) : Int.fdiv (a : Int) (b : Int) = ((a / b : Nat) : Int) := by
  rw [Int.fdiv_eq_ediv_of_nonneg _ (by omega)]; rfl
theorem pow_nat (k : Nat) : (2 : Int) ^ k = ((2 ^ k : Nat) : Int) := by simp
/-! wide -/
/-! 64-bit numbers without a sign -/
theorem bor {a b : Nat} (ha : a < 2 ^ 64) (hb : b < 2 ^ 64) : (BitVec.ofInt 64 (a : Int) ||| BitVec.ofInt 64 (b : Int)).toNat = a ||| b := by
  rw [BitVec.toNat_or, BitVec.ofInt_natCast, BitVec.ofInt_natCast, BitVec.toNat_ofNat, BitVec.toNat_ofNat, Nat.mod_eq_of_lt ha, Nat.mod_eq_of_lt hb]
theorem bits64 : IntKind.bits .u64 = 64 := rfl
theorem size_v {n : Int} (h1 : -4611686018427387904 ≤ n) (h2 : n ≤ 4611686018427387904) : i_size n = some (n.natAbs : Int) := by
  unfold i_size
  by_cases h : n < 0
  · rw [ct (by simpa using h), wrap64 (n := 0 - n) (by omega) (by omega), wrapu]
    congr 1; omega
  · rw [cf (by simpa using h), wrapu]
    congr 1; omega
theorem wideOf_v {n : Int} (h1 : -4611686018427387904 ≤ n) (h2 : n ≤ 4611686018427387904) : i_wideOf n = some (decide (n < 0), 0, (n.natAbs : Int)) := by
  unfold i_wideOf; rw [bsome (size_v h1 h2)]
/-- A number of 128 bits, up. -/
theorem shiftUp_v {s : Bool} {h l k : Nat} (hl : l < 2 ^ 64) (hk : k < 64) (hm : (h * 2 ^ 64 + l) * 2 ^ k < 2 ^ 128) :
    ∃ h' l' : Nat, i_wide_shift s (h : Int) (l : Int) (k : Int) = some (s, (h' : Int), (l' : Int)) ∧ h' < 2 ^ 64 ∧ l' < 2 ^ 64 ∧ h' * 2 ^ 64 + l' = (h * 2 ^ 64 + l) * 2 ^ k := by
  have hp : 0 < 2 ^ k := Nat.two_pow_pos k
  have hhk : h * 2 ^ k < 2 ^ 64 := by
    have h1 : h * 2 ^ 64 * 2 ^ k ≤ (h * 2 ^ 64 + l) * 2 ^ k := Nat.mul_le_mul_right _ (Nat.le_add_right _ _)
    have h2 : h * 2 ^ 64 * 2 ^ k = h * 2 ^ k * 2 ^ 64 := Nat.mul_right_comm _ _ _
    rw [h2] at h1
    have h3 : h * 2 ^ k * 2 ^ 64 < 2 ^ 64 * 2 ^ 64 := Nat.lt_of_le_of_lt h1 (by rw [show (2 : Nat) ^ 64 * 2 ^ 64 = 2 ^ 128 from by decide]; exact hm)
    exact Nat.lt_of_mul_lt_mul_right h3
  have hsplit : 2 ^ (64 - k) * 2 ^ k = 2 ^ 64 := by rw [← Nat.pow_add]; congr 1; omega
  have hlow : l / 2 ^ (64 - k) < 2 ^ k := by
    rw [Nat.div_lt_iff_lt_mul (Nat.two_pow_pos _), Nat.mul_comm, hsplit]; exact hl
  have hq : l * 2 ^ k / 2 ^ 64 = l / 2 ^ (64 - k) := by rw [← hsplit, Nat.mul_div_mul_right _ _ hp]
  have hor : h * 2 ^ k ||| l / 2 ^ (64 - k) = h * 2 ^ k + l / 2 ^ (64 - k) := by
    have := Nat.two_pow_add_eq_or_of_lt hlow h
    rw [Nat.mul_comm h, this]
  have h64 : l / 2 ^ (64 - k) < 2 ^ 64 := Nat.lt_of_lt_of_le hlow (Nat.pow_le_pow_right (by decide) (by omega))
  have hsum : h * 2 ^ k + l / 2 ^ (64 - k) < 2 ^ 64 := by
    have e : (h * 2 ^ 64 + l) * 2 ^ k = h * 2 ^ k * 2 ^ 64 + l * 2 ^ k := by rw [Nat.add_mul, Nat.mul_right_comm]
    rw [e] at hm
    have : (h * 2 ^ k * 2 ^ 64 + l * 2 ^ k) / 2 ^ 64 < 2 ^ 64 := by rw [Nat.div_lt_iff_lt_mul (by decide)]; exact Nat.lt_of_lt_of_eq hm (by decide)
    rwa [Nat.add_comm, Nat.add_mul_div_right _ _ (by decide), hq, Nat.add_comm] at this
  refine ⟨h * 2 ^ k + l / 2 ^ (64 - k), l * 2 ^ k % 2 ^ 64, ?_, hsum, Nat.mod_lt _ (by decide), ?_⟩
  · unfold i_wide_shift
    rw [ct (by simp), cf (by simp; omega), ct (by simp), wrap64 (n := 64 - (k : Int)) (by omega) (by omega), ct (by simp; omega), ct (by simp)]
    rw [Int.toNat_natCast, show Int.toNat (64 - (k : Int)) = 64 - k by omega, bits64, Nat.min_eq_left (by omega), Nat.min_eq_left (by omega), pow_nat, pow_nat]
    rw [show (h : Int) * ((2 ^ k : Nat) : Int) = ((h * 2 ^ k : Nat) : Int) by simp, show (l : Int) * ((2 ^ k : Nat) : Int) = ((l * 2 ^ k : Nat) : Int) by simp, fdiv_nat, wrapu_nat hhk, bor hhk h64, hor, wrapu_nat hsum, wrapu]
    rfl
  · rw [← hq, Nat.add_mul, Nat.add_mul, Nat.mul_right_comm, Nat.add_assoc]
    congr 1
    rw [Nat.mul_comm (l * 2 ^ k / 2 ^ 64)]
    exact Nat.div_add_mod _ _
/-- The value of a number of 128 bits. -/
def wv (s : Bool) (h l : Nat) : Int := if s then -((h * 2 ^ 64 + l : Nat) : Int) else ((h * 2 ^ 64 + l : Nat) : Int)
theorem cmpU_v (x y : Int) : cmp_Compare_uint64 x y = some (Int.sign (x - y)) := by
  unfold cmp_Compare_uint64
  simp only [decide_true, Bool.not_true, cond_false, Bool.cond_decide]
  split
  · rw [Int.sign_eq_neg_one_of_neg (by omega)]
  · split
    · rw [Int.sign_eq_one_of_pos (by omega)]
    · rw [show x - y = 0 by omega]; rfl
theorem cmpOr2_v (x y : Int) : cmp_Or_int [x, y] = some (if x ≠ 0 then x else y) := by
  have e0 : cmp_Or_int_1003 0 [x, y] 2 2 = some 0 := by rw [Ecmp_Or_int_1003]; rfl
  have e1 : cmp_Or_int_1003 0 [x, y] 2 1 = some y := by
    rw [Ecmp_Or_int_1003, show IntKind.wrap .i64 (1 + 1) = 2 from rfl, e0]
    by_cases h : y = 0 <;> simp [boundA, h]
  unfold cmp_Or_int
  show cmp_Or_int_1003 0 [x, y] 2 0 = _
  rw [Ecmp_Or_int_1003, show IntKind.wrap .i64 (0 + 1) = 1 from rfl, e1]
  by_cases h : x = 0 <;> simp [boundA, h]
theorem compareSizes_v {s s' : Bool} {h l h' l' : Nat} (hl : l < 2 ^ 64) (hl' : l' < 2 ^ 64) : i_compareSizes s h l s' h' l' = some (Int.sign (((h * 2 ^ 64 + l : Nat) : Int) - ((h' * 2 ^ 64 + l' : Nat) : Int))) := by
  unfold i_compareSizes
  rw [bsome (cmpU_v ..), bsome (cmpU_v ..), bret, cmpOr2_v]
  congr 1
  rcases Int.lt_trichotomy (h : Int) (h' : Int) with hh | hh | hh
  · rw [if_pos (by rw [Int.sign_eq_neg_one_of_neg (by omega)]; decide), Int.sign_eq_neg_one_of_neg (by omega), Int.sign_eq_neg_one_of_neg (by omega)]
  · rw [if_neg (by rw [hh]; simp)]
    congr 1; omega
  · rw [if_pos (by rw [Int.sign_eq_one_of_pos (by omega)]; decide), Int.sign_eq_one_of_pos (by omega), Int.sign_eq_one_of_pos (by omega)]
theorem compareWide_v {s s' : Bool} {h l h' l' : Nat} (hl : l < 2 ^ 64) (hl' : l' < 2 ^ 64) : i_compareWide s h l s' h' l' = some (Int.sign (wv s h l - wv s' h' l')) := by
  have z : ∀ (s : Bool) (h l : Nat), i_wide_isZero s h l = some (decide (h * 2 ^ 64 + l = 0)) := by
    intro s h l
    unfold i_wide_isZero
    by_cases hh : h = 0
    · subst hh; simp
    · rw [cf (by simp; omega)]; congr 1; simp; omega
  unfold i_compareWide
  rw [bsome (z ..)]
  generalize hm : h * 2 ^ 64 + l = m
  generalize hm' : h' * 2 ^ 64 + l' = m'
  have c1 : i_compareSizes s h l s' h' l' = some (Int.sign ((m : Int) - m')) := by rw [compareSizes_v hl hl', hm, hm']
  have c2 : i_compareSizes s' h' l' s h l = some (Int.sign ((m' : Int) - m)) := by rw [compareSizes_v hl' hl, hm, hm']
  unfold wv
  rw [hm, hm']
  have body : (m ≠ 0 ∨ m' ≠ 0) → (bif !s == s' then bif s then some (-1) else some 1 else bif s then (i_compareSizes s' h' l' s h l).bind fun r => some r else (i_compareSizes s h l s' h' l').bind fun r => some r) = some (Int.sign ((if s then -(m : Int) else m) - (if s' then -(m' : Int) else m'))) := by
    intro hne
    rw [bret, bret, c1, c2]
    cases s <;> cases s' <;> simp
    · rw [Int.sign_eq_one_of_pos (by omega)]
    · rw [Int.sign_eq_neg_one_of_neg (by omega)]
    · congr 1; omega
  by_cases h0 : m = 0
  · rw [ct (by simpa using h0), bsome (z ..), hm']
    by_cases h0' : m' = 0
    · rw [ct (by simpa using h0'), h0, h0']; cases s <;> cases s' <;> rfl
    · rw [cf (by simpa using h0')]; exact body (.inr h0')
  · rw [cf (by simpa using h0)]; exact body (.inl h0)
/-! range -/
theorem l1In_v (n lo hi : Int) : s_l1In n lo hi = some (decide (lo ≤ n ∧ n ≤ hi)) := by
  unfold s_l1In
  by_cases h : lo ≤ n <;> simp [h]
theorem inside_v (n lo hi : Int) : i_inside n lo hi = some (decide (lo ≤ n ∧ n ≤ hi)) := by
  unfold i_inside
  by_cases h : lo ≤ n <;> simp [h]
/-! dyok -/
/-- Whether a dyadic number is valid. -/
def dOk (N K : Int) : Bool := decide ((0 ≤ K ∧ K ≤ 24) ∧ (-1099511627776 ≤ N ∧ N ≤ 1099511627776) ∧ (K = 0 ∨ Int.tmod N 2 ≠ 0))
theorem dOk_iff {N K : Int} : dOk N K = true ↔ ((0 ≤ K ∧ K ≤ 24) ∧ (-1099511627776 ≤ N ∧ N ≤ 1099511627776) ∧ (K = 0 ∨ Int.tmod N 2 ≠ 0)) := by simp [dOk]
theorem dyGood_v (N K : Int) : s_dyGood N K = some (dOk N K) := by
  unfold s_dyGood dOk
  rw [bsome (l1In_v ..)]
  by_cases h1 : 0 ≤ K ∧ K ≤ 24
  · rw [ct (by simpa using h1), bsome (l1In_v ..)]
    by_cases h2 : -1099511627776 ≤ N ∧ N ≤ 1099511627776
    · rw [ct (by simpa using h2)]
      by_cases h3 : K = 0
      · rw [ct (by simpa using h3)]; simp [h2, h3]
      · rw [cf (by simpa using h3)]; simp [h1, h2, h3]
    · rw [cf (by simp; omega)]; simp [h2]
  · rw [cf (by simp; omega)]; simp [h1]
/-- A number over 2^24. -/
def v24 (N K : Int) : Int := N * 2 ^ (24 - K.toNat)
theorem sgn_scale {a : Int} {k : Nat} : Int.sign (a * 2 ^ k) = Int.sign a := by
  have hp : (0 : Int) < 2 ^ k := Int.pow_pos (by decide)
  rw [Int.sign_mul, Int.sign_eq_one_of_pos hp, Int.mul_one]
/-! power -/
theorem dyPower_v {k : Int} (h0 : 0 ≤ k) (h1 : k ≤ 62) : s_dyPower k = some (2 ^ k.toNat) := by
  obtain ⟨n, rfl⟩ := Int.eq_ofNat_of_zero_le h0
  have hn : n ≤ 62 := by omega
  have hw : IntKind.wrap .u64 (n : Int) = n := by
    unfold IntKind.wrap
    rw [show IntKind.signed .u64 = false from rfl, show IntKind.bits .u64 = 64 from rfl]
    simp; omega
  unfold s_dyPower
  have hp : (2 : Int) ^ n ≤ 2 ^ 62 := by exact_mod_cast Nat.pow_le_pow_right (by decide) hn
  have h0 : (0 : Int) < 2 ^ n := Int.pow_pos (by decide)
  rw [hw, ct (by simp), Int.toNat_natCast, show IntKind.bits .i64 = 64 from rfl, Nat.min_eq_left (by omega), Int.one_mul, wrap64 (by omega) (by omega)]
/-! sign -/
theorem l1Sign_v (n : Int) : s_l1Sign n = some (Int.sign n) := by
  unfold s_l1Sign
  simp only [Bool.cond_decide]
  split
  · rw [Int.sign_eq_one_of_pos (by assumption)]
  · split
    · rw [Int.sign_eq_neg_one_of_neg (by assumption)]
    · rw [show n = 0 by omega]; rfl
theorem sign_ge {n : Int} : 0 ≤ Int.sign n ↔ 0 ≤ n := by
  rcases Int.lt_trichotomy n 0 with h | h | h
  · rw [Int.sign_eq_neg_one_of_neg h]; omega
  · subst h; simp
  · rw [Int.sign_eq_one_of_pos h]; omega
/-! dycmp -/
theorem dyDown_v {a b : Int} (hb : 0 < b) (h1 : -4611686018427387904 ≤ a) (h2 : a ≤ 4611686018427387904) : s_dyDown a b = some (a / b) := by
  unfold s_dyDown
  rw [ct (by simp; omega), ct (by simp; omega)]
  have e := Int.mul_tdiv_add_tmod a b
  have q1 : Int.natAbs (Int.tdiv a b) ≤ a.natAbs := Int.natAbs_tdiv_le_natAbs a b
  rw [wrap64 (n := Int.tdiv a b) (by omega) (by omega)]
  by_cases hn : Int.tmod a b < 0
  · rw [ct (by simpa using hn), wrap64 (by omega) (by omega)]
    have hm : -b < Int.tmod a b := by
      have := Int.natAbs_tmod a b
      have h3 : a.natAbs % b.natAbs < b.natAbs := Nat.mod_lt _ (by omega)
      omega
    have := ((Int.ediv_emod_unique (a := a) (b := b) (r := Int.tmod a b + b) (q := Int.tdiv a b - 1) hb).2 ⟨by rw [Int.mul_sub]; omega, by omega, by omega⟩).1
    rw [this]
  · rw [cf (by simpa using hn)]
    have hm : Int.tmod a b < b := by
      have := Int.natAbs_tmod a b
      have h3 : a.natAbs % b.natAbs < b.natAbs := Nat.mod_lt _ (by omega)
      omega
    have := ((Int.ediv_emod_unique (a := a) (b := b) (r := Int.tmod a b) (q := Int.tdiv a b) hb).2 ⟨by omega, by omega, by omega⟩).1
    rw [this]
theorem p2i (k : Nat) : (0 : Int) < 2 ^ k := Int.pow_pos (by decide)
theorem p2m {k n : Nat} (h : k ≤ n) : (2 : Int) ^ k ≤ 2 ^ n := by exact_mod_cast Nat.pow_le_pow_right (by decide) h
theorem p2a {k n : Nat} : (2 : Int) ^ (k + n) = 2 ^ k * 2 ^ n := Int.pow_add ..
theorem dyFloor_v {N K : Int} (h : dOk N K = true) : s_dyFloor N K = some (N / 2 ^ K.toNat) := by
  obtain ⟨h1, h2, _⟩ := dOk_iff.1 h
  unfold s_dyFloor
  rw [bsome (dyPower_v h1.1 (by omega)), bret, dyDown_v (p2i _) (by omega) (by omega)]
theorem dyAt_loop {k : Nat} (hk : k ≤ 1000) (c : Int) : ∀ (m i : Nat) (N : Int), i + m = k → N.natAbs * 2 ^ m ≤ 1152921504606846976 → s_dyAt_1004 (k : Int) N c (i : Int) = some (N * 2 ^ m, true)
  | 0, i, N, hi, _ => by
    rw [Es_dyAt_1004, show i = k by omega, cf ltf]; simp
  | m + 1, i, N, hi, hN => by
    have c60 : IntKind.wrap .i64 (1 * 2 ^ min (Int.toNat (IntKind.wrap .u64 60)) (IntKind.bits .i64)) = 1152921504606846976 := by decide
    have c61 : IntKind.wrap .i64 (0 - 1152921504606846976) = -1152921504606846976 := by decide
    have hp : 0 < 2 ^ m := Nat.two_pow_pos m
    have h1 : N.natAbs * 1 ≤ N.natAbs * 2 ^ (m + 1) := Nat.mul_le_mul_left _ (Nat.two_pow_pos _)
    have hlt : i < k := by omega
    rw [Es_dyAt_1004, ct (ltt hlt), c60, c61, bsome (l1In_v ..), cf (by simp; omega), wrap64 (n := N * 2) (by omega) (by omega), sc hlt (by omega),
      dyAt_loop hk c m (i + 1) (N * 2) (by omega) (by rw [Int.natAbs_mul, Nat.mul_assoc, show Int.natAbs 2 * 2 ^ m = 2 ^ (m + 1) by rw [Nat.pow_succ, Nat.mul_comm]; rfl]; exact hN), Int.mul_assoc, Int.pow_succ, Int.mul_comm 2]
theorem dyAt_v {N K : Int} {k : Nat} (hK : 0 ≤ K) (hk : K ≤ k) (hk2 : k ≤ 1000) (hN : N.natAbs * 2 ^ (k - K.toNat) ≤ 1152921504606846976) : s_dyAt N K (k : Int) = some (N * 2 ^ (k - K.toNat), true) := by
  unfold s_dyAt
  by_cases h : N = 0
  · rw [ct (by simpa using h), h]; simp
  · rw [cf (by simpa using h)]
    obtain ⟨n, rfl⟩ := Int.eq_ofNat_of_zero_le hK
    have hn : n ≤ k := by omega
    exact dyAt_loop hk2 _ (k - n) n N (by omega) hN
theorem v24_floor {N K : Int} (h : dOk N K = true) : (N / 2 ^ K.toNat) * 16777216 ≤ v24 N K ∧ v24 N K < (N / 2 ^ K.toNat) * 16777216 + 16777216 ∧ (N - N / 2 ^ K.toNat * 2 ^ K.toNat) * 2 ^ (24 - K.toNat) = v24 N K - N / 2 ^ K.toNat * 16777216 ∧ 0 ≤ N - N / 2 ^ K.toNat * 2 ^ K.toNat ∧ N - N / 2 ^ K.toNat * 2 ^ K.toNat < 2 ^ K.toNat := by
  obtain ⟨h1, h2, _⟩ := dOk_iff.1 h
  have e24 : (16777216 : Int) = 2 ^ K.toNat * 2 ^ (24 - K.toNat) := by rw [← p2a, show K.toNat + (24 - K.toNat) = 24 by omega]; rfl
  have h3 := Int.emod_nonneg N (Int.ne_of_gt (p2i K.toNat))
  have h4 := Int.emod_lt_of_pos N (p2i K.toNat)
  have h5 := Int.mul_ediv_add_emod N (2 ^ K.toNat)
  have h6 : N - N / 2 ^ K.toNat * 2 ^ K.toNat = N % 2 ^ K.toNat := by rw [Int.mul_comm]; omega
  have e : (N - N / 2 ^ K.toNat * 2 ^ K.toNat) * 2 ^ (24 - K.toNat) = v24 N K - N / 2 ^ K.toNat * 16777216 := by
    rw [Int.sub_mul, e24, Int.mul_assoc]; rfl
  have h7 : 0 ≤ (N - N / 2 ^ K.toNat * 2 ^ K.toNat) * 2 ^ (24 - K.toNat) := Int.mul_nonneg (by omega) (Int.le_of_lt (p2i _))
  have h8 : (N - N / 2 ^ K.toNat * 2 ^ K.toNat) * 2 ^ (24 - K.toNat) < 16777216 := by
    rw [e24]; exact Int.mul_lt_mul_of_pos_right (by omega) (p2i _)
  exact ⟨by omega, by omega, e, by omega, by omega⟩
theorem dyCmp_v {N K M L : Int} (ha : dOk N K = true) (hb : dOk M L = true) : s_dyCmp N K M L = some (Int.sign (v24 N K - v24 M L)) := by
  obtain ⟨a1, a2, _⟩ := dOk_iff.1 ha
  obtain ⟨b1, b2, _⟩ := dOk_iff.1 hb
  obtain ⟨a3, a4, a5, a6, a7⟩ := v24_floor ha
  obtain ⟨b3, b4, b5, b6, b7⟩ := v24_floor hb
  have pa := p2m (show K.toNat ≤ 24 by omega)
  have pb := p2m (show L.toNat ≤ 24 by omega)
  have qa : (N / 2 ^ K.toNat).natAbs ≤ N.natAbs := Int.natAbs_ediv_le_natAbs _ _
  have qb : (M / 2 ^ L.toNat).natAbs ≤ M.natAbs := Int.natAbs_ediv_le_natAbs _ _
  unfold s_dyCmp
  rw [bsome (dyFloor_v ha), bsome (dyFloor_v hb)]
  by_cases h : N / 2 ^ K.toNat = M / 2 ^ L.toNat
  · rw [cf (by simpa using h), bsome (dyPower_v a1.1 (by omega)), wrap64 (n := N / 2 ^ K.toNat * 2 ^ K.toNat) (by omega) (by omega), wrap64 (n := N - _) (by omega) (by omega)]
    have bound : ∀ {x : Int} {k : Nat}, k ≤ 24 → 0 ≤ x → x < 2 ^ k → x.natAbs * 2 ^ (24 - k) ≤ 1152921504606846976 := by
      intro x k hk h0 h1
      have : (x.natAbs * 2 ^ (24 - k) : Nat) < 2 ^ k * 2 ^ (24 - k) := Nat.mul_lt_mul_of_pos_right (by
        have : (x.natAbs : Int) < ((2 ^ k : Nat) : Int) := by simpa using (by omega : (x.natAbs : Int) < 2 ^ k)
        omega) (Nat.two_pow_pos _)
      rw [← Nat.pow_add, show k + (24 - k) = 24 by omega] at this
      omega
    rw [show (24 : Int) = ((24 : Nat) : Int) from rfl, bsome (dyAt_v (k := 24) a1.1 (by omega) (by omega) (bound (by omega) a6 a7)), bsome (dyPower_v b1.1 (by omega)), wrap64 (n := M / 2 ^ L.toNat * 2 ^ L.toNat) (by omega) (by omega), wrap64 (n := M - _) (by omega) (by omega),
      bsome (dyAt_v (k := 24) b1.1 (by omega) (by omega) (bound (by omega) b6 b7)), bret]
    simp only
    rw [a5, b5, wrap64 (by omega) (by omega), l1Sign_v]
    congr 2
    omega
  · rw [ct (by simpa using h), wrap64 (by omega) (by omega), bret, l1Sign_v]
    congr 1
    rcases Int.lt_trichotomy (N / 2 ^ K.toNat) (M / 2 ^ L.toNat) with hh | hh | hh
    · rw [Int.sign_eq_neg_one_of_neg (by omega), Int.sign_eq_neg_one_of_neg (by omega)]
    · exact absurd hh h
    · rw [Int.sign_eq_one_of_pos (by omega), Int.sign_eq_one_of_pos (by omega)]
/-! dyok2 -/
theorem isDyadic_v (N K : Int) : i_isDyadic N K = some (dOk N K) := by
  unfold i_isDyadic i_isPlaces dOk
  rw [inside_v, bret, Option.bind_some]
  by_cases h1 : 0 ≤ K ∧ K ≤ 24
  · rw [ct (by simpa using h1), bsome (inside_v ..)]
    by_cases h2 : -1099511627776 ≤ N ∧ N ≤ 1099511627776
    · rw [ct (by simpa using h2)]
      by_cases h3 : K = 0
      · rw [ct (by simpa using h3)]; simp [h2, h3]
      · rw [cf (by simpa using h3)]; simp [h1, h2, h3]
    · rw [cf (by simp; omega)]; simp [h2]
  · rw [cf (by simp; omega)]; simp [h1]
/-! cmpd -/
theorem wv_of {N : Int} {h l k : Nat} (e : h * 2 ^ 64 + l = (0 * 2 ^ 64 + N.natAbs) * 2 ^ k) : wv (decide (N < 0)) h l = N * 2 ^ k := by
  unfold wv
  rw [e, Nat.zero_mul, Nat.zero_add]
  by_cases hn : N < 0
  · rw [if_pos (by simpa using hn)]
    have : N = -((N.natAbs : Nat) : Int) := by omega
    conv => rhs; rw [this]
    simp [Int.neg_mul]
  · rw [if_neg (by simpa using hn)]
    have : N = ((N.natAbs : Nat) : Int) := by omega
    conv => rhs; rw [this]
    simp
theorem wshift_v {N : Int} {k : Nat} (hN : N.natAbs ≤ 1099511627776) (hk : k ≤ 24) : ∃ h l : Nat, i_wide_shift (decide (N < 0)) 0 (N.natAbs : Int) (k : Int) = some (decide (N < 0), (h : Int), (l : Int)) ∧ h < 2 ^ 64 ∧ l < 2 ^ 64 ∧ wv (decide (N < 0)) h l = N * 2 ^ k := by
  have hp : 2 ^ k ≤ 2 ^ 24 := Nat.pow_le_pow_right (by decide) hk
  obtain ⟨h, l, e1, e2, e3, e4⟩ := shiftUp_v (s := decide (N < 0)) (h := 0) (l := N.natAbs) (k := k) (Nat.lt_of_le_of_lt hN (by decide)) (by omega) (by
    have : (0 * 2 ^ 64 + N.natAbs) * 2 ^ k ≤ 1099511627776 * 2 ^ 24 := Nat.mul_le_mul (by omega) hp
    exact Nat.lt_of_le_of_lt this (by decide))
  exact ⟨h, l, e1, e2, e3, wv_of e4⟩
theorem compareD_v {N K M L : Int} (ha : dOk N K = true) (hb : dOk M L = true) : i_compareD N K M L = some (Int.sign (v24 N K - v24 M L)) := by
  obtain ⟨a1, a2, _⟩ := dOk_iff.1 ha
  obtain ⟨b1, b2, _⟩ := dOk_iff.1 hb
  unfold i_compareD
  rw [bsome (wideOf_v (by omega) (by omega))]
  obtain ⟨k, hk⟩ : ∃ k : Nat, (bif decide (K < L) then L else K) = (k : Int) ∧ K ≤ k ∧ L ≤ k ∧ k ≤ 24 := by
    by_cases h : K < L
    · exact ⟨L.toNat, by simp [h]; omega⟩
    · exact ⟨K.toNat, by simp [h]; omega⟩
  obtain ⟨hk, k1, k2, k3⟩ := hk
  rw [hk, wrap64 (by omega) (by omega), wrap64 (by omega) (by omega), show (k : Int) - K = ((k - K.toNat : Nat) : Int) by omega, show (k : Int) - L = ((k - L.toNat : Nat) : Int) by omega]
  obtain ⟨h, l, e1, e2, e3, e4⟩ := wshift_v (N := N) (k := k - K.toNat) (by omega) (by omega)
  obtain ⟨h', l', f1, f2, f3, f4⟩ := wshift_v (N := M) (k := k - L.toNat) (by omega) (by omega)
  rw [bsome e1, bsome (wideOf_v (by omega) (by omega)), bsome f1, bret, compareWide_v e3 f3, e4, f4]
  congr 1
  have s := @sgn_scale (N * 2 ^ (k - K.toNat) - M * 2 ^ (k - L.toNat)) (24 - k)
  rw [← s, Int.sub_mul, Int.mul_assoc, Int.mul_assoc, ← Int.pow_add, ← Int.pow_add, show k - K.toNat + (24 - k) = 24 - K.toNat by omega, show k - L.toNat + (24 - k) = 24 - L.toNat by omega]
  rfl
/-! loops -/
/-- A loop with what is told of its state. -/
theorem inv_loop {σ R : Type} {f : Nat → σ → R} {n : Nat} (Inv : Nat → σ → Prop) (h1 : ∀ i s, i < n → Inv i s → ∃ s', f i s = f (i + 1) s' ∧ Inv (i + 1) s') : ∀ s, Inv 0 s → ∃ s', f 0 s = f n s' ∧ Inv n s' := by
  have main : ∀ m i s, i + m = n → Inv i s → ∃ s', f i s = f n s' ∧ Inv n s' := by
    intro m
    induction m with
    | zero => intro i s hi hs; rw [show i = n by omega] at hs ⊢; exact ⟨s, rfl, hs⟩
    | succ m ih =>
      intro i s hi hs
      obtain ⟨s', e1, h2⟩ := h1 i s (by omega) hs
      obtain ⟨t, e2, h3⟩ := ih (i + 1) s' (by omega) h2
      exact ⟨t, e1.trans e2, h3⟩
  exact fun s hs => main n 0 s (by omega) hs
theorem all_list {α : Type} {xs : List α} {f : Nat → Option Bool} {ok : α → Bool} {e : Option Bool} (h0 : f xs.length = e)
    (h1 : ∀ i (hi : i < xs.length), f i = if ok xs[i] then f (i + 1) else some false) : f 0 = if xs.all ok then e else some false := by
  have main : ∀ m i, i + m = xs.length → f i = if (xs.drop i).all ok then e else some false := by
    intro m
    induction m with
    | zero => intro i hi; rw [List.drop_eq_nil_of_le (by omega), show i = xs.length by omega, h0]; rfl
    | succ m ih =>
      intro i hi
      have hlt : i < xs.length := by omega
      rw [h1 i hlt, ih (i + 1) (by omega), List.drop_eq_getElem_cons hlt, List.all_cons]
      cases ok xs[i] <;> simp
  exact main xs.length 0 (by omega)
theorem idx_list {α : Type} {xs : List α} {f : Nat → Option Int} {p : α → Bool} (h0 : f xs.length = some (-1))
    (h1 : ∀ i (hi : i < xs.length), f i = if p xs[i] then some (i : Int) else f (i + 1)) : ∃ r, f 0 = some r ∧ decide (0 ≤ r) = xs.any p := by
  have main : ∀ m i, i + m = xs.length → ∃ r, f i = some r ∧ decide (0 ≤ r) = (xs.drop i).any p := by
    intro m
    induction m with
    | zero => intro i hi; exact ⟨-1, by rw [show i = xs.length by omega, h0], by rw [List.drop_eq_nil_of_le (by omega)]; rfl⟩
    | succ m ih =>
      intro i hi
      have hlt : i < xs.length := by omega
      rw [h1 i hlt, List.drop_eq_getElem_cons hlt, List.any_cons]
      cases h : p xs[i] with
      | true => exact ⟨i, by simp, by simp⟩
      | false =>
        obtain ⟨r, e1, e2⟩ := ih (i + 1) (by omega)
        exact ⟨r, by simpa using e1, by simpa using e2⟩
  exact main xs.length 0 (by omega)
/-! small -/
def allIn (l : List Int) (m : Int) : Bool := l.all fun c => decide (-m ≤ c ∧ c ≤ m)
theorem l1All_v {l : List Int} {lo hi : Int} (hl : l.length ≤ 9223372036854775807) : s_l1All l lo hi = some (l.all fun c => decide (lo ≤ c ∧ c ≤ hi)) := by
  unfold s_l1All
  refine (all_list (xs := l) (f := fun i => s_l1All_1002 lo hi l l.length (i : Int)) (ok := fun c => decide (lo ≤ c ∧ c ≤ hi)) (e := some true) ?_ fun i hi' => ?_).trans ?_
  · show s_l1All_1002 _ _ _ _ _ = _
    rw [Es_l1All_1002, cf ltf]
  · show s_l1All_1002 _ _ _ _ _ = if _ then s_l1All_1002 _ _ _ _ _ else _
    rw [Es_l1All_1002, ct (ltt hi'), ct (bA hi'), gD hi', bsome (l1In_v ..), sc hi' hl]
    cases decide (lo ≤ l[i] ∧ l[i] ≤ hi) <;> rfl
  · cases l.all _ <;> rfl
def lastOk (p : List Int) : Bool := decide (p.length = 0) || !decide (p.getD (p.length - 1) 0 = 0)
def sgOk (p : List Int) : Bool := decide (p.length ≤ 9) && (allIn p 1000000 && lastOk p)
def smOk (p : List Int) : Bool := sgOk p && (decide (1 ≤ p.length ∧ p.length ≤ 6) && allIn p 1000)
theorem last_v {p : List Int} (h : ¬ p.length = 0) (hl : p.length ≤ 9223372036854775807) : boundA (IntKind.wrap .i64 ((p.length : Int) - 1)) p.length = true ∧ Int.toNat (IntKind.wrap .i64 ((p.length : Int) - 1)) = p.length - 1 := by
  rw [wrap64 (by omega) (by omega)]
  exact ⟨bAi (by omega) (by omega), by omega⟩
theorem sgGood_v {p : List Int} (hl : p.length ≤ 9223372036854775807) : s_sgGood p = some (sgOk p) := by
  unfold s_sgGood sgOk
  by_cases h9 : p.length ≤ 9
  · rw [cf (by simp; omega), bsome (l1All_v hl)]
    rw [show (p.all fun c => decide (-1000000 ≤ c ∧ c ≤ 1000000)) = allIn p 1000000 from rfl]
    cases allIn p 1000000 with
    | false => simp
    | true =>
      unfold lastOk
      rw [cnt]
      by_cases h0 : p.length = 0
      · rw [ct (decide_eq_true (by omega))]; simp [h0]
      · rw [cf (decide_eq_false (by omega)), ct (last_v h0 hl).1, (last_v h0 hl).2]; simp [h9, h0]
  · rw [ct (by simp; omega)]; simp [h9]
theorem isSingle_v {p : List Int} (hl : p.length ≤ 9223372036854775807) : i_isSingle p = some (sgOk p) := by
  unfold i_isSingle
  refine (all_list (xs := p) (f := fun i => i_isSingle_1002 p p p.length (i : Int)) (ok := fun c => decide (-1000000 ≤ c ∧ c ≤ 1000000)) (e := some (decide (p.length ≤ 9) && lastOk p)) ?_ fun i hi' => ?_).trans ?_
  · show i_isSingle_1002 _ _ _ _ = _
    unfold lastOk
    rw [Ei_isSingle_1002, cf ltf]
    by_cases h0 : p.length = 0
    · rw [ct (decide_eq_true (by omega))]; simp [h0]
    · rw [cf (decide_eq_false (by omega))]
      by_cases h9 : p.length ≤ 9
      · rw [ct (by simp; omega), ct (last_v h0 hl).1, (last_v h0 hl).2]; simp [h9, h0]
      · rw [cf (by simp; omega)]; simp [h9]
  · show i_isSingle_1002 _ _ _ _ = if _ then i_isSingle_1002 _ _ _ _ else _
    rw [Ei_isSingle_1002, ct (ltt hi'), ct (bA hi'), gD hi', bsome (inside_v ..), sc hi' hl]
    cases decide (-1000000 ≤ p[i] ∧ p[i] ≤ 1000000) <;> rfl
  · unfold sgOk
    rw [show (p.all fun c => decide (-1000000 ≤ c ∧ c ≤ 1000000)) = allIn p 1000000 from rfl]
    cases allIn p 1000000 <;> simp
theorem deGood_v {p : List Int} (hl : p.length ≤ 9223372036854775807) : s_deGood p = some (smOk p) := by
  unfold s_deGood smOk
  rw [bsome (sgGood_v hl)]
  cases sgOk p with
  | false => rfl
  | true =>
    rw [ct rfl, bsome (l1In_v ..)]
    by_cases h : 1 ≤ p.length ∧ p.length ≤ 6
    · rw [ct (by simp; omega), bret, l1All_v hl]; simp [h, allIn]
    · rw [cf (by simp; omega)]; simp [h]
theorem isSmall_v {p : List Int} (hl : p.length ≤ 9223372036854775807) : i_isSmall p = some (smOk p) := by
  unfold i_isSmall smOk
  rw [bsome (isSingle_v hl)]
  cases sgOk p with
  | false => rfl
  | true =>
    rw [ct rfl, bsome (inside_v ..)]
    by_cases h : 1 ≤ p.length ∧ p.length ≤ 6
    · rw [ct (by simp; omega)]
      obtain ⟨r, e1, e2⟩ := idx_list (xs := p) (f := fun i => slices_IndexFunc_int_int_i_isSmall_1_1002 p p.length (i : Int)) (p := fun c => !decide (-1000 ≤ c ∧ c ≤ 1000)) (by
        show slices_IndexFunc_int_int_i_isSmall_1_1002 _ _ _ = _
        rw [Eslices_IndexFunc_int_int_i_isSmall_1_1002, cf ltf]) (fun i hi => by
        show slices_IndexFunc_int_int_i_isSmall_1_1002 _ _ _ = if _ then _ else slices_IndexFunc_int_int_i_isSmall_1_1002 _ _ _
        have hc : i_isSmall_1 p[i] = some (!decide (-1000 ≤ p[i] ∧ p[i] ≤ 1000)) := by unfold i_isSmall_1; rw [bsome (inside_v ..)]
        rw [Eslices_IndexFunc_int_int_i_isSmall_1_1002, ct (ltt hi), ct (bA hi), gD hi, bsome hc, sc hi hl]
        cases decide (-1000 ≤ p[i] ∧ p[i] ≤ 1000) <;> rfl)
      have hx : slices_ContainsFunc_int_int_i_isSmall_1 p = some (p.any fun c => !decide (-1000 ≤ c ∧ c ≤ 1000)) := by
        unfold slices_ContainsFunc_int_int_i_isSmall_1 slices_IndexFunc_int_int_i_isSmall_1
        have e1' : slices_IndexFunc_int_int_i_isSmall_1_1002 p p.length 0 = some r := e1
        rw [bsome e1', e2]
      rw [bsome hx]
      have : (!p.any fun c => !decide (-1000 ≤ c ∧ c ≤ 1000)) = allIn p 1000 := by
        unfold allIn; rw [List.not_any_eq_all_not]; simp
      rw [this]; simp [h]
    · rw [cf (by simp; omega)]; simp [h]
theorem smOk_bnd {p : List Int} (h : smOk p = true) : 1 ≤ p.length ∧ p.length ≤ 6 ∧ (∀ c ∈ p, -1000 ≤ c ∧ c ≤ 1000) ∧ p.getD (p.length - 1) 0 ≠ 0 := by
  unfold smOk sgOk lastOk allIn at h
  simp only [Bool.and_eq_true, decide_eq_true_eq, List.all_eq_true, Bool.or_eq_true, Bool.not_eq_true', decide_eq_false_iff_not] at h
  refine ⟨h.2.1.1, h.2.1.2, h.2.2, ?_⟩
  rcases h.1.2.2 with h0 | h0
  · omega
  · exact h0
/-! trim -/
/-- A list without zeros at the end. -/
def trim (l : List Int) : List Int := (l.reverse.dropWhile (fun x => decide (x = 0))).reverse
theorem trim_zero (l : List Int) : trim (l ++ [0]) = trim l := by simp [trim]
theorem trim_ne {l : List Int} {x : Int} (h : x ≠ 0) : trim (l ++ [x]) = l ++ [x] := by simp [trim, h]
theorem trim_zeros (l : List Int) : ∀ n, trim (l ++ List.replicate n 0) = trim l
  | 0 => by simp
  | n + 1 => by rw [List.replicate_succ', ← List.append_assoc, trim_zero, trim_zeros l n]
theorem snoc_or (l : List Int) : l = [] ∨ ∃ a x, l = a ++ [x] := by
  rcases List.eq_nil_or_concat l with h | ⟨a, x, h⟩
  · exact .inl h
  · exact .inr ⟨a, x, by simpa using h⟩
theorem trim_dec : ∀ (n : Nat) (l : List Int), l.length = n → ∃ m, l = trim l ++ List.replicate m 0 := by
  intro n
  induction n with
  | zero => intro l h; exact ⟨0, by rw [List.eq_nil_of_length_eq_zero h]; rfl⟩
  | succ n ih =>
    intro l h
    rcases snoc_or l with rfl | ⟨a, x, rfl⟩
    · cases h
    · by_cases hx : x = 0
      · subst hx
        obtain ⟨m, hm⟩ := ih a (by simpa using h)
        refine ⟨m + 1, ?_⟩
        rw [trim_zero, List.replicate_succ', ← List.append_assoc, ← hm]
      · exact ⟨0, by rw [trim_ne hx]; simp⟩
theorem getD_app0 {l : List Int} {m k : Nat} : (l ++ List.replicate m 0).getD k 0 = l.getD k 0 := by
  rw [List.getD_eq_getElem?_getD, List.getD_eq_getElem?_getD]
  by_cases h : k < l.length
  · rw [List.getElem?_append_left h]
  · rw [List.getElem?_append_right (by omega), List.getElem?_eq_none (l := l) (by omega), List.getElem?_replicate]
    split <;> rfl
theorem trim_getD (l : List Int) (k : Nat) : (trim l).getD k 0 = l.getD k 0 := by
  obtain ⟨m, h⟩ := trim_dec _ l rfl
  conv => rhs; rw [h]
  rw [getD_app0]
theorem trim_len (l : List Int) : (trim l).length ≤ l.length := by
  obtain ⟨m, h⟩ := trim_dec _ l rfl
  have := congrArg List.length h
  simp at this
  omega
theorem getD_set {l : List Int} {i k : Nat} {v : Int} (hi : i < l.length) : (l.set i v).getD k 0 = if k = i then v else l.getD k 0 := by
  rw [List.getD_eq_getElem?_getD, List.getD_eq_getElem?_getD, List.getElem?_set]
  by_cases h : i = k
  · subst h; simp [hi]
  · rw [if_neg h, if_neg (fun e => h e.symm)]
theorem ext_getD {l m : List Int} (h : l.length = m.length) (hk : ∀ k, k < l.length → l.getD k 0 = m.getD k 0) : l = m := by
  refine List.ext_getElem h fun i h1 h2 => ?_
  have := hk i h1
  rwa [List.getD_eq_getElem?_getD, List.getD_eq_getElem?_getD, List.getElem?_eq_getElem h1, List.getElem?_eq_getElem h2] at this
theorem getD_range {n k : Nat} {g : Nat → Int} : ((List.range n).map g).getD k 0 = if k < n then g k else 0 := by
  rw [List.getD_eq_getElem?_getD, List.getElem?_map]
  by_cases h : k < n
  · rw [List.getElem?_range h, if_pos h]; rfl
  · rw [List.getElem?_eq_none (by simp; omega), if_neg h]; rfl
theorem getD_mem {l : List Int} {k : Nat} (P : Int → Prop) (h0 : P 0) (h : ∀ c ∈ l, P c) : P (l.getD k 0) := by
  by_cases hk : k < l.length
  · rw [List.getD_eq_getElem?_getD, List.getElem?_eq_getElem hk]; exact h _ (List.getElem_mem hk)
  · rw [List.getD_eq_getElem?_getD, List.getElem?_eq_none (by omega)]; exact h0
theorem getD_out {l : List Int} {k : Nat} (h : l.length ≤ k) : l.getD k 0 = 0 := by
  rw [List.getD_eq_getElem?_getD, List.getElem?_eq_none h]; rfl
theorem getD_rep {n k : Nat} : (List.replicate n (0 : Int)).getD k 0 = 0 := by
  rw [List.getD_eq_getElem?_getD, List.getElem?_replicate]
  split <;> rfl
/-! clone -/
theorem cloneInt_v {l : List Int} (h : l.length ≤ 1000000000) : slices_Clone_int_int l = some l := by
  unfold slices_Clone_int_int
  rw [ct (by simp; omega)]
/-! stripped -/
theorem stripped_v : ∀ {l : List Int}, l.length ≤ 1000000000 → i_stripped l = some (trim l) := by
  have main : ∀ (n : Nat) (l : List Int), l.length = n → n ≤ 1000000000 → i_stripped_1001 l = some (trim l) := by
    intro n
    induction n with
    | zero =>
      intro l h hn
      obtain rfl := List.eq_nil_of_length_eq_zero h
      rw [Ei_stripped_1001, cf (by decide), bret, cloneInt_v (by simp)]; rfl
    | succ n ih =>
      intro l h hn
      rcases snoc_or l with rfl | ⟨a, x, rfl⟩
      · cases h
      · have ha : a.length = n := by simpa using h
        have hg : (a ++ [x]).getD a.length 0 = x := by rw [List.getD_eq_getElem?_getD, List.getElem?_append_right (Nat.le_refl _)]; simp
        have hw : IntKind.wrap .i64 (((a ++ [x]).length : Int) - 1) = (a.length : Int) := by
          rw [List.length_append, List.length_singleton, wrap64 (by omega) (by omega)]; omega
        rw [Ei_stripped_1001, ct (by simp), hw, ct (bA (by simp)), Int.toNat_natCast, hg]
        by_cases hx : x = 0
        · subst hx
          rw [ct (by simp), ct (bE (by simp)), ct (by simp)]
          have e : List.drop (Int.toNat 0) (List.take a.length (a ++ [0])) = a := by simp
          rw [e, ih a ha (by omega), trim_zero]
        · rw [cf (by simpa using hx), bret, cloneInt_v (by omega), trim_ne hx]
  intro l hl
  unfold i_stripped
  exact main _ l rfl hl
/-! addL -/
def addL (p q : List Int) : List Int := (List.range (max p.length q.length)).map fun k => p.getD k 0 + q.getD k 0
theorem addL_getD {p q : List Int} (k : Nat) : (addL p q).getD k 0 = p.getD k 0 + q.getD k 0 := by
  unfold addL
  rw [getD_range]
  by_cases h : k < max p.length q.length
  · rw [if_pos h]
  · rw [if_neg h, getD_out (l := p) (by omega), getD_out (l := q) (by omega)]; rfl
theorem addSingle_v {p q : List Int} {A : Nat} (hp : ∀ c ∈ p, c.natAbs ≤ A) (hq : ∀ c ∈ q, c.natAbs ≤ A) (hA : A ≤ 2305843009213693952) (lp : p.length ≤ 1000) (lq : q.length ≤ 1000) : i_addSingle p q = some (trim (addL p q)) := by
  have hm : (bif decide ((p.length : Int) < (q.length : Int)) then (q.length : Int) else (p.length : Int)) = ((max p.length q.length : Nat) : Int) := by
    by_cases h : p.length < q.length
    · rw [ct (decide_eq_true (by omega))]; omega
    · rw [cf (decide_eq_false (by omega))]; omega
  unfold i_addSingle
  rw [hm, ct (decide_eq_true (by omega)), ct (by simp), ct (decide_eq_true (by omega)), Int.toNat_natCast, List.length_replicate]
  have P : ∀ k, (p.getD k 0).natAbs ≤ A := fun k => getD_mem (fun c => c.natAbs ≤ A) (by simp) hp
  have Q : ∀ k, (q.getD k 0).natAbs ≤ A := fun k => getD_mem (fun c => c.natAbs ≤ A) (by simp) hq
  generalize hL : max p.length q.length = L
  have main : ∃ outs, i_addSingle_1003 p q (List.replicate L (0 : Int)) (L : Int) ((0 : Nat) : Int) = i_addSingle_1003 p q outs (L : Int) (L : Int) ∧ outs.length = L ∧ ∀ k, k < L → outs.getD k 0 = if k < L then p.getD k 0 + q.getD k 0 else 0 := by
    refine inv_loop (n := L) (f := fun i (outs : List Int) => i_addSingle_1003 p q outs (L : Int) (i : Int)) (fun i outs => outs.length = L ∧ ∀ k, k < L → outs.getD k 0 = if k < i then p.getD k 0 + q.getD k 0 else 0) (fun i outs hi ho => ?_) _ ⟨by simp, fun k hk => by rw [if_neg (by omega)]; exact getD_rep⟩
    obtain ⟨t1, t2⟩ := ho
    have hlt : i < outs.length := by omega
    have hoi : List.getD outs (Int.toNat (i : Int)) 0 = 0 := by rw [Int.toNat_natCast, t2 i hi, if_neg (by omega)]
    have hpi : List.getD p (Int.toNat (i : Int)) 0 = p.getD i 0 := by rw [Int.toNat_natCast]
    have hqi : List.getD q (Int.toNat (i : Int)) 0 = q.getD i 0 := by rw [Int.toNat_natCast]
    have hPi := P i
    have hQi := Q i
    have fin : ∀ outs', outs' = outs.set i (p.getD i 0 + q.getD i 0) → outs'.length = L ∧ ∀ k, k < L → outs'.getD k 0 = if k < i + 1 then p.getD k 0 + q.getD k 0 else 0 := by
      rintro _ rfl
      refine ⟨by simp [t1], fun k hk => ?_⟩
      rw [getD_set hlt]
      by_cases h : k = i
      · subst h; rw [if_pos rfl, if_pos (by omega)]
      · rw [if_neg h, t2 k hk]
        by_cases h' : k < i
        · rw [if_pos h', if_pos (by omega)]
        · rw [if_neg h', if_neg (by omega)]
    have hbl : Nat.blt (Int.toNat (i : Int)) outs.length = true := by rw [Int.toNat_natCast]; simpa using hlt
    have hbs : ∀ v, Nat.blt (Int.toNat (i : Int)) (List.set outs (Int.toNat (i : Int)) v).length = true := fun v => by rw [List.length_set]; exact hbl
    have hbA : ∀ v, boundA (i : Int) (List.set outs (Int.toNat (i : Int)) v).length = true := fun v => by rw [List.length_set]; exact bA hlt
    refine ⟨outs.set i (p.getD i 0 + q.getD i 0), ?_, fin _ rfl⟩
    show i_addSingle_1003 _ _ _ _ _ = i_addSingle_1003 _ _ _ _ _
    rw [Ei_addSingle_1003, ct (ltt hi)]
    by_cases h1 : i < p.length
    · rw [ct (ltt h1), ct (bA hlt), ct hbl, ct (bA h1), ct (bA hlt), ct hbl, hoi, hpi, Int.zero_add, wrap64 (n := p.getD i 0) (by omega) (by omega)]
      by_cases h2 : i < q.length
      · rw [ct (ltt h2), ct (hbA _), ct (hbs _), ct (bA h2), ct (hbA _), ct (hbs _), hqi, sc hi (by omega), Int.toNat_natCast, getD_set hlt, if_pos rfl, wrap64 (by omega) (by omega), List.set_set]
      · rw [cf (decide_eq_false (by omega)), getD_out (l := q) (k := i) (by omega), sc hi (by omega), Int.add_zero, Int.toNat_natCast]
    · rw [cf (decide_eq_false (by omega))]
      have h2 : i < q.length := by omega
      rw [ct (ltt h2), ct (bA hlt), ct hbl, ct (bA h2), ct (bA hlt), ct hbl, hoi, hqi, getD_out (l := p) (k := i) (by omega), wrap64 (by omega) (by omega), sc hi (by omega), Int.toNat_natCast]
  obtain ⟨outs, e1, e2, e3⟩ := main
  refine Eq.trans (Eq.trans (show _ = i_addSingle_1003 p q (List.replicate L (0 : Int)) (L : Int) ((0 : Nat) : Int) from rfl) e1) ?_
  rw [Ei_addSingle_1003, cf ltf, bret, stripped_v (by omega)]
  congr 2
  exact ext_getD (by simp [addL, e2, hL]) fun k hk => by rw [e3 k (by omega), addL_getD, if_pos (by omega)]
/-! mulL -/
/-- The coefficients of a product out of the first i rows. -/
def Mc (p q : List Int) : Nat → Nat → Int
  | 0, _ => 0
  | i + 1, k => Mc p q i k + (if i ≤ k then p.getD i 0 * q.getD (k - i) 0 else 0)
def mulL (p q : List Int) : List Int := (List.range (p.length + q.length)).map (Mc p q p.length)
theorem Mc_bnd {p q : List Int} {A B : Nat} (hp : ∀ c ∈ p, c.natAbs ≤ A) (hq : ∀ c ∈ q, c.natAbs ≤ B) : ∀ i k, (Mc p q i k).natAbs ≤ i * (A * B)
  | 0, k => by simp [Mc]
  | i + 1, k => by
    have ih := Mc_bnd hp hq i k
    have h1 : (p.getD i 0 * q.getD (k - i) 0).natAbs ≤ A * B := by
      rw [Int.natAbs_mul]
      exact Nat.mul_le_mul (getD_mem (fun c => c.natAbs ≤ A) (by simp) hp) (getD_mem (fun c => c.natAbs ≤ B) (by simp) hq)
    have e : (Mc p q (i + 1) k).natAbs ≤ (Mc p q i k).natAbs + A * B := by
      show (Mc p q i k + _).natAbs ≤ _
      split
      · exact Nat.le_trans (Int.natAbs_add_le _ _) (by omega)
      · simp
    rw [Nat.add_mul, Nat.one_mul]; omega
theorem multiplySingle_v {p q : List Int} {A B : Nat} (hp : ∀ c ∈ p, c.natAbs ≤ A) (hq : ∀ c ∈ q, c.natAbs ≤ B) (hb : (p.length + 1) * (A * B) ≤ 4611686018427387904) (lp : p.length ≤ 1000) (lq : q.length ≤ 1000) : i_multiplySingle p q = some (trim (mulL p q)) := by
  unfold i_multiplySingle
  rw [wrap64 (by omega) (by omega), show (p.length : Int) + (q.length : Int) = ((p.length + q.length : Nat) : Int) by omega, ct (decide_eq_true (by omega)), ct (by simp), ct (decide_eq_true (by omega)), Int.toNat_natCast]
  have rows : ∃ outs, i_multiplySingle_1003 q (List.replicate (p.length + q.length) (0 : Int)) p p.length ((0 : Nat) : Int) = i_multiplySingle_1003 q outs p p.length (p.length : Int) ∧ outs.length = p.length + q.length ∧ ∀ k, k < p.length + q.length → outs.getD k 0 = Mc p q p.length k := by
    refine inv_loop (n := p.length) (f := fun i (outs : List Int) => i_multiplySingle_1003 q outs p p.length (i : Int)) (fun i outs => outs.length = p.length + q.length ∧ ∀ k, k < p.length + q.length → outs.getD k 0 = Mc p q i k) (fun i outs hi ho => ?_) _ ⟨by simp, fun k hk => getD_rep⟩
    obtain ⟨o1, o2⟩ := ho
    have inner : ∃ outs', i_multiplySingle_1006 q outs (i : Int) p[i] p p.length (i : Int) q q.length ((0 : Nat) : Int) = i_multiplySingle_1006 q outs' (i : Int) p[i] p p.length (i : Int) q q.length (q.length : Int) ∧ outs'.length = p.length + q.length ∧ ∀ k, k < p.length + q.length → outs'.getD k 0 = Mc p q i k + (if i ≤ k ∧ k < i + q.length then p.getD i 0 * q.getD (k - i) 0 else 0) := by
      refine inv_loop (n := q.length) (f := fun j (outs : List Int) => i_multiplySingle_1006 q outs (i : Int) p[i] p p.length (i : Int) q q.length (j : Int)) (fun j outs => outs.length = p.length + q.length ∧ ∀ k, k < p.length + q.length → outs.getD k 0 = Mc p q i k + (if i ≤ k ∧ k < i + j then p.getD i 0 * q.getD (k - i) 0 else 0)) (fun j outs hj ho => ?_) _ ⟨o1, fun k hk => by rw [o2 k hk, if_neg (by omega)]; omega⟩
      obtain ⟨t1, t2⟩ := ho
      have hpi : p[i] = p.getD i 0 := by rw [List.getD_eq_getElem?_getD, List.getElem?_eq_getElem hi]; rfl
      have hqj : q[j] = q.getD j 0 := by rw [List.getD_eq_getElem?_getD, List.getElem?_eq_getElem hj]; rfl
      have hlt : i + j < outs.length := by omega
      have hgo := t2 (i + j) (by omega)
      rw [if_neg (by omega), Int.add_zero] at hgo
      have b1 := Mc_bnd hp hq i (i + j)
      have b2 : (p.getD i 0 * q.getD j 0).natAbs ≤ A * B := by
        rw [Int.natAbs_mul]
        exact Nat.mul_le_mul (getD_mem (fun c => c.natAbs ≤ A) (by simp) hp) (getD_mem (fun c => c.natAbs ≤ B) (by simp) hq)
      have b3 : i * (A * B) + A * B ≤ (p.length + 1) * (A * B) := by
        have : i * (A * B) ≤ p.length * (A * B) := Nat.mul_le_mul_right _ (by omega)
        rw [Nat.add_mul, Nat.one_mul]; omega
      have hw : IntKind.wrap .i64 ((i : Int) + (j : Int)) = ((i + j : Nat) : Int) := by rw [wrap64 (by omega) (by omega)]; omega
      refine ⟨outs.set (i + j) (Mc p q i (i + j) + p.getD i 0 * q.getD j 0), ?_, by simp [t1], fun k hk => ?_⟩
      · show i_multiplySingle_1006 _ _ _ _ _ _ _ _ _ _ = i_multiplySingle_1006 _ _ _ _ _ _ _ _ _ _
        rw [Ei_multiplySingle_1006, ct (ltt hj), ct (bA hj), hw, ct (bA hlt), ct (by rw [Int.toNat_natCast]; simpa using hlt), ct (bA hlt), ct (by rw [Int.toNat_natCast]; simpa using hlt), gD hj, gD hlt, sc hj (by omega), Int.toNat_natCast]
        have e : outs[i + j] = outs.getD (i + j) 0 := by rw [List.getD_eq_getElem?_getD, List.getElem?_eq_getElem hlt]; rfl
        rw [e, hgo, hqj, hpi, wrap64 (n := p.getD i 0 * q.getD j 0) (by omega) (by omega), wrap64 (by omega) (by omega)]
      · rw [getD_set hlt]
        by_cases hk2 : k = i + j
        · subst hk2
          rw [if_pos rfl, if_pos (by omega), show i + j - i = j by omega]
        · rw [if_neg hk2, t2 k hk]
          by_cases h3 : i ≤ k ∧ k < i + j
          · rw [if_pos h3, if_pos (by omega)]
          · rw [if_neg h3, if_neg (by omega)]
    obtain ⟨outs', e1, e2, e3⟩ := inner
    refine ⟨outs', ?_, e2, fun k hk => ?_⟩
    · show i_multiplySingle_1003 _ _ _ _ _ = i_multiplySingle_1003 _ _ _ _ _
      rw [Ei_multiplySingle_1003, ct (ltt hi), ct (bA hi), gD hi]
      refine Eq.trans e1 ?_
      rw [Ei_multiplySingle_1006, cf ltf, sc hi (by omega)]
    · rw [e3 k hk]
      show _ = Mc p q i k + _
      by_cases h3 : i ≤ k
      · rw [if_pos h3]
        by_cases h4 : k < i + q.length
        · rw [if_pos ⟨h3, h4⟩]
        · rw [if_neg (by omega), getD_out (l := q) (by omega)]; simp
      · rw [if_neg h3, if_neg (by omega)]
  obtain ⟨outs, e1, e2, e3⟩ := rows
  refine Eq.trans (Eq.trans (show _ = i_multiplySingle_1003 q (List.replicate (p.length + q.length) (0 : Int)) p p.length ((0 : Nat) : Int) from rfl) e1) ?_
  rw [Ei_multiplySingle_1003, cf ltf, bret, stripped_v (by omega)]
  congr 2
  exact ext_getD (by simp [mulL, e2]) fun k hk => by rw [e3 k (by omega)]; unfold mulL; rw [getD_range, if_pos (by omega)]
theorem Mc_one {p : List Int} {c : Int} : ∀ i k, Mc p [c] i k = if k < i then p.getD k 0 * c else 0
  | 0, k => by simp [Mc]
  | i + 1, k => by
    show Mc p [c] i k + _ = _
    rw [Mc_one i k]
    by_cases h : k < i
    · rw [if_pos h, if_neg (by omega), if_pos (by omega)]; omega
    · by_cases h2 : k = i
      · subst h2; rw [if_neg h, if_pos (Nat.le_refl _), if_pos (by omega), Nat.sub_self]; simp
      · rw [if_neg h, if_pos (by omega), if_neg (by omega), getD_out (l := [c]) (by simp; omega)]; simp
theorem mulL_one {p : List Int} {c : Int} (k : Nat) : (mulL p [c]).getD k 0 = p.getD k 0 * c := by
  unfold mulL
  rw [getD_range, Mc_one]
  by_cases h : k < p.length
  · rw [if_pos (by simp; omega), if_pos h]
  · rw [getD_out (l := p) (by omega)]; split <;> simp [h]
/-! fam -/
/-- The family at a moment, with six coefficients. -/
def fam (p q : List Int) (i f : Nat) : List Int := (List.range 6).map fun k => p.getD k 0 * 2 ^ f + q.getD k 0 * i
theorem fam_getD {p q : List Int} {i f : Nat} (hp : p.length ≤ 6) (hq : q.length ≤ 6) (k : Nat) : (fam p q i f).getD k 0 = p.getD k 0 * 2 ^ f + q.getD k 0 * i := by
  unfold fam
  rw [getD_range]
  by_cases h : k < 6
  · rw [if_pos h]
  · rw [if_neg h, getD_out (l := p) (by omega), getD_out (l := q) (by omega)]; simp
theorem fam_bnd {p q : List Int} {i f : Nat} (hp : ∀ c ∈ p, -1000 ≤ c ∧ c ≤ 1000) (hq : ∀ c ∈ q, -1000 ≤ c ∧ c ≤ 1000) (hf : f ≤ 4) (hi : i ≤ 2 ^ f) : ∀ c ∈ fam p q i f, c.natAbs ≤ 32000 := by
  intro c hc
  unfold fam at hc
  obtain ⟨k, _, rfl⟩ := List.mem_map.1 hc
  have P : -1000 ≤ p.getD k 0 ∧ p.getD k 0 ≤ 1000 := getD_mem (fun c => -1000 ≤ c ∧ c ≤ 1000) (by decide) hp
  have Q : -1000 ≤ q.getD k 0 ∧ q.getD k 0 ≤ 1000 := getD_mem (fun c => -1000 ≤ c ∧ c ≤ 1000) (by decide) hq
  have hf16 : 2 ^ f ≤ 16 := Nat.le_trans (Nat.pow_le_pow_right (by decide) hf) (by decide)
  have h1 : (p.getD k 0 * 2 ^ f).natAbs ≤ 1000 * 16 := by
    rw [Int.natAbs_mul, show Int.natAbs (2 ^ f) = 2 ^ f by rw [Int.natAbs_pow]; rfl]; exact Nat.mul_le_mul (by omega) hf16
  have h2 : (q.getD k 0 * (i : Int)).natAbs ≤ 1000 * 16 := by
    rw [Int.natAbs_mul, Int.natAbs_natCast]; exact Nat.mul_le_mul (by omega) (by omega)
  have := Int.natAbs_add_le (p.getD k 0 * 2 ^ f) (q.getD k 0 * (i : Int))
  omega
theorem trim_eq {l m : List Int} {n : Nat} (hl : l.length ≤ n) (hm : m.length ≤ n) (h : ∀ k, l.getD k 0 = m.getD k 0) : trim l = trim m := by
  have : l ++ List.replicate (n - l.length) 0 = m ++ List.replicate (n - m.length) 0 := ext_getD (by simp; omega) fun k _ => by rw [getD_app0, getD_app0, h k]
  rw [← trim_zeros l (n - l.length), this, trim_zeros]
theorem p2f {f : Nat} (hf : f ≤ 4) : IntKind.wrap .i64 (1 * 2 ^ min (Int.toNat (f : Int)) (IntKind.bits .i64)) = 2 ^ f := by
  have h1 : (2 : Int) ^ f ≤ 2 ^ 4 := by exact_mod_cast Nat.pow_le_pow_right (by decide) hf
  have h2 : (0 : Int) < 2 ^ f := Int.pow_pos (by decide)
  rw [Int.toNat_natCast, show IntKind.bits .i64 = 64 from rfl, Nat.min_eq_left (by omega), Int.one_mul, wrap64 (by omega) (by omega)]
theorem familyAt_v {p q : List Int} {i f : Nat} (hp : smOk p = true) (hq : smOk q = true) (hf : f ≤ 4) (hi : i ≤ 2 ^ f) : i_familyAt p q (i : Int) (f : Int) = some (trim (fam p q i f)) := by
  obtain ⟨p1, p2, p3, _⟩ := smOk_bnd hp
  obtain ⟨q1, q2, q3, _⟩ := smOk_bnd hq
  have hf16 : 2 ^ f ≤ 16 := Nat.le_trans (Nat.pow_le_pow_right (by decide) hf) (by decide)
  have n2 : Int.natAbs (2 ^ f) = 2 ^ f := by rw [Int.natAbs_pow]; rfl
  unfold i_familyAt
  rw [ct (by simp), p2f hf]
  have m1 := multiplySingle_v (p := p) (q := [2 ^ f]) (A := 1000) (B := 16) (fun c hc => by have := p3 c hc; omega) (fun c hc => by rw [List.mem_singleton.1 hc, n2]; exact hf16) (Nat.le_trans (Nat.mul_le_mul_right _ (show p.length + 1 ≤ 7 by omega)) (by decide)) (by omega) (by simp)
  have m2 := multiplySingle_v (p := q) (q := [(i : Int)]) (A := 1000) (B := 16) (fun c hc => by have := q3 c hc; omega) (fun c hc => by rw [List.mem_singleton.1 hc]; omega) (Nat.le_trans (Nat.mul_le_mul_right _ (show q.length + 1 ≤ 7 by omega)) (by decide)) (by omega) (by simp)
  have b : ∀ {l : List Int} {c : Int}, (∀ x ∈ l, -1000 ≤ x ∧ x ≤ 1000) → c.natAbs ≤ 16 → ∀ x ∈ trim (mulL l [c]), x.natAbs ≤ 16000 := by
    intro l c hl hc x hx
    obtain ⟨k, hk, rfl⟩ := List.mem_iff_getElem.1 hx
    have e : (trim (mulL l [c])).getD k 0 = (trim (mulL l [c]))[k] := by rw [List.getD_eq_getElem?_getD, List.getElem?_eq_getElem hk]; rfl
    rw [← e, trim_getD, mulL_one, Int.natAbs_mul]
    have : -1000 ≤ l.getD k 0 ∧ l.getD k 0 ≤ 1000 := getD_mem (fun c => -1000 ≤ c ∧ c ≤ 1000) (by decide) hl
    exact Nat.mul_le_mul (show (l.getD k 0).natAbs ≤ 1000 by omega) hc
  have l1 := trim_len (mulL p [2 ^ f])
  have l2 := trim_len (mulL q [(i : Int)])
  have l3 : (mulL p [2 ^ f]).length = p.length + 1 := by simp [mulL]
  have l4 : (mulL q [(i : Int)]).length = q.length + 1 := by simp [mulL]
  have hx := addSingle_v (p := trim (mulL p [2 ^ f])) (q := trim (mulL q [(i : Int)])) (A := 16000) (b p3 (by rw [n2]; exact hf16)) (b q3 (by omega)) (by decide) (by omega) (by omega)
  rw [bsome m1, bsome m2, bret, hx]
  refine congrArg some ?_
  refine trim_eq (n := 7) (by unfold addL; rw [List.length_map, List.length_range]; omega) (by unfold fam; rw [List.length_map, List.length_range]; decide) fun k => ?_
  rw [addL_getD, trim_getD, trim_getD, mulL_one, mulL_one, fam_getD p2 q2]
/-! faAt -/
theorem faAt_v {p q : List Int} {i f : Nat} (hp : smOk p = true) (hq : smOk q = true) (hf : f ≤ 4) (hi : i ≤ 2 ^ f) : s_faAt p q (i : Int) (f : Int) = some (fam p q i f) := by
  obtain ⟨p1, p2, p3, _⟩ := smOk_bnd hp
  obtain ⟨q1, q2, q3, _⟩ := smOk_bnd hq
  have hf16 : 2 ^ f ≤ 16 := Nat.le_trans (Nat.pow_le_pow_right (by decide) hf) (by decide)
  have P : ∀ k, -1000 ≤ p.getD k 0 ∧ p.getD k 0 ≤ 1000 := fun k => getD_mem (fun c => -1000 ≤ c ∧ c ≤ 1000) (by decide) p3
  have Q : ∀ k, -1000 ≤ q.getD k 0 ∧ q.getD k 0 ≤ 1000 := fun k => getD_mem (fun c => -1000 ≤ c ∧ c ≤ 1000) (by decide) q3
  have B1 : ∀ k, (p.getD k 0 * 2 ^ f).natAbs ≤ 1000 * 16 := fun k => by
    rw [Int.natAbs_mul, show Int.natAbs (2 ^ f) = 2 ^ f by rw [Int.natAbs_pow]; rfl]; exact Nat.mul_le_mul (by have := P k; omega) hf16
  have B2 : ∀ k, (q.getD k 0 * (i : Int)).natAbs ≤ 1000 * 16 := fun k => by
    rw [Int.natAbs_mul, Int.natAbs_natCast]; exact Nat.mul_le_mul (by have := Q k; omega) (by omega)
  have first : ∃ outs, s_faAt_1003 q (i : Int) (f : Int) (List.replicate 6 (0 : Int)) p p.length ((0 : Nat) : Int) = s_faAt_1003 q (i : Int) (f : Int) outs p p.length (p.length : Int) ∧ outs.length = 6 ∧ ∀ k, k < 6 → outs.getD k 0 = if k < p.length then p.getD k 0 * 2 ^ f else 0 := by
    refine inv_loop (n := p.length) (f := fun j (outs : List Int) => s_faAt_1003 q (i : Int) (f : Int) outs p p.length (j : Int)) (fun j outs => outs.length = 6 ∧ ∀ k, k < 6 → outs.getD k 0 = if k < j then p.getD k 0 * 2 ^ f else 0) (fun j outs hj ho => ?_) _ ⟨by simp, fun k hk => by rw [if_neg (by omega)]; exact getD_rep⟩
    obtain ⟨t1, t2⟩ := ho
    have hlt : j < outs.length := by omega
    have hbl : Nat.blt (Int.toNat (j : Int)) outs.length = true := by rw [Int.toNat_natCast]; simpa using hlt
    have hoj : List.getD outs (Int.toNat (j : Int)) 0 = 0 := by rw [Int.toNat_natCast, t2 j (by omega), if_neg (by omega)]
    have hpj : List.getD p (Int.toNat (j : Int)) 0 = p.getD j 0 := by rw [Int.toNat_natCast]
    have b1 := B1 j
    refine ⟨outs.set j (p.getD j 0 * 2 ^ f), ?_, by simp [t1], fun k hk => ?_⟩
    · show s_faAt_1003 _ _ _ _ _ _ _ = s_faAt_1003 _ _ _ _ _ _ _
      rw [Es_faAt_1003, ct (ltt hj), ct (bA hj), ct (bA hlt), ct hbl, bsome (dyPower_v (by omega) (by omega)), ct (bA hlt), ct hbl, hoj, hpj, Int.toNat_natCast, Int.toNat_natCast, wrap64 (n := p.getD j 0 * 2 ^ f) (by omega) (by omega), Int.zero_add, wrap64 (by omega) (by omega), sc hj (by omega)]
    · rw [getD_set hlt]
      by_cases h : k = j
      · subst h; rw [if_pos rfl, if_pos (by omega)]
      · rw [if_neg h, t2 k hk]
        by_cases h' : k < j
        · rw [if_pos h', if_pos (by omega)]
        · rw [if_neg h', if_neg (by omega)]
  obtain ⟨o1, e1, l1, g1⟩ := first
  have second : ∃ outs, s_faAt_1008 (i : Int) o1 q q.length ((0 : Nat) : Int) = s_faAt_1008 (i : Int) outs q q.length (q.length : Int) ∧ outs.length = 6 ∧ ∀ k, k < 6 → outs.getD k 0 = p.getD k 0 * 2 ^ f + (if k < q.length then q.getD k 0 * (i : Int) else 0) := by
    refine inv_loop (n := q.length) (f := fun j (outs : List Int) => s_faAt_1008 (i : Int) outs q q.length (j : Int)) (fun j outs => outs.length = 6 ∧ ∀ k, k < 6 → outs.getD k 0 = p.getD k 0 * 2 ^ f + (if k < j then q.getD k 0 * (i : Int) else 0)) (fun j outs hj ho => ?_) _ ⟨l1, fun k hk => by
      rw [g1 k hk, if_neg (show ¬ k < 0 by omega)]
      by_cases h : k < p.length
      · rw [if_pos h]; omega
      · rw [if_neg h, getD_out (l := p) (by omega)]; simp⟩
    obtain ⟨t1, t2⟩ := ho
    have hlt : j < outs.length := by omega
    have hbl : Nat.blt (Int.toNat (j : Int)) outs.length = true := by rw [Int.toNat_natCast]; simpa using hlt
    have hoj : List.getD outs (Int.toNat (j : Int)) 0 = p.getD j 0 * 2 ^ f := by rw [Int.toNat_natCast, t2 j (by omega), if_neg (by omega)]; omega
    have hqj : List.getD q (Int.toNat (j : Int)) 0 = q.getD j 0 := by rw [Int.toNat_natCast]
    have b1 := B1 j
    have b2 := B2 j
    refine ⟨outs.set j (p.getD j 0 * 2 ^ f + q.getD j 0 * (i : Int)), ?_, by simp [t1], fun k hk => ?_⟩
    · show s_faAt_1008 _ _ _ _ _ = s_faAt_1008 _ _ _ _ _
      rw [Es_faAt_1008, ct (ltt hj), ct (bA hj), ct (bA hlt), ct hbl, ct (bA hlt), ct hbl, hoj, hqj, wrap64 (n := q.getD j 0 * (i : Int)) (by omega) (by omega), wrap64 (by omega) (by omega), sc hj (by omega), Int.toNat_natCast]
    · rw [getD_set hlt]
      by_cases h : k = j
      · subst h; rw [if_pos rfl, if_pos (by omega)]
      · rw [if_neg h, t2 k hk]
        by_cases h' : k < j
        · rw [if_pos h', if_pos (by omega)]
        · rw [if_neg h', if_neg (by omega)]
  obtain ⟨o2, e2, l2, g2⟩ := second
  unfold s_faAt
  refine Eq.trans (Eq.trans (show _ = s_faAt_1003 q (i : Int) (f : Int) (List.replicate 6 (0 : Int)) p p.length ((0 : Nat) : Int) from rfl) e1) ?_
  rw [Es_faAt_1003, cf ltf]
  refine Eq.trans e2 ?_
  rw [Es_faAt_1008, cf ltf]
  congr 1
  refine ext_getD (by simp [fam, l2]) fun k hk => ?_
  rw [g2 k (by omega), fam_getD p2 q2]
  by_cases h : k < q.length
  · rw [if_pos h]
  · rw [if_neg h, getD_out (l := q) (by omega)]; simp
/-! scaf -/
def rb (n : Nat) : Nat := if n % 6 = 5 then 0 else if n % 3 = 0 then 1 else n
theorem rb_le (n : Nat) : rb n ≤ n + 1 := by unfold rb; split <;> (try split) <;> omega
theorem walk_loop {f : Int → Option Bool} {n : Nat} {r : Option Bool} (h : ∀ i : Nat, i < n → f i = f ((i + 1 : Nat) : Int)) (h' : f n = r) : f 0 = r := by
  have main : ∀ m i : Nat, i + m = n → f i = r := by
    intro m
    induction m with
    | zero => intro i hi; rw [show i = n by omega, h']
    | succ m ih => intro i hi; rw [h i (by omega), ih (i + 1) (by omega)]
  exact main n 0 (by omega)
theorem to_loop {A V : Type} {a : List A} {f5 f9 : List V → Int → Option (List V × Nat)} {fill d : V} {fgE : V → A} {Q : V → Prop} {R : Nat}
    (h5 : ∀ (outs : List V) (i : Nat) (hi : i < a.length), outs.length = a.length + R → ∃ v, fgE v = a[i] ∧ Q v ∧ f5 outs i = f5 (outs.set i v) ((i + 1 : Nat) : Int))
    (h5' : ∀ outs, f5 outs a.length = f9 outs a.length)
    (h9 : ∀ (outs : List V) (i : Nat), i < outs.length → outs.length = a.length + R → f9 outs i = f9 (outs.set i fill) ((i + 1 : Nat) : Int))
    (h9' : ∀ outs : List V, outs.length = a.length + R → f9 outs outs.length = some (outs, a.length)) :
    ∃ P : List V, P.length = a.length ∧ P.map fgE = a ∧ (∀ v ∈ P, Q v) ∧ f5 (List.replicate (a.length + R) d) 0 = some (P ++ List.replicate R fill, a.length) := by
  have second : ∀ (P : List V) (m j : Nat), P.length = a.length → j + m = R → f9 (P ++ (List.replicate j fill ++ List.replicate m d)) ((a.length + j : Nat) : Int) = some (P ++ List.replicate R fill, a.length) := by
    intro P m
    induction m with
    | zero =>
      intro j hP hj
      obtain rfl : j = R := by omega
      have := h9' (P ++ (List.replicate j fill ++ List.replicate 0 d)) (by simp [hP])
      simp only [List.replicate_zero, List.append_nil] at this ⊢
      rw [← this]
      simp [hP]
    | succ m ih =>
      intro j hP hj
      rw [h9 _ _ (by simp; omega) (by simp [hP]; omega)]
      have e : (P ++ (List.replicate j fill ++ List.replicate (m + 1) d)).set (a.length + j) fill = P ++ (List.replicate (j + 1) fill ++ List.replicate m d) := by
        rw [List.set_append_right _ _ (by omega), List.set_append_right _ _ (by simp; omega), List.replicate_succ, List.length_replicate, show a.length + j - P.length - j = 0 by omega, List.set_cons_zero, List.replicate_succ']
        simp
      rw [e]
      exact ih (j + 1) hP (by omega)
  have first : ∀ (m : Nat) (P : List V), P.length + m = a.length → P.map fgE = a.take P.length → (∀ v ∈ P, Q v) →
      ∃ P' : List V, P'.length = a.length ∧ P'.map fgE = a ∧ (∀ v ∈ P', Q v) ∧ f5 (P ++ List.replicate (m + R) d) (P.length : Int) = some (P' ++ List.replicate R fill, a.length) := by
    intro m
    induction m with
    | zero =>
      intro P hP hm hQ
      refine ⟨P, by omega, by rw [hm, List.take_of_length_le (by omega)], hQ, ?_⟩
      rw [show P.length = a.length by omega, h5']
      have := second P R 0 (by omega) (by omega)
      rw [← this]
      simp
    | succ m ih =>
      intro P hP hm hQ
      obtain ⟨v, g1, g2, g3⟩ := h5 (P ++ List.replicate (m + 1 + R) d) P.length (by omega) (by simp; omega)
      obtain ⟨P', q1, q2, q3, q4⟩ := ih (P ++ [v]) (by simp; omega) (by rw [List.map_append, hm, List.length_append, List.length_singleton, List.take_succ_eq_append_getElem (show P.length < a.length by omega)]; simp [g1]) (fun u hu => by
        rcases List.mem_append.1 hu with h | h
        · exact hQ u h
        · rw [List.mem_singleton.1 h]; exact g2)
      refine ⟨P', q1, q2, q3, ?_⟩
      rw [g3, ← q4]
      have e : (P ++ List.replicate (m + 1 + R) d).set P.length v = P ++ [v] ++ List.replicate (m + R) d := by
        rw [List.set_append_right _ _ (by omega), Nat.sub_self, show m + 1 + R = m + R + 1 by omega, List.replicate_succ, List.set_cons_zero]
        simp
      rw [e, List.length_append, List.length_singleton]
  have := first a.length [] (by simp) (by simp) (by simp)
  simpa using this
theorem roomBehind_v (n : Nat) : w_roomBehind (n : Int) = some (rb n : Int) := by
  have h6 : Int.tmod (n : Int) 6 = ((n % 6 : Nat) : Int) := by rw [Int.tmod_eq_emod_of_nonneg (by omega)]; omega
  have h3 : Int.tmod (n : Int) 3 = ((n % 3 : Nat) : Int) := by rw [Int.tmod_eq_emod_of_nonneg (by omega)]; omega
  unfold w_roomBehind rb
  rw [h6, h3]
  by_cases h : n % 6 = 5
  · rw [if_pos h, ct (by simp; omega)]; rfl
  · rw [if_neg h, cf (by simp; omega)]
    by_cases h' : n % 3 = 0
    · rw [if_pos h', ct (by simp; omega)]; rfl
    · rw [if_neg h', cf (by simp; omega)]
theorem rbw {n : Nat} (h : n ≤ 1000000) : IntKind.wrap .i64 ((n : Int) + (rb n : Int)) = ((n + rb n : Nat) : Int) := by
  have := rb_le n
  rw [wrap64 (by omega) (by omega)]; omega
theorem blt {i n : Nat} (h : i < n) : Nat.blt i n = true := by simp [Nat.blt_eq, h]
/-! famsign0 -/
theorem v24_8 : v24 8 0 = 134217728 := by decide
theorem v24_m8 : v24 (-8) 0 = -134217728 := by decide
theorem sign_le {n : Int} : Int.sign n ≤ 0 ↔ n ≤ 0 := by
  rcases Int.lt_trichotomy n 0 with h | h | h
  · rw [Int.sign_eq_neg_one_of_neg h]; omega
  · subst h; simp
  · rw [Int.sign_eq_one_of_pos h]; omega
theorem inRange_v {N K : Int} (h : dOk N K = true) : i_inRange N K = some (decide (-134217728 ≤ v24 N K ∧ v24 N K ≤ 134217728)) := by
  unfold i_inRange
  rw [bsome (compareD_v (by decide) h), v24_m8]
  by_cases h1 : -134217728 ≤ v24 N K
  · rw [ct (decide_eq_true (sign_le.2 (by omega))), bsome (compareD_v h (by decide)), v24_8]
    simp only [sign_le]
    congr 1
    simp [h1]; omega
  · rw [cf (decide_eq_false (by rw [sign_le]; omega))]; simp [h1]
/-! fit -/
/-- A dyadic number in its form is told by its value. -/
theorem v24_inj {N K M L : Int} (ha : dOk N K = true) (hb : dOk M L = true) (h : v24 N K = v24 M L) : N = M ∧ K = L := by
  obtain ⟨a1, a2, a3⟩ := dOk_iff.1 ha
  obtain ⟨b1, b2, b3⟩ := dOk_iff.1 hb
  have main : ∀ {N M : Int} {k l : Nat}, k ≤ l → l ≤ 24 → (l = 0 ∨ Int.tmod M 2 ≠ 0) → N * 2 ^ (24 - k) = M * 2 ^ (24 - l) → k = l ∧ N = M := by
    intro N M k l hkl hl hM e
    have e2 : (2 : Int) ^ (24 - k) = 2 ^ (l - k) * 2 ^ (24 - l) := by rw [← Int.pow_add]; congr 1; omega
    have hp : (2 : Int) ^ (24 - l) ≠ 0 := Int.ne_of_gt (Int.pow_pos (by decide))
    rw [e2, ← Int.mul_assoc] at e
    have e3 := Int.mul_eq_mul_right_iff hp |>.1 e
    by_cases hk : l = k
    · subst hk
      rw [Nat.sub_self] at e3
      exact ⟨rfl, by simpa using e3⟩
    · exfalso
      rcases hM with h | h
      · omega
      · apply h
        have : l - k = (l - k - 1) + 1 := by omega
        rw [this, Int.pow_succ, ← Int.mul_assoc] at e3
        rw [← e3]
        exact Int.mul_tmod_left _ _
  unfold v24 at h
  by_cases hkl : K.toNat ≤ L.toNat
  · obtain ⟨e1, e2⟩ := main hkl (by omega) (b3.imp (by omega) id) h
    exact ⟨e2, by omega⟩
  · obtain ⟨e1, e2⟩ := main (show L.toNat ≤ K.toNat by omega) (by omega) (a3.imp (by omega) id) h.symm
    exact ⟨e2.symm, by omega⟩
/-- Whether an interval is fit. -/
def fitOk (N K M L : Int) : Bool := (dOk N K && dOk M L) && (decide (K ≤ 5 ∧ L ≤ 5) && decide (-134217728 ≤ v24 N K ∧ v24 N K < v24 M L ∧ v24 M L ≤ 134217728))
theorem isFit_v (N K M L : Int) : i_isFit N K M L = some (fitOk N K M L) := by
  unfold i_isFit fitOk i_isInterval
  rw [bsome (isDyadic_v ..)]
  cases ha : dOk N K with
  | false => rfl
  | true =>
    rw [ct rfl, bsome (isDyadic_v ..)]
    cases hb : dOk M L with
    | false => rfl
    | true =>
      rw [ct rfl, bsome (compareD_v ha hb)]
      simp only [Option.bind_some, sign_le]
      by_cases h1 : v24 N K - v24 M L ≤ 0
      · rw [ct (decide_eq_true h1), bsome (inRange_v ha)]
        by_cases h2 : -134217728 ≤ v24 N K ∧ v24 N K ≤ 134217728
        · rw [ct (decide_eq_true h2), bsome (inRange_v hb)]
          by_cases h3 : -134217728 ≤ v24 M L ∧ v24 M L ≤ 134217728
          · rw [ct (decide_eq_true h3)]
            by_cases h4 : K ≤ 5
            · rw [ct (decide_eq_true h4)]
              by_cases h5 : L ≤ 5
              · rw [ct (decide_eq_true h5)]
                by_cases h6 : N = M ∧ K = L
                · obtain ⟨rfl, rfl⟩ := h6; simp
                · have : v24 N K ≠ v24 M L := fun e => h6 (v24_inj ha hb e)
                  have h7 : v24 N K < v24 M L := by omega
                  simp only [Bool.and_true, h4, h5, and_self, decide_true, Bool.true_and]
                  congr 1
                  rw [decide_eq_true (show -134217728 ≤ v24 N K ∧ v24 N K < v24 M L ∧ v24 M L ≤ 134217728 by omega)]
                  by_cases e1 : N = M
                  · have e2 : ¬ K = L := fun e => h6 ⟨e1, e⟩
                    simp [e2]
                  · simp [e1]
              · rw [cf (decide_eq_false h5)]; simp [h5]
            · rw [cf (decide_eq_false h4)]; simp [h4]
          · rw [cf (decide_eq_false h3)]; congr 1; symm; rw [Bool.and_eq_false_iff]; right; rw [Bool.and_eq_false_iff]; right; exact decide_eq_false (by omega)
        · rw [cf (decide_eq_false h2)]; congr 1; symm; rw [Bool.and_eq_false_iff]; right; rw [Bool.and_eq_false_iff]; right; exact decide_eq_false (by omega)
      · rw [cf (decide_eq_false h1)]; congr 1; symm; rw [Bool.and_eq_false_iff]; right; rw [Bool.and_eq_false_iff]; right; exact decide_eq_false (by omega)
/-! dynorm -/
/-- A number over a power of 2 in its form. -/
def red : Nat → Int → Int × Int
  | 0, n => (n, 0)
  | k + 1, n => if n % 2 = 0 then red k (n / 2) else (n, ((k + 1 : Nat) : Int))
theorem red_zero : ∀ k : Nat, red k 0 = (0, 0)
  | 0 => rfl
  | k + 1 => by rw [red, if_pos (by decide), show (0 : Int) / 2 = 0 from rfl, red_zero k]
theorem red_up (n : Int) : ∀ (j k : Nat), red (k + j) (n * 2 ^ j) = red k n
  | 0, k => by simp
  | j + 1, k => by
    have e : n * 2 ^ (j + 1) = (n * 2 ^ j) * 2 := by rw [Int.pow_succ, Int.mul_assoc]
    rw [show k + (j + 1) = (k + j) + 1 from rfl, red, e, if_pos (Int.mul_emod_left _ _), Int.mul_ediv_cancel _ (by decide), red_up n j k]
theorem red_form {n : Int} {k : Nat} (h : k = 0 ∨ n % 2 ≠ 0) : red k n = (n, (k : Int)) := by
  cases k with
  | zero => rfl
  | succ k => rw [red, if_neg (h.resolve_left (by omega))]
theorem tmod2 {n : Int} : Int.tmod n 2 = 0 ↔ n % 2 = 0 := by
  constructor
  · intro h; exact Int.emod_eq_zero_of_dvd (Int.dvd_of_tmod_eq_zero h)
  · intro h; exact Int.tmod_eq_zero_of_dvd (Int.dvd_of_emod_eq_zero h)
theorem red_dOk {N K : Int} (h : dOk N K = true) {k : Nat} (hk : K ≤ k) : red k (N * 2 ^ (k - K.toNat)) = (N, K) := by
  obtain ⟨h1, h2, h3⟩ := dOk_iff.1 h
  obtain ⟨K, rfl⟩ := Int.eq_ofNat_of_zero_le h1.1
  rw [Int.toNat_natCast]
  have := red_up N (k - K) K
  rw [show K + (k - K) = k by omega] at this
  rw [this, red_form]
  rcases h3 with h3 | h3
  · left; omega
  · right; intro e; exact h3 (tmod2.2 e)
/-- What the form is. -/
theorem red_spec : ∀ (k : Nat) (n : Int), ∃ r : Nat, (red k n).2 = (r : Int) ∧ r ≤ k ∧ n = (red k n).1 * 2 ^ (k - r) ∧ (r = 0 ∨ (red k n).1 % 2 ≠ 0)
  | 0, n => ⟨0, rfl, Nat.le_refl _, by simp [red], .inl rfl⟩
  | k + 1, n => by
    by_cases h : n % 2 = 0
    · obtain ⟨r, h1, h2, h3, h4⟩ := red_spec k (n / 2)
      have e : red (k + 1) n = red k (n / 2) := by rw [red, if_pos h]
      rw [e]
      refine ⟨r, h1, by omega, ?_, h4⟩
      have e2 : n = n / 2 * 2 := by omega
      rw [show k + 1 - r = (k - r) + 1 by omega, Int.pow_succ, ← Int.mul_assoc, ← h3]
      exact e2
    · have e : red (k + 1) n = (n, ((k + 1 : Nat) : Int)) := by rw [red, if_neg h]
      rw [e]
      exact ⟨k + 1, rfl, Nat.le_refl _, by simp, .inr h⟩
theorem red_abs (k : Nat) (n : Int) : (red k n).1.natAbs ≤ n.natAbs := by
  obtain ⟨r, _, _, h3, _⟩ := red_spec k n
  conv => rhs; rw [h3]
  rw [Int.natAbs_mul]
  exact Nat.le_mul_of_pos_right _ (Int.natAbs_pos.2 (Int.ne_of_gt (Int.pow_pos (by decide))))
/-- A number over a power of 2, if it is valid. -/
def dmk (k : Nat) (n : Int) : (Int × Int) × Bool := bif dOk (red k n).1 (red k n).2 then (red k n, true) else ((0, 0), false)
theorem dmk_eq {k k' : Nat} {n n' : Int} (h : red k n = red k' n') : dmk k n = dmk k' n' := by unfold dmk; rw [h]
theorem red_ok {k : Nat} {n : Int} (hk : k ≤ 24) (hn : n.natAbs ≤ 1099511627776) : dOk (red k n).1 (red k n).2 = true := by
  obtain ⟨r, h1, h2, h3, h4⟩ := red_spec k n
  have := red_abs k n
  rw [dOk_iff, h1]
  refine ⟨by omega, by omega, ?_⟩
  rcases h4 with h4 | h4
  · left; omega
  · right; intro e; exact h4 (tmod2.1 e)
theorem dmk_ok {k : Nat} {n : Int} (hk : k ≤ 24) (hn : n.natAbs ≤ 1099511627776) : dmk k n = (red k n, true) := by unfold dmk; rw [red_ok hk hn]; rfl
theorem red_v24 {k : Nat} {n : Int} (hk : k ≤ 24) : v24 (red k n).1 (red k n).2 = n * 2 ^ (24 - k) := by
  obtain ⟨r, h1, h2, h3, h4⟩ := red_spec k n
  unfold v24
  rw [h1, Int.toNat_natCast]
  conv => rhs; rw [h3]
  rw [Int.mul_assoc, ← Int.pow_add, show k - r + (24 - k) = 24 - r by omega]
theorem dmk_scale {k j : Nat} {n : Int} : dmk (k + j) (n * 2 ^ j) = dmk k n := dmk_eq (red_up n j k)
theorem dmk_zero (k : Nat) : dmk k 0 = ((0, 0), true) := by unfold dmk; rw [red_zero]; rfl
/-! fitw -/
theorem sd1 (h : Nat) : Int.fdiv (h : Int) (2 ^ min (Int.toNat (IntKind.wrap .i64 (0 - -1))) (IntKind.bits .u64)) = ((h / 2 : Nat) : Int) := by
  rw [show (2 : Int) ^ min (Int.toNat (IntKind.wrap .i64 (0 - -1))) (IntKind.bits .u64) = ((2 : Nat) : Int) from by decide, fdiv_nat]
theorem sd2 {h l : Nat} (hh : h < 2 ^ 64) (hl : l < 2 ^ 64) : IntKind.wrap .u64 (((BitVec.ofInt (IntKind.bits .u64) (Int.fdiv (l : Int) (2 ^ min (Int.toNat (IntKind.wrap .i64 (0 - -1))) (IntKind.bits .u64))) ||| BitVec.ofInt (IntKind.bits .u64) (IntKind.wrap .u64 ((h : Int) * 2 ^ min (Int.toNat (IntKind.wrap .i64 (64 - IntKind.wrap .i64 (0 - -1)))) (IntKind.bits .u64)))).toNat : Nat) : Int) = ((l / 2 + (h % 2) * 2 ^ 63 : Nat) : Int) := by
  have hor : l / 2 ||| (h % 2) * 2 ^ 63 = l / 2 + (h % 2) * 2 ^ 63 := by
    have := Nat.two_pow_add_eq_or_of_lt (show l / 2 < 2 ^ 63 by omega) (h % 2)
    rw [Nat.or_comm, Nat.mul_comm (h % 2), ← this, Nat.add_comm]
  rw [sd1, show (2 : Int) ^ min (Int.toNat (IntKind.wrap .i64 (64 - IntKind.wrap .i64 (0 - -1)))) (IntKind.bits .u64) = ((2 ^ 63 : Nat) : Int) from by decide]
  rw [show (h : Int) * ((2 ^ 63 : Nat) : Int) = ((h * 2 ^ 63 : Nat) : Int) from (Int.natCast_mul h (2 ^ 63)).symm, wrapu ((h * 2 ^ 63 : Nat) : Int), show (((h * 2 ^ 63 : Nat) : Int) % 18446744073709551616) = (((h % 2) * 2 ^ 63 : Nat) : Int) by omega]
  rw [bits64, bor (by omega) (by omega), hor, wrapu_nat (by omega)]
theorem isZero_v (s : Bool) (h l : Nat) : i_wide_isZero s h l = some (decide (h * 2 ^ 64 + l = 0)) := by
  unfold i_wide_isZero
  by_cases hh : h = 0
  · subst hh; simp
  · rw [cf (by simp; omega)]; congr 1; simp; omega
theorem dmk_form {k : Nat} {n : Int} (h : k = 0 ∨ n % 2 ≠ 0) : dmk k n = bif decide (k ≤ 24 ∧ n.natAbs ≤ 1099511627776) then ((n, (k : Int)), true) else ((0, 0), false) := by
  unfold dmk
  rw [red_form h]
  congr 1
  unfold dOk
  rw [decide_eq_decide]
  constructor
  · rintro ⟨h1, h2, _⟩; omega
  · rintro ⟨h1, h2⟩
    refine ⟨by omega, by omega, ?_⟩
    rcases h with h | h
    · left; omega
    · right; intro e; exact h (tmod2.1 e)
theorem fitFin {s : Bool} {h l k : Nat} (hh : h < 2 ^ 64) (hl : l < 2 ^ 64) (hf : k = 0 ∨ wv s h l % 2 ≠ 0) :
    (bif decide (24 < (k : Int)) then some (((0 : Int), (0 : Int)), false) else bif decide (0 < (h : Int)) then some ((0, 0), false) else bif decide (1099511627776 < (l : Int)) then some ((0, 0), false) else
      bif s then some ((IntKind.wrap .i64 (0 - IntKind.wrap .i64 (l : Int)), (k : Int)), true) else some ((IntKind.wrap .i64 (l : Int), (k : Int)), true)) = some (dmk k (wv s h l)) := by
  have ha : (wv s h l).natAbs = h * 2 ^ 64 + l := by unfold wv; cases s <;> simp <;> omega
  rw [dmk_form hf, ha]
  by_cases h1 : 24 < k
  · rw [ct (decide_eq_true (by omega)), cf (decide_eq_false (by omega))]
  · rw [cf (decide_eq_false (by omega))]
    by_cases h2 : 0 < h
    · rw [ct (by simpa using h2), cf (decide_eq_false (by omega))]
    · rw [cf (by simpa using h2)]
      by_cases h3 : 1099511627776 < l
      · rw [ct (by simp; omega), cf (decide_eq_false (by omega))]
      · rw [cf (by simp; omega), ct (c := decide (k ≤ 24 ∧ h * 2 ^ 64 + l ≤ 1099511627776)) (decide_eq_true (by omega)), wrap64 (n := (l : Int)) (by omega) (by omega), wrap64 (n := 0 - (l : Int)) (by omega) (by omega)]
        obtain rfl : h = 0 := by omega
        unfold wv
        cases s <;> simp
theorem fit_loop {s : Bool} {t0 t1 : Int} : ∀ (k h l : Nat), k ≤ 1000 → h < 2 ^ 64 → l < 2 ^ 64 → i_wide_fit_1003 (k : Int) s (h : Int) (l : Int) t0 t1 = some (dmk k (wv s h l))
  | 0, h, l, _, hh, hl => by
    rw [Ei_wide_fit_1003, cf (by decide)]
    exact fitFin hh hl (.inl rfl)
  | k + 1, h, l, hk, hh, hl => by
    rw [Ei_wide_fit_1003, ct (decide_eq_true (by omega))]
    by_cases he : l % 2 = 0
    · rw [ct (decide_eq_true (tmod2.2 (by omega))), sd1, sd2 hh hl, wrap64 (n := ((k + 1 : Nat) : Int) - 1) (by omega) (by omega), show ((k + 1 : Nat) : Int) - 1 = (k : Int) by omega, fit_loop k _ _ (by omega) (by omega) (by omega)]
      congr 1
      have := @dmk_scale k 1 (wv s (h / 2) (l / 2 + h % 2 * 2 ^ 63))
      rw [← this]
      congr 1
      unfold wv
      cases s <;> simp <;> omega
    · rw [cf (decide_eq_false (by rw [tmod2]; omega))]
      exact fitFin hh hl (.inr (by unfold wv; cases s <;> simp <;> omega))
theorem fit_v {s : Bool} {h l k : Nat} (hk : k ≤ 1000) (hh : h < 2 ^ 64) (hl : l < 2 ^ 64) : i_wide_fit s (h : Int) (l : Int) (k : Int) = some (dmk k (wv s h l)) := by
  unfold i_wide_fit
  rw [bsome (isZero_v ..)]
  by_cases h0 : h * 2 ^ 64 + l = 0
  · rw [ct (by simpa using h0)]
    have : wv s h l = 0 := by unfold wv; rw [h0]; cases s <;> rfl
    rw [this, dmk_zero]
  · rw [cf (by simpa using h0)]
    exact fit_loop k h l hk hh hl
/-! wadd -/
theorem add64_v {x y c : Nat} (hc : c ≤ 1) : bits_Add64 (x : Int) (y : Int) (c : Int) = some ((((x + y + c) % 18446744073709551616 : Nat) : Int), (((x + y + c) / 18446744073709551616 : Nat) : Int)) := by
  unfold bits_Add64
  rw [add64_eq]
  unfold add64R
  rw [Int.toNat_natCast, Int.toNat_natCast, Int.toNat_natCast, ct (decide_eq_true hc)]
theorem sub64_v {x y c : Nat} (hc : c ≤ 1) : bits_Sub64 (x : Int) (y : Int) (c : Int) = some ((((x + 18446744073709551616 - y - c) % 18446744073709551616 : Nat) : Int), ((if x < y + c then 1 else 0 : Nat) : Int)) := by
  unfold bits_Sub64
  rw [sub64_eq]
  unfold sub64R
  rw [Int.toNat_natCast, Int.toNat_natCast, Int.toNat_natCast, ct (decide_eq_true hc)]
theorem wsub_v {s s' : Bool} {h l h' l' : Nat} {t0 : Bool} {t1 t2 : Int} (hh : h < 2 ^ 64) (hl : l < 2 ^ 64) (hh' : h' < 2 ^ 64) (hl' : l' < 2 ^ 64) (hle : h' * 2 ^ 64 + l' ≤ h * 2 ^ 64 + l) :
    ∃ h2 l2 : Nat, i_wide_add_7 s (h : Int) (l : Int) s' (h' : Int) (l' : Int) t0 t1 t2 = some (s, (h2 : Int), (l2 : Int)) ∧ h2 < 2 ^ 64 ∧ l2 < 2 ^ 64 ∧ (h2 * 2 ^ 64 + l2) + (h' * 2 ^ 64 + l') = h * 2 ^ 64 + l := by
  have e1 := sub64_v (x := l) (y := l') (c := 0) (by omega)
  rw [Ei_wide_add_7, show (0 : Int) = ((0 : Nat) : Int) from rfl, bsome e1]
  by_cases hb : l < l' + 0
  · rw [if_pos hb]
    have e2 := sub64_v (x := h) (y := h') (c := 1) (by omega)
    exact ⟨_, _, bsome e2, by omega, by omega, by omega⟩
  · rw [if_neg hb]
    have e2 := sub64_v (x := h) (y := h') (c := 0) (by omega)
    exact ⟨_, _, bsome e2, by omega, by omega, by omega⟩
theorem wadd_v {s s' : Bool} {h l h' l' : Nat} (hh : h < 2 ^ 64) (hl : l < 2 ^ 64) (hh' : h' < 2 ^ 64) (hl' : l' < 2 ^ 64) (hs : (h * 2 ^ 64 + l) + (h' * 2 ^ 64 + l') < 2 ^ 128) :
    ∃ (s2 : Bool) (h2 l2 : Nat), i_wide_add s (h : Int) (l : Int) s' (h' : Int) (l' : Int) = some (s2, (h2 : Int), (l2 : Int)) ∧ h2 < 2 ^ 64 ∧ l2 < 2 ^ 64 ∧ wv s2 h2 l2 = wv s h l + wv s' h' l' := by
  unfold i_wide_add
  by_cases he : s = s'
  · subst he
    have e1 := add64_v (x := l) (y := l') (c := 0) (by omega)
    rw [ct (by simp), show (0 : Int) = ((0 : Nat) : Int) from rfl, bsome e1]
    have e2 := add64_v (x := h) (y := h') (c := (l + l' + 0) / 18446744073709551616) (by omega)
    refine ⟨s, _, _, bsome e2, by omega, by omega, ?_⟩
    unfold wv
    cases s <;> simp <;> omega
  · rw [cf (by simpa using he), bsome (compareSizes_v hl hl')]
    by_cases hc : Int.sign (((h * 2 ^ 64 + l : Nat) : Int) - ((h' * 2 ^ 64 + l' : Nat) : Int)) < 0
    · rw [ct (decide_eq_true hc)]
      have hlt : h * 2 ^ 64 + l < h' * 2 ^ 64 + l' := by
        by_cases hx : h' * 2 ^ 64 + l' ≤ h * 2 ^ 64 + l
        · have : 0 ≤ Int.sign (((h * 2 ^ 64 + l : Nat) : Int) - ((h' * 2 ^ 64 + l' : Nat) : Int)) := by
            rcases Int.lt_trichotomy 0 (((h * 2 ^ 64 + l : Nat) : Int) - ((h' * 2 ^ 64 + l' : Nat) : Int)) with g | g | g
            · rw [Int.sign_eq_one_of_pos g]; decide
            · rw [← g]; decide
            · rw [Int.sign_eq_neg_one_of_neg g] at hc; exact absurd g (by clear hc; omega)
          exact absurd hc (Int.not_lt.2 this)
        · exact Nat.lt_of_not_le hx
      obtain ⟨h2, l2, e1, e2, e3, e4⟩ := wsub_v (s := s') (s' := s) (t0 := false) (t1 := 0) (t2 := 0) hh' hl' hh hl (Nat.le_of_lt hlt)
      refine ⟨s', h2, l2, e1, e2, e3, ?_⟩
      unfold wv
      cases s <;> cases s' <;> simp at he ⊢ <;> omega
    · rw [cf (decide_eq_false hc)]
      have hle : h' * 2 ^ 64 + l' ≤ h * 2 ^ 64 + l := by
        by_cases hx : h * 2 ^ 64 + l < h' * 2 ^ 64 + l'
        · exact absurd (by rw [Int.sign_eq_neg_one_of_neg (by omega)]; decide) hc
        · exact Nat.le_of_not_lt hx
      obtain ⟨h2, l2, e1, e2, e3, e4⟩ := wsub_v (s := s) (s' := s') (t0 := false) (t1 := 0) (t2 := 0) hh hl hh' hl' hle
      refine ⟨s, h2, l2, e1, e2, e3, ?_⟩
      unfold wv
      cases s <;> cases s' <;> simp at he ⊢ <;> omega
end Go.Proofs.YtbaeikcfchiiaaaE
