/- Plain lemmas on what the printed functions come to. -/
import Derived.Test.YtnndolcjljhhcaaFH1
set_option maxRecDepth 100000
set_option linter.unusedVariables false
set_option linter.unusedSimpArgs false
namespace Go.Proofs.YtnndolcjljhhcaaE
/-! core -/
theorem ct {α : Type} {c : Bool} {x y : α} (h : c = true) : (bif c then x else y) = x := by rw [h]; rfl
theorem cf {α : Type} {c : Bool} {x y : α} (h : c = false) : (bif c then x else y) = y := by rw [h]; rfl
theorem cnt {α : Type} {x y : α} : (bif !true then x else y) = y := rfl
theorem cnf {α : Type} {x y : α} : (bif !false then x else y) = x := rfl
theorem bA {i n : Nat} (h : i < n) : boundA (i : Int) n = true := by simp [boundA, h]
theorem bE {i n : Nat} (h : i ≤ n) : boundE (i : Int) n = true := by simp [boundE, h]
theorem bAi {i : Int} {n : Nat} (h0 : 0 ≤ i) (h : i < n) : boundA i n = true := by simp [boundA, h, h0]
theorem bEi {i : Int} {n : Nat} (h0 : 0 ≤ i) (h : i ≤ n) : boundE i n = true := by simp [boundE, h, h0]
theorem gD {α : Type} {xs : List α} {i : Nat} {d : α} (h : i < xs.length) : List.getD xs (Int.toNat (i : Int)) d = xs[i] := by
  rw [Int.toNat_natCast, List.getD_eq_getElem?_getD, List.getElem?_eq_getElem h]; rfl
theorem sc {i n : Nat} (h : i < n) (hn : n ≤ 9223372036854775807) : IntKind.wrap .i64 ((i : Int) + 1) = ((i + 1 : Nat) : Int) := by
  rw [wrap64 (by omega) (by omega)]; omega
theorem pd {i n : Nat} (h : i < n) (h0 : 0 < i) (hn : n ≤ 9223372036854775807) : IntKind.wrap .i64 ((i : Int) - 1) = ((i - 1 : Nat) : Int) := by
  rw [wrap64 (by omega) (by omega)]; omega
theorem ltt {i n : Nat} (h : i < n) : decide ((i : Int) < (n : Int)) = true := by simp [h]
theorem ltf {n : Nat} : decide ((n : Int) < (n : Int)) = false := by simp
theorem bsome {α β : Type} {x : Option α} {a : α} {f : α → Option β} (h : x = some a) : x.bind f = f a := by rw [h]; rfl
theorem bret {α : Type} (x : Option α) : (x.bind fun r => some r) = x := by cases x <;> rfl

/-- A loop that ends with false at the first that is not so. -/
theorem all_loop {f : Nat → Option Bool} {n : Nat} {ok : Nat → Bool} {e : Option Bool} (h0 : (∀ j, j < n → ok j = true) → f n = e)
    (h1 : ∀ i, i < n → (∀ j, j < i → ok j = true) → f i = if ok i then f (i + 1) else some false) : f 0 = if (List.range n).all ok then e else some false := by
  have main : ∀ m i, i + m = n → (∀ j, j < i → ok j = true) → f i = if (List.range n).all ok then e else some false := by
    intro m
    induction m with
    | zero =>
      intro i hi hj
      obtain rfl : i = n := by omega
      rw [h0 hj, if_pos]
      rw [List.all_eq_true]
      exact fun x hx => hj x (List.mem_range.1 hx)
    | succ m ih =>
      intro i hi hj
      rw [h1 i (by omega) hj]
      cases h : ok i with
      | true =>
        rw [if_pos rfl]
        exact ih (i + 1) (by omega) fun j hji => by
          by_cases e : j = i
          · rw [e]; exact h
          · exact hj j (by omega)
      | false =>
        rw [if_neg (by simp), if_neg]
        rw [List.all_eq_true]
        exact fun hx => by have := hx i (List.mem_range.2 (by omega)); rw [h] at this; cases this
  exact main n 0 (by omega) fun j hj => absurd hj (Nat.not_lt_zero j)

/-- A loop over a state, as a plain recursion. -/
def loopM {σ R : Type} (st : Nat → σ → R ⊕ σ) (fin : σ → R) : Nat → Nat → σ → R
  | 0, _, s => fin s
  | m + 1, i, s => match st i s with
    | .inl r => r
    | .inr s' => loopM st fin m (i + 1) s'
theorem loop_eq {σ R : Type} {f : Nat → σ → Option R} {st : Nat → σ → R ⊕ σ} {fin : σ → R} {n : Nat} (Inv : Nat → σ → Prop)
    (h0 : ∀ s, Inv n s → f n s = some (fin s))
    (h1 : ∀ i s, i < n → Inv i s → (∃ r, st i s = .inl r ∧ f i s = some r) ∨ (∃ s', st i s = .inr s' ∧ f i s = f (i + 1) s' ∧ Inv (i + 1) s')) :
    ∀ m i s, i + m = n → Inv i s → f i s = some (loopM st fin m i s) := by
  intro m
  induction m with
  | zero =>
    intro i s hi hs
    obtain rfl : i = n := by omega
    exact h0 s hs
  | succ m ih =>
    intro i s hi hs
    rcases h1 i s (by omega) hs with ⟨r, e1, e2⟩ | ⟨s', e1, e2, e3⟩
    · rw [e2]; simp only [loopM, e1]
    · rw [e2, ih (i + 1) s' (by omega) e3]; simp only [loopM, e1]
/-- Two loops side by side. -/
theorem loop2 {σ τ R : Type} {f : Nat → σ → Option R} {g : Nat → τ → Option R} {n : Nat} (Q : Nat → σ → τ → Prop)
    (h0 : ∀ s t, Q n s t → ∃ r, f n s = some r ∧ g n t = some r)
    (h1 : ∀ i s t, i < n → Q i s t → (∃ r, f i s = some r ∧ g i t = some r) ∨ (∃ s' t', f i s = f (i + 1) s' ∧ g i t = g (i + 1) t' ∧ Q (i + 1) s' t')) :
    ∀ m i s t, i + m = n → Q i s t → ∃ r, f i s = some r ∧ g i t = some r := by
  intro m
  induction m with
  | zero =>
    intro i s t hi hs
    obtain rfl : i = n := by omega
    exact h0 s t hs
  | succ m ih =>
    intro i s t hi hs
    rcases h1 i s t (by omega) hs with ⟨r, e1, e2⟩ | ⟨s', t', e1, e2, e3⟩
    · exact ⟨r, e1, e2⟩
    · rw [e1, e2]; exact ih (i + 1) s' t' (by omega) e3
/-! cmpint -/
theorem sign_ne {n : Int} : Int.sign n = 0 ↔ n = 0 := Int.sign_eq_zero_iff_zero
/-! wide -/
/-! 64-bit numbers without a sign -/
theorem wrapu (n : Int) : IntKind.wrap .u64 n = n % 18446744073709551616 := by
  unfold IntKind.wrap
  rw [show IntKind.signed .u64 = false from rfl, show IntKind.bits .u64 = 64 from rfl]
  simp
theorem wrapu_nat {n : Nat} (h : n < 18446744073709551616) : IntKind.wrap .u64 (n : Int) = (n : Int) := by rw [wrapu]; omega
theorem bor {a b : Nat} (ha : a < 2 ^ 64) (hb : b < 2 ^ 64) : (BitVec.ofInt 64 (a : Int) ||| BitVec.ofInt 64 (b : Int)).toNat = a ||| b := by
  rw [BitVec.toNat_or, BitVec.ofInt_natCast, BitVec.ofInt_natCast, BitVec.toNat_ofNat, BitVec.toNat_ofNat, Nat.mod_eq_of_lt ha, Nat.mod_eq_of_lt hb]
theorem bits64 : IntKind.bits .u64 = 64 := rfl
theorem fdiv_nat (a b : Nat) : Int.fdiv (a : Int) (b : Int) = ((a / b : Nat) : Int) := by
  rw [Int.fdiv_eq_ediv_of_nonneg _ (by omega)]; rfl
theorem pow_nat (k : Nat) : (2 : Int) ^ k = ((2 ^ k : Nat) : Int) := by simp
theorem size_v {n : Int} (h1 : -4611686018427387904 ≤ n) (h2 : n ≤ 4611686018427387904) : i_size n = some (n.natAbs : Int) := by
  unfold i_size
  by_cases h : n < 0
  · rw [ct (by simpa using h), wrap64 (n := 0 - n) (by omega) (by omega), wrapu]
    congr 1; omega
  · rw [cf (by simpa using h), wrapu]
    congr 1; omega
theorem wideOf_v {n : Int} (h1 : -4611686018427387904 ≤ n) (h2 : n ≤ 4611686018427387904) : i_wideOf n = some (decide (n < 0), 0, (n.natAbs : Int)) := by
  unfold i_wideOf; rw [bsome (size_v h1 h2)]
/-- A number of 128 bits, up. -/
theorem shiftUp_v {s : Bool} {h l k : Nat} (hl : l < 2 ^ 64) (hk : k < 64) (hm : (h * 2 ^ 64 + l) * 2 ^ k < 2 ^ 128) :
    ∃ h' l' : Nat, i_wide_shift s (h : Int) (l : Int) (k : Int) = some (s, (h' : Int), (l' : Int)) ∧ h' < 2 ^ 64 ∧ l' < 2 ^ 64 ∧ h' * 2 ^ 64 + l' = (h * 2 ^ 64 + l) * 2 ^ k := by
  have hp : 0 < 2 ^ k := Nat.two_pow_pos k
  have hhk : h * 2 ^ k < 2 ^ 64 := by
    have h1 : h * 2 ^ 64 * 2 ^ k ≤ (h * 2 ^ 64 + l) * 2 ^ k := Nat.mul_le_mul_right _ (Nat.le_add_right _ _)
    have h2 : h * 2 ^ 64 * 2 ^ k = h * 2 ^ k * 2 ^ 64 := Nat.mul_right_comm _ _ _
    rw [h2] at h1
    have h3 : h * 2 ^ k * 2 ^ 64 < 2 ^ 64 * 2 ^ 64 := Nat.lt_of_le_of_lt h1 (by rw [show (2 : Nat) ^ 64 * 2 ^ 64 = 2 ^ 128 from by decide]; exact hm)
    exact Nat.lt_of_mul_lt_mul_right h3
  have hsplit : 2 ^ (64 - k) * 2 ^ k = 2 ^ 64 := by rw [← Nat.pow_add]; congr 1; omega
  have hlow : l / 2 ^ (64 - k) < 2 ^ k := by
    rw [Nat.div_lt_iff_lt_mul (Nat.two_pow_pos _), Nat.mul_comm, hsplit]; exact hl
  have hq : l * 2 ^ k / 2 ^ 64 = l / 2 ^ (64 - k) := by rw [← hsplit, Nat.mul_div_mul_right _ _ hp]
  have hor : h * 2 ^ k ||| l / 2 ^ (64 - k) = h * 2 ^ k + l / 2 ^ (64 - k) := by
    have := Nat.two_pow_add_eq_or_of_lt hlow h
    rw [Nat.mul_comm h, this]
  have h64 : l / 2 ^ (64 - k) < 2 ^ 64 := Nat.lt_of_lt_of_le hlow (Nat.pow_le_pow_right (by decide) (by omega))
  have hsum : h * 2 ^ k + l / 2 ^ (64 - k) < 2 ^ 64 := by
    have e : (h * 2 ^ 64 + l) * 2 ^ k = h * 2 ^ k * 2 ^ 64 + l * 2 ^ k := by rw [Nat.add_mul, Nat.mul_right_comm]
    rw [e] at hm
    have : (h * 2 ^ k * 2 ^ 64 + l * 2 ^ k) / 2 ^ 64 < 2 ^ 64 := by rw [Nat.div_lt_iff_lt_mul (by decide)]; exact Nat.lt_of_lt_of_eq hm (by decide)
    rwa [Nat.add_comm, Nat.add_mul_div_right _ _ (by decide), hq, Nat.add_comm] at this
  refine ⟨h * 2 ^ k + l / 2 ^ (64 - k), l * 2 ^ k % 2 ^ 64, ?_, hsum, Nat.mod_lt _ (by decide), ?_⟩
  · unfold i_wide_shift
    rw [ct (by simp), cf (by simp; omega), ct (by simp), wrap64 (n := 64 - (k : Int)) (by omega) (by omega), ct (by simp; omega), ct (by simp)]
    rw [Int.toNat_natCast, show Int.toNat (64 - (k : Int)) = 64 - k by omega, bits64, Nat.min_eq_left (by omega), Nat.min_eq_left (by omega), pow_nat, pow_nat]
    rw [show (h : Int) * ((2 ^ k : Nat) : Int) = ((h * 2 ^ k : Nat) : Int) by simp, show (l : Int) * ((2 ^ k : Nat) : Int) = ((l * 2 ^ k : Nat) : Int) by simp, fdiv_nat, wrapu_nat hhk, bor hhk h64, hor, wrapu_nat hsum, wrapu]
    rfl
  · rw [← hq, Nat.add_mul, Nat.add_mul, Nat.mul_right_comm, Nat.add_assoc]
    congr 1
    rw [Nat.mul_comm (l * 2 ^ k / 2 ^ 64)]
    exact Nat.div_add_mod _ _
/-- The value of a number of 128 bits. -/
def wv (s : Bool) (h l : Nat) : Int := if s then -((h * 2 ^ 64 + l : Nat) : Int) else ((h * 2 ^ 64 + l : Nat) : Int)
theorem cmpU_v (x y : Int) : cmp_Compare_uint64 x y = some (Int.sign (x - y)) := by
  unfold cmp_Compare_uint64
  simp only [decide_true, Bool.not_true, cond_false, Bool.cond_decide]
  split
  · rw [Int.sign_eq_neg_one_of_neg (by omega)]
  · split
    · rw [Int.sign_eq_one_of_pos (by omega)]
    · rw [show x - y = 0 by omega]; rfl
theorem cmpOr2_v (x y : Int) : cmp_Or_int [x, y] = some (if x ≠ 0 then x else y) := by
  have e0 : cmp_Or_int_1003 0 [x, y] 2 2 = some 0 := by rw [Ecmp_Or_int_1003]; rfl
  have e1 : cmp_Or_int_1003 0 [x, y] 2 1 = some y := by
    rw [Ecmp_Or_int_1003, show IntKind.wrap .i64 (1 + 1) = 2 from rfl, e0]
    by_cases h : y = 0 <;> simp [boundA, h]
  unfold cmp_Or_int
  show cmp_Or_int_1003 0 [x, y] 2 0 = _
  rw [Ecmp_Or_int_1003, show IntKind.wrap .i64 (0 + 1) = 1 from rfl, e1]
  by_cases h : x = 0 <;> simp [boundA, h]
theorem compareSizes_v {s s' : Bool} {h l h' l' : Nat} (hl : l < 2 ^ 64) (hl' : l' < 2 ^ 64) : i_compareSizes s h l s' h' l' = some (Int.sign (((h * 2 ^ 64 + l : Nat) : Int) - ((h' * 2 ^ 64 + l' : Nat) : Int))) := by
  unfold i_compareSizes
  rw [bsome (cmpU_v ..), bsome (cmpU_v ..), bret, cmpOr2_v]
  congr 1
  rcases Int.lt_trichotomy (h : Int) (h' : Int) with hh | hh | hh
  · rw [if_pos (by rw [Int.sign_eq_neg_one_of_neg (by omega)]; decide), Int.sign_eq_neg_one_of_neg (by omega), Int.sign_eq_neg_one_of_neg (by omega)]
  · rw [if_neg (by rw [hh]; simp)]
    congr 1; omega
  · rw [if_pos (by rw [Int.sign_eq_one_of_pos (by omega)]; decide), Int.sign_eq_one_of_pos (by omega), Int.sign_eq_one_of_pos (by omega)]
theorem compareWide_v {s s' : Bool} {h l h' l' : Nat} (hl : l < 2 ^ 64) (hl' : l' < 2 ^ 64) : i_compareWide s h l s' h' l' = some (Int.sign (wv s h l - wv s' h' l')) := by
  have z : ∀ (s : Bool) (h l : Nat), i_wide_isZero s h l = some (decide (h * 2 ^ 64 + l = 0)) := by
    intro s h l
    unfold i_wide_isZero
    by_cases hh : h = 0
    · subst hh; simp
    · rw [cf (by simp; omega)]; congr 1; simp; omega
  unfold i_compareWide
  rw [bsome (z ..)]
  generalize hm : h * 2 ^ 64 + l = m
  generalize hm' : h' * 2 ^ 64 + l' = m'
  have c1 : i_compareSizes s h l s' h' l' = some (Int.sign ((m : Int) - m')) := by rw [compareSizes_v hl hl', hm, hm']
  have c2 : i_compareSizes s' h' l' s h l = some (Int.sign ((m' : Int) - m)) := by rw [compareSizes_v hl' hl, hm, hm']
  unfold wv
  rw [hm, hm']
  have body : (m ≠ 0 ∨ m' ≠ 0) → (bif !s == s' then bif s then some (-1) else some 1 else bif s then (i_compareSizes s' h' l' s h l).bind fun r => some r else (i_compareSizes s h l s' h' l').bind fun r => some r) = some (Int.sign ((if s then -(m : Int) else m) - (if s' then -(m' : Int) else m'))) := by
    intro hne
    rw [bret, bret, c1, c2]
    cases s <;> cases s' <;> simp
    · rw [Int.sign_eq_one_of_pos (by omega)]
    · rw [Int.sign_eq_neg_one_of_neg (by omega)]
    · congr 1; omega
  by_cases h0 : m = 0
  · rw [ct (by simpa using h0), bsome (z ..), hm']
    by_cases h0' : m' = 0
    · rw [ct (by simpa using h0'), h0, h0']; cases s <;> cases s' <;> rfl
    · rw [cf (by simpa using h0')]; exact body (.inr h0')
  · rw [cf (by simpa using h0)]; exact body (.inl h0)
/-! range -/
theorem l1In_v (n lo hi : Int) : s_l1In n lo hi = some (decide (lo ≤ n ∧ n ≤ hi)) := by
  unfold s_l1In
  by_cases h : lo ≤ n <;> simp [h]
theorem inside_v (n lo hi : Int) : i_inside n lo hi = some (decide (lo ≤ n ∧ n ≤ hi)) := by
  unfold i_inside
  by_cases h : lo ≤ n <;> simp [h]
/-! dyok -/
/-- Whether a dyadic number is valid. -/
def dOk (N K : Int) : Bool := decide ((0 ≤ K ∧ K ≤ 24) ∧ (-1099511627776 ≤ N ∧ N ≤ 1099511627776) ∧ (K = 0 ∨ Int.tmod N 2 ≠ 0))
theorem dOk_iff {N K : Int} : dOk N K = true ↔ ((0 ≤ K ∧ K ≤ 24) ∧ (-1099511627776 ≤ N ∧ N ≤ 1099511627776) ∧ (K = 0 ∨ Int.tmod N 2 ≠ 0)) := by simp [dOk]
theorem dyGood_v (N K : Int) : s_dyGood N K = some (dOk N K) := by
  unfold s_dyGood dOk
  rw [bsome (l1In_v ..)]
  by_cases h1 : 0 ≤ K ∧ K ≤ 24
  · rw [ct (by simpa using h1), bsome (l1In_v ..)]
    by_cases h2 : -1099511627776 ≤ N ∧ N ≤ 1099511627776
    · rw [ct (by simpa using h2)]
      by_cases h3 : K = 0
      · rw [ct (by simpa using h3)]; simp [h2, h3]
      · rw [cf (by simpa using h3)]; simp [h1, h2, h3]
    · rw [cf (by simp; omega)]; simp [h2]
  · rw [cf (by simp; omega)]; simp [h1]
/-- A number over 2^24. -/
def v24 (N K : Int) : Int := N * 2 ^ (24 - K.toNat)
theorem sgn_scale {a : Int} {k : Nat} : Int.sign (a * 2 ^ k) = Int.sign a := by
  have hp : (0 : Int) < 2 ^ k := Int.pow_pos (by decide)
  rw [Int.sign_mul, Int.sign_eq_one_of_pos hp, Int.mul_one]
/-! power -/
theorem dyPower_v {k : Int} (h0 : 0 ≤ k) (h1 : k ≤ 62) : s_dyPower k = some (2 ^ k.toNat) := by
  obtain ⟨n, rfl⟩ := Int.eq_ofNat_of_zero_le h0
  have hn : n ≤ 62 := by omega
  have hw : IntKind.wrap .u64 (n : Int) = n := by
    unfold IntKind.wrap
    rw [show IntKind.signed .u64 = false from rfl, show IntKind.bits .u64 = 64 from rfl]
    simp; omega
  unfold s_dyPower
  have hp : (2 : Int) ^ n ≤ 2 ^ 62 := by exact_mod_cast Nat.pow_le_pow_right (by decide) hn
  have h0 : (0 : Int) < 2 ^ n := Int.pow_pos (by decide)
  rw [hw, ct (by simp), Int.toNat_natCast, show IntKind.bits .i64 = 64 from rfl, Nat.min_eq_left (by omega), Int.one_mul, wrap64 (by omega) (by omega)]
/-! sign -/
theorem l1Sign_v (n : Int) : s_l1Sign n = some (Int.sign n) := by
  unfold s_l1Sign
  simp only [Bool.cond_decide]
  split
  · rw [Int.sign_eq_one_of_pos (by assumption)]
  · split
    · rw [Int.sign_eq_neg_one_of_neg (by assumption)]
    · rw [show n = 0 by omega]; rfl
theorem sign_ge {n : Int} : 0 ≤ Int.sign n ↔ 0 ≤ n := by
  rcases Int.lt_trichotomy n 0 with h | h | h
  · rw [Int.sign_eq_neg_one_of_neg h]; omega
  · subst h; simp
  · rw [Int.sign_eq_one_of_pos h]; omega
/-! dycmp -/
theorem dyDown_v {a b : Int} (hb : 0 < b) (h1 : -4611686018427387904 ≤ a) (h2 : a ≤ 4611686018427387904) : s_dyDown a b = some (a / b) := by
  unfold s_dyDown
  rw [ct (by simp; omega), ct (by simp; omega)]
  have e := Int.mul_tdiv_add_tmod a b
  have q1 : Int.natAbs (Int.tdiv a b) ≤ a.natAbs := Int.natAbs_tdiv_le_natAbs a b
  rw [wrap64 (n := Int.tdiv a b) (by omega) (by omega)]
  by_cases hn : Int.tmod a b < 0
  · rw [ct (by simpa using hn), wrap64 (by omega) (by omega)]
    have hm : -b < Int.tmod a b := by
      have := Int.natAbs_tmod a b
      have h3 : a.natAbs % b.natAbs < b.natAbs := Nat.mod_lt _ (by omega)
      omega
    have := ((Int.ediv_emod_unique (a := a) (b := b) (r := Int.tmod a b + b) (q := Int.tdiv a b - 1) hb).2 ⟨by rw [Int.mul_sub]; omega, by omega, by omega⟩).1
    rw [this]
  · rw [cf (by simpa using hn)]
    have hm : Int.tmod a b < b := by
      have := Int.natAbs_tmod a b
      have h3 : a.natAbs % b.natAbs < b.natAbs := Nat.mod_lt _ (by omega)
      omega
    have := ((Int.ediv_emod_unique (a := a) (b := b) (r := Int.tmod a b) (q := Int.tdiv a b) hb).2 ⟨by omega, by omega, by omega⟩).1
    rw [this]
theorem p2i (k : Nat) : (0 : Int) < 2 ^ k := Int.pow_pos (by decide)
theorem p2m {k n : Nat} (h : k ≤ n) : (2 : Int) ^ k ≤ 2 ^ n := by exact_mod_cast Nat.pow_le_pow_right (by decide) h
theorem p2a {k n : Nat} : (2 : Int) ^ (k + n) = 2 ^ k * 2 ^ n := Int.pow_add ..
theorem dyFloor_v {N K : Int} (h : dOk N K = true) : s_dyFloor N K = some (N / 2 ^ K.toNat) := by
  obtain ⟨h1, h2, _⟩ := dOk_iff.1 h
  unfold s_dyFloor
  rw [bsome (dyPower_v h1.1 (by omega)), bret, dyDown_v (p2i _) (by omega) (by omega)]
theorem dyAt_loop {k : Nat} (hk : k ≤ 1000) (c : Int) : ∀ (m i : Nat) (N : Int), i + m = k → N.natAbs * 2 ^ m ≤ 1152921504606846976 → s_dyAt_1004 (k : Int) N c (i : Int) = some (N * 2 ^ m, true)
  | 0, i, N, hi, _ => by
    rw [Es_dyAt_1004, show i = k by omega, cf ltf]; simp
  | m + 1, i, N, hi, hN => by
    have c60 : IntKind.wrap .i64 (1 * 2 ^ min (Int.toNat (IntKind.wrap .u64 60)) (IntKind.bits .i64)) = 1152921504606846976 := by decide
    have c61 : IntKind.wrap .i64 (0 - 1152921504606846976) = -1152921504606846976 := by decide
    have hp : 0 < 2 ^ m := Nat.two_pow_pos m
    have h1 : N.natAbs * 1 ≤ N.natAbs * 2 ^ (m + 1) := Nat.mul_le_mul_left _ (Nat.two_pow_pos _)
    have hlt : i < k := by omega
    rw [Es_dyAt_1004, ct (ltt hlt), c60, c61, bsome (l1In_v ..), cf (by simp; omega), wrap64 (n := N * 2) (by omega) (by omega), sc hlt (by omega),
      dyAt_loop hk c m (i + 1) (N * 2) (by omega) (by rw [Int.natAbs_mul, Nat.mul_assoc, show Int.natAbs 2 * 2 ^ m = 2 ^ (m + 1) by rw [Nat.pow_succ, Nat.mul_comm]; rfl]; exact hN), Int.mul_assoc, Int.pow_succ, Int.mul_comm 2]
theorem dyAt_v {N K : Int} {k : Nat} (hK : 0 ≤ K) (hk : K ≤ k) (hk2 : k ≤ 1000) (hN : N.natAbs * 2 ^ (k - K.toNat) ≤ 1152921504606846976) : s_dyAt N K (k : Int) = some (N * 2 ^ (k - K.toNat), true) := by
  unfold s_dyAt
  by_cases h : N = 0
  · rw [ct (by simpa using h), h]; simp
  · rw [cf (by simpa using h)]
    obtain ⟨n, rfl⟩ := Int.eq_ofNat_of_zero_le hK
    have hn : n ≤ k := by omega
    exact dyAt_loop hk2 _ (k - n) n N (by omega) hN
theorem v24_floor {N K : Int} (h : dOk N K = true) : (N / 2 ^ K.toNat) * 16777216 ≤ v24 N K ∧ v24 N K < (N / 2 ^ K.toNat) * 16777216 + 16777216 ∧ (N - N / 2 ^ K.toNat * 2 ^ K.toNat) * 2 ^ (24 - K.toNat) = v24 N K - N / 2 ^ K.toNat * 16777216 ∧ 0 ≤ N - N / 2 ^ K.toNat * 2 ^ K.toNat ∧ N - N / 2 ^ K.toNat * 2 ^ K.toNat < 2 ^ K.toNat := by
  obtain ⟨h1, h2, _⟩ := dOk_iff.1 h
  have e24 : (16777216 : Int) = 2 ^ K.toNat * 2 ^ (24 - K.toNat) := by rw [← p2a, show K.toNat + (24 - K.toNat) = 24 by omega]; rfl
  have h3 := Int.emod_nonneg N (Int.ne_of_gt (p2i K.toNat))
  have h4 := Int.emod_lt_of_pos N (p2i K.toNat)
  have h5 := Int.mul_ediv_add_emod N (2 ^ K.toNat)
  have h6 : N - N / 2 ^ K.toNat * 2 ^ K.toNat = N % 2 ^ K.toNat := by rw [Int.mul_comm]; omega
  have e : (N - N / 2 ^ K.toNat * 2 ^ K.toNat) * 2 ^ (24 - K.toNat) = v24 N K - N / 2 ^ K.toNat * 16777216 := by
    rw [Int.sub_mul, e24, Int.mul_assoc]; rfl
  have h7 : 0 ≤ (N - N / 2 ^ K.toNat * 2 ^ K.toNat) * 2 ^ (24 - K.toNat) := Int.mul_nonneg (by omega) (Int.le_of_lt (p2i _))
  have h8 : (N - N / 2 ^ K.toNat * 2 ^ K.toNat) * 2 ^ (24 - K.toNat) < 16777216 := by
    rw [e24]; exact Int.mul_lt_mul_of_pos_right (by omega) (p2i _)
  exact ⟨by omega, by omega, e, by omega, by omega⟩
theorem dyCmp_v {N K M L : Int} (ha : dOk N K = true) (hb : dOk M L = true) : s_dyCmp N K M L = some (Int.sign (v24 N K - v24 M L)) := by
  obtain ⟨a1, a2, _⟩ := dOk_iff.1 ha
  obtain ⟨b1, b2, _⟩ := dOk_iff.1 hb
  obtain ⟨a3, a4, a5, a6, a7⟩ := v24_floor ha
  obtain ⟨b3, b4, b5, b6, b7⟩ := v24_floor hb
  have pa := p2m (show K.toNat ≤ 24 by omega)
  have pb := p2m (show L.toNat ≤ 24 by omega)
  have qa : (N / 2 ^ K.toNat).natAbs ≤ N.natAbs := Int.natAbs_ediv_le_natAbs _ _
  have qb : (M / 2 ^ L.toNat).natAbs ≤ M.natAbs := Int.natAbs_ediv_le_natAbs _ _
  unfold s_dyCmp
  rw [bsome (dyFloor_v ha), bsome (dyFloor_v hb)]
  by_cases h : N / 2 ^ K.toNat = M / 2 ^ L.toNat
  · rw [cf (by simpa using h), bsome (dyPower_v a1.1 (by omega)), wrap64 (n := N / 2 ^ K.toNat * 2 ^ K.toNat) (by omega) (by omega), wrap64 (n := N - _) (by omega) (by omega)]
    have bound : ∀ {x : Int} {k : Nat}, k ≤ 24 → 0 ≤ x → x < 2 ^ k → x.natAbs * 2 ^ (24 - k) ≤ 1152921504606846976 := by
      intro x k hk h0 h1
      have : (x.natAbs * 2 ^ (24 - k) : Nat) < 2 ^ k * 2 ^ (24 - k) := Nat.mul_lt_mul_of_pos_right (by
        have : (x.natAbs : Int) < ((2 ^ k : Nat) : Int) := by simpa using (by omega : (x.natAbs : Int) < 2 ^ k)
        omega) (Nat.two_pow_pos _)
      rw [← Nat.pow_add, show k + (24 - k) = 24 by omega] at this
      omega
    rw [show (24 : Int) = ((24 : Nat) : Int) from rfl, bsome (dyAt_v (k := 24) a1.1 (by omega) (by omega) (bound (by omega) a6 a7)), bsome (dyPower_v b1.1 (by omega)), wrap64 (n := M / 2 ^ L.toNat * 2 ^ L.toNat) (by omega) (by omega), wrap64 (n := M - _) (by omega) (by omega),
      bsome (dyAt_v (k := 24) b1.1 (by omega) (by omega) (bound (by omega) b6 b7)), bret]
    simp only
    rw [a5, b5, wrap64 (by omega) (by omega), l1Sign_v]
    congr 2
    omega
  · rw [ct (by simpa using h), wrap64 (by omega) (by omega), bret, l1Sign_v]
    congr 1
    rcases Int.lt_trichotomy (N / 2 ^ K.toNat) (M / 2 ^ L.toNat) with hh | hh | hh
    · rw [Int.sign_eq_neg_one_of_neg (by omega), Int.sign_eq_neg_one_of_neg (by omega)]
    · exact absurd hh h
    · rw [Int.sign_eq_one_of_pos (by omega), Int.sign_eq_one_of_pos (by omega)]
/-! dyok2 -/
theorem isDyadic_v (N K : Int) : i_isDyadic N K = some (dOk N K) := by
  unfold i_isDyadic i_isPlaces dOk
  rw [inside_v, bret, Option.bind_some]
  by_cases h1 : 0 ≤ K ∧ K ≤ 24
  · rw [ct (by simpa using h1), bsome (inside_v ..)]
    by_cases h2 : -1099511627776 ≤ N ∧ N ≤ 1099511627776
    · rw [ct (by simpa using h2)]
      by_cases h3 : K = 0
      · rw [ct (by simpa using h3)]; simp [h2, h3]
      · rw [cf (by simpa using h3)]; simp [h1, h2, h3]
    · rw [cf (by simp; omega)]; simp [h2]
  · rw [cf (by simp; omega)]; simp [h1]
/-! cmpd -/
theorem wv_of {N : Int} {h l k : Nat} (e : h * 2 ^ 64 + l = (0 * 2 ^ 64 + N.natAbs) * 2 ^ k) : wv (decide (N < 0)) h l = N * 2 ^ k := by
  unfold wv
  rw [e, Nat.zero_mul, Nat.zero_add]
  by_cases hn : N < 0
  · rw [if_pos (by simpa using hn)]
    have : N = -((N.natAbs : Nat) : Int) := by omega
    conv => rhs; rw [this]
    simp [Int.neg_mul]
  · rw [if_neg (by simpa using hn)]
    have : N = ((N.natAbs : Nat) : Int) := by omega
    conv => rhs; rw [this]
    simp
theorem wshift_v {N : Int} {k : Nat} (hN : N.natAbs ≤ 1099511627776) (hk : k ≤ 24) : ∃ h l : Nat, i_wide_shift (decide (N < 0)) 0 (N.natAbs : Int) (k : Int) = some (decide (N < 0), (h : Int), (l : Int)) ∧ h < 2 ^ 64 ∧ l < 2 ^ 64 ∧ wv (decide (N < 0)) h l = N * 2 ^ k := by
  have hp : 2 ^ k ≤ 2 ^ 24 := Nat.pow_le_pow_right (by decide) hk
  obtain ⟨h, l, e1, e2, e3, e4⟩ := shiftUp_v (s := decide (N < 0)) (h := 0) (l := N.natAbs) (k := k) (Nat.lt_of_le_of_lt hN (by decide)) (by omega) (by
    have : (0 * 2 ^ 64 + N.natAbs) * 2 ^ k ≤ 1099511627776 * 2 ^ 24 := Nat.mul_le_mul (by omega) hp
    exact Nat.lt_of_le_of_lt this (by decide))
  exact ⟨h, l, e1, e2, e3, wv_of e4⟩
theorem compareD_v {N K M L : Int} (ha : dOk N K = true) (hb : dOk M L = true) : i_compareD N K M L = some (Int.sign (v24 N K - v24 M L)) := by
  obtain ⟨a1, a2, _⟩ := dOk_iff.1 ha
  obtain ⟨b1, b2, _⟩ := dOk_iff.1 hb
  unfold i_compareD
  rw [bsome (wideOf_v (by omega) (by omega))]
  obtain ⟨k, hk⟩ : ∃ k : Nat, (bif decide (K < L) then L else K) = (k : Int) ∧ K ≤ k ∧ L ≤ k ∧ k ≤ 24 := by
    by_cases h : K < L
    · exact ⟨L.toNat, by simp [h]; omega⟩
    · exact ⟨K.toNat, by simp [h]; omega⟩
  obtain ⟨hk, k1, k2, k3⟩ := hk
  rw [hk, wrap64 (by omega) (by omega), wrap64 (by omega) (by omega), show (k : Int) - K = ((k - K.toNat : Nat) : Int) by omega, show (k : Int) - L = ((k - L.toNat : Nat) : Int) by omega]
  obtain ⟨h, l, e1, e2, e3, e4⟩ := wshift_v (N := N) (k := k - K.toNat) (by omega) (by omega)
  obtain ⟨h', l', f1, f2, f3, f4⟩ := wshift_v (N := M) (k := k - L.toNat) (by omega) (by omega)
  rw [bsome e1, bsome (wideOf_v (by omega) (by omega)), bsome f1, bret, compareWide_v e3 f3, e4, f4]
  congr 1
  have s := @sgn_scale (N * 2 ^ (k - K.toNat) - M * 2 ^ (k - L.toNat)) (24 - k)
  rw [← s, Int.sub_mul, Int.mul_assoc, Int.mul_assoc, ← Int.pow_add, ← Int.pow_add, show k - K.toNat + (24 - k) = 24 - K.toNat by omega, show k - L.toNat + (24 - k) = 24 - L.toNat by omega]
  rfl
end Go.Proofs.YtnndolcjljhhcaaE
