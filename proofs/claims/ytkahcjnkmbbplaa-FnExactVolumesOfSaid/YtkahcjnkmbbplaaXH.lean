/- Plain lemmas on what the printed functions come to. -/
import Derived.Test.YtkahcjnkmbbplaaXG
set_option maxRecDepth 100000
set_option linter.unusedVariables false
set_option linter.unusedSimpArgs false
namespace Go.Proofs.YtkahcjnkmbbplaaE
/-! fitw -/
theorem sd1 (h : Nat) : Int.fdiv (h : Int) (2 ^ min (Int.toNat (IntKind.wrap .i64 (0 - -1))) (IntKind.bits .u64)) = ((h / 2 : Nat) : Int) := by
  rw [show (2 : Int) ^ min (Int.toNat (IntKind.wrap .i64 (0 - -1))) (IntKind.bits .u64) = ((2 : Nat) : Int) from by decide, fdiv_nat]
theorem sd2 {h l : Nat} (hh : h < 2 ^ 64) (hl : l < 2 ^ 64) : IntKind.wrap .u64 (((BitVec.ofInt (IntKind.bits .u64) (Int.fdiv (l : Int) (2 ^ min (Int.toNat (IntKind.wrap .i64 (0 - -1))) (IntKind.bits .u64))) ||| BitVec.ofInt (IntKind.bits .u64) (IntKind.wrap .u64 ((h : Int) * 2 ^ min (Int.toNat (IntKind.wrap .i64 (64 - IntKind.wrap .i64 (0 - -1)))) (IntKind.bits .u64)))).toNat : Nat) : Int) = ((l / 2 + (h % 2) * 2 ^ 63 : Nat) : Int) := by
  have hor : l / 2 ||| (h % 2) * 2 ^ 63 = l / 2 + (h % 2) * 2 ^ 63 := by
    have := Nat.two_pow_add_eq_or_of_lt (show l / 2 < 2 ^ 63 by omega) (h % 2)
    rw [Nat.or_comm, Nat.mul_comm (h % 2), ← this, Nat.add_comm]
  rw [sd1, show (2 : Int) ^ min (Int.toNat (IntKind.wrap .i64 (64 - IntKind.wrap .i64 (0 - -1)))) (IntKind.bits .u64) = ((2 ^ 63 : Nat) : Int) from by decide]
  rw [show (h : Int) * ((2 ^ 63 : Nat) : Int) = ((h * 2 ^ 63 : Nat) : Int) from (Int.natCast_mul h (2 ^ 63)).symm, wrapu ((h * 2 ^ 63 : Nat) : Int), show (((h * 2 ^ 63 : Nat) : Int) % 18446744073709551616) = (((h % 2) * 2 ^ 63 : Nat) : Int) by omega]
  rw [bits64, bor (by omega) (by omega), hor, wrapu_nat (by omega)]
theorem isZero_v (s : Bool) (h l : Nat) : i_wide_isZero s h l = some (decide (h * 2 ^ 64 + l = 0)) := by
  unfold i_wide_isZero
  by_cases hh : h = 0
  · subst hh; simp
  · rw [cf (by simp; omega)]; congr 1; simp; omega
theorem dmk_form {k : Nat} {n : Int} (h : k = 0 ∨ n % 2 ≠ 0) : dmk k n = bif decide (k ≤ 24 ∧ n.natAbs ≤ 1099511627776) then ((n, (k : Int)), true) else ((0, 0), false) := by
  unfold dmk
  rw [red_form h]
  congr 1
  unfold dOk
  rw [decide_eq_decide]
  constructor
  · rintro ⟨h1, h2, _⟩; omega
  · rintro ⟨h1, h2⟩
    refine ⟨by omega, by omega, ?_⟩
    rcases h with h | h
    · left; omega
    · right; intro e; exact h (tmod2.1 e)
theorem fitFin {s : Bool} {h l k : Nat} (hh : h < 2 ^ 64) (hl : l < 2 ^ 64) (hf : k = 0 ∨ wv s h l % 2 ≠ 0) :
    (bif decide (24 < (k : Int)) then some (((0 : Int), (0 : Int)), false) else bif decide (0 < (h : Int)) then some ((0, 0), false) else bif decide (1099511627776 < (l : Int)) then some ((0, 0), false) else
      bif s then some ((IntKind.wrap .i64 (0 - IntKind.wrap .i64 (l : Int)), (k : Int)), true) else some ((IntKind.wrap .i64 (l : Int), (k : Int)), true)) = some (dmk k (wv s h l)) := by
  have ha : (wv s h l).natAbs = h * 2 ^ 64 + l := by unfold wv; cases s <;> simp <;> omega
  rw [dmk_form hf, ha]
  by_cases h1 : 24 < k
  · rw [ct (decide_eq_true (by omega)), cf (decide_eq_false (by omega))]
  · rw [cf (decide_eq_false (by omega))]
    by_cases h2 : 0 < h
    · rw [ct (by simpa using h2), cf (decide_eq_false (by omega))]
    · rw [cf (by simpa using h2)]
      by_cases h3 : 1099511627776 < l
      · rw [ct (by simp; omega), cf (decide_eq_false (by omega))]
      · rw [cf (by simp; omega), ct (c := decide (k ≤ 24 ∧ h * 2 ^ 64 + l ≤ 1099511627776)) (decide_eq_true (by omega)), wrap64 (n := (l : Int)) (by omega) (by omega), wrap64 (n := 0 - (l : Int)) (by omega) (by omega)]
        obtain rfl : h = 0 := by omega
        unfold wv
        cases s <;> simp
theorem fit_loop {s : Bool} {t0 t1 : Int} : ∀ (k h l : Nat), k ≤ 1000 → h < 2 ^ 64 → l < 2 ^ 64 → i_wide_fit_1003 (k : Int) s (h : Int) (l : Int) t0 t1 = some (dmk k (wv s h l))
  | 0, h, l, _, hh, hl => by
    rw [Ei_wide_fit_1003, cf (by decide)]
    exact fitFin hh hl (.inl rfl)
  | k + 1, h, l, hk, hh, hl => by
    rw [Ei_wide_fit_1003, ct (decide_eq_true (by omega))]
    by_cases he : l % 2 = 0
    · rw [ct (decide_eq_true (tmod2.2 (by omega))), sd1, sd2 hh hl, wrap64 (n := ((k + 1 : Nat) : Int) - 1) (by omega) (by omega), show ((k + 1 : Nat) : Int) - 1 = (k : Int) by omega, fit_loop k _ _ (by omega) (by omega) (by omega)]
      congr 1
      have := @dmk_scale k 1 (wv s (h / 2) (l / 2 + h % 2 * 2 ^ 63))
      rw [← this]
      congr 1
      unfold wv
      cases s <;> simp <;> omega
    · rw [cf (decide_eq_false (by rw [tmod2]; omega))]
      exact fitFin hh hl (.inr (by unfold wv; cases s <;> simp <;> omega))
theorem fit_v {s : Bool} {h l k : Nat} (hk : k ≤ 1000) (hh : h < 2 ^ 64) (hl : l < 2 ^ 64) : i_wide_fit s (h : Int) (l : Int) (k : Int) = some (dmk k (wv s h l)) := by
  unfold i_wide_fit
  rw [bsome (isZero_v ..)]
  by_cases h0 : h * 2 ^ 64 + l = 0
  · rw [ct (by simpa using h0)]
    have : wv s h l = 0 := by unfold wv; rw [h0]; cases s <;> rfl
    rw [this, dmk_zero]
  · rw [cf (by simpa using h0)]
    exact fit_loop k h l hk hh hl
/-! wadd -/
theorem add64_v {x y c : Nat} (hc : c ≤ 1) : bits_Add64 (x : Int) (y : Int) (c : Int) = some ((((x + y + c) % 18446744073709551616 : Nat) : Int), (((x + y + c) / 18446744073709551616 : Nat) : Int)) := by
  unfold bits_Add64
  rw [add64_eq]
  unfold add64R
  rw [Int.toNat_natCast, Int.toNat_natCast, Int.toNat_natCast, ct (decide_eq_true hc)]
theorem sub64_v {x y c : Nat} (hc : c ≤ 1) : bits_Sub64 (x : Int) (y : Int) (c : Int) = some ((((x + 18446744073709551616 - y - c) % 18446744073709551616 : Nat) : Int), ((if x < y + c then 1 else 0 : Nat) : Int)) := by
  unfold bits_Sub64
  rw [sub64_eq]
  unfold sub64R
  rw [Int.toNat_natCast, Int.toNat_natCast, Int.toNat_natCast, ct (decide_eq_true hc)]
theorem wsub_v {s s' : Bool} {h l h' l' : Nat} {t0 : Bool} {t1 t2 : Int} (hh : h < 2 ^ 64) (hl : l < 2 ^ 64) (hh' : h' < 2 ^ 64) (hl' : l' < 2 ^ 64) (hle : h' * 2 ^ 64 + l' ≤ h * 2 ^ 64 + l) :
    ∃ h2 l2 : Nat, i_wide_add_7 s (h : Int) (l : Int) s' (h' : Int) (l' : Int) t0 t1 t2 = some (s, (h2 : Int), (l2 : Int)) ∧ h2 < 2 ^ 64 ∧ l2 < 2 ^ 64 ∧ (h2 * 2 ^ 64 + l2) + (h' * 2 ^ 64 + l') = h * 2 ^ 64 + l := by
  have e1 := sub64_v (x := l) (y := l') (c := 0) (by omega)
  rw [Ei_wide_add_7, show (0 : Int) = ((0 : Nat) : Int) from rfl, bsome e1]
  by_cases hb : l < l' + 0
  · rw [if_pos hb]
    have e2 := sub64_v (x := h) (y := h') (c := 1) (by omega)
    exact ⟨_, _, bsome e2, by omega, by omega, by omega⟩
  · rw [if_neg hb]
    have e2 := sub64_v (x := h) (y := h') (c := 0) (by omega)
    exact ⟨_, _, bsome e2, by omega, by omega, by omega⟩
theorem wadd_v {s s' : Bool} {h l h' l' : Nat} (hh : h < 2 ^ 64) (hl : l < 2 ^ 64) (hh' : h' < 2 ^ 64) (hl' : l' < 2 ^ 64) (hs : (h * 2 ^ 64 + l) + (h' * 2 ^ 64 + l') < 2 ^ 128) :
    ∃ (s2 : Bool) (h2 l2 : Nat), i_wide_add s (h : Int) (l : Int) s' (h' : Int) (l' : Int) = some (s2, (h2 : Int), (l2 : Int)) ∧ h2 < 2 ^ 64 ∧ l2 < 2 ^ 64 ∧ wv s2 h2 l2 = wv s h l + wv s' h' l' := by
  unfold i_wide_add
  by_cases he : s = s'
  · subst he
    have e1 := add64_v (x := l) (y := l') (c := 0) (by omega)
    rw [ct (by simp), show (0 : Int) = ((0 : Nat) : Int) from rfl, bsome e1]
    have e2 := add64_v (x := h) (y := h') (c := (l + l' + 0) / 18446744073709551616) (by omega)
    refine ⟨s, _, _, bsome e2, by omega, by omega, ?_⟩
    unfold wv
    cases s <;> simp <;> omega
  · rw [cf (by simpa using he), bsome (compareSizes_v hl hl')]
    by_cases hc : Int.sign (((h * 2 ^ 64 + l : Nat) : Int) - ((h' * 2 ^ 64 + l' : Nat) : Int)) < 0
    · rw [ct (decide_eq_true hc)]
      have hlt : h * 2 ^ 64 + l < h' * 2 ^ 64 + l' := by
        by_cases hx : h' * 2 ^ 64 + l' ≤ h * 2 ^ 64 + l
        · have : 0 ≤ Int.sign (((h * 2 ^ 64 + l : Nat) : Int) - ((h' * 2 ^ 64 + l' : Nat) : Int)) := by
            rcases Int.lt_trichotomy 0 (((h * 2 ^ 64 + l : Nat) : Int) - ((h' * 2 ^ 64 + l' : Nat) : Int)) with g | g | g
            · rw [Int.sign_eq_one_of_pos g]; decide
            · rw [← g]; decide
            · rw [Int.sign_eq_neg_one_of_neg g] at hc; exact absurd g (by clear hc; omega)
          exact absurd hc (Int.not_lt.2 this)
        · exact Nat.lt_of_not_le hx
      obtain ⟨h2, l2, e1, e2, e3, e4⟩ := wsub_v (s := s') (s' := s) (t0 := false) (t1 := 0) (t2 := 0) hh' hl' hh hl (Nat.le_of_lt hlt)
      refine ⟨s', h2, l2, e1, e2, e3, ?_⟩
      unfold wv
      cases s <;> cases s' <;> simp at he ⊢ <;> omega
    · rw [cf (decide_eq_false hc)]
      have hle : h' * 2 ^ 64 + l' ≤ h * 2 ^ 64 + l := by
        by_cases hx : h * 2 ^ 64 + l < h' * 2 ^ 64 + l'
        · exact absurd (by rw [Int.sign_eq_neg_one_of_neg (by omega)]; decide) hc
        · exact Nat.le_of_not_lt hx
      obtain ⟨h2, l2, e1, e2, e3, e4⟩ := wsub_v (s := s) (s' := s') (t0 := false) (t1 := 0) (t2 := 0) hh hl hh' hl' hle
      refine ⟨s, h2, l2, e1, e2, e3, ?_⟩
      unfold wv
      cases s <;> cases s' <;> simp at he ⊢ <;> omega
/-! sign -/
theorem l1Sign_v (n : Int) : s_l1Sign n = some (Int.sign n) := by
  unfold s_l1Sign
  simp only [Bool.cond_decide]
  split
  · rw [Int.sign_eq_one_of_pos (by assumption)]
  · split
    · rw [Int.sign_eq_neg_one_of_neg (by assumption)]
    · rw [show n = 0 by omega]; rfl
theorem sign_ge {n : Int} : 0 ≤ Int.sign n ↔ 0 ≤ n := by
  rcases Int.lt_trichotomy n 0 with h | h | h
  · rw [Int.sign_eq_neg_one_of_neg h]; omega
  · subst h; simp
  · rw [Int.sign_eq_one_of_pos h]; omega
/-! dycmp -/
theorem dyDown_v {a b : Int} (hb : 0 < b) (h1 : -4611686018427387904 ≤ a) (h2 : a ≤ 4611686018427387904) : s_dyDown a b = some (a / b) := by
  unfold s_dyDown
  rw [ct (by simp; omega), ct (by simp; omega)]
  have e := Int.mul_tdiv_add_tmod a b
  have q1 : Int.natAbs (Int.tdiv a b) ≤ a.natAbs := Int.natAbs_tdiv_le_natAbs a b
  rw [wrap64 (n := Int.tdiv a b) (by omega) (by omega)]
  by_cases hn : Int.tmod a b < 0
  · rw [ct (by simpa using hn), wrap64 (by omega) (by omega)]
    have hm : -b < Int.tmod a b := by
      have := Int.natAbs_tmod a b
      have h3 : a.natAbs % b.natAbs < b.natAbs := Nat.mod_lt _ (by omega)
      omega
    have := ((Int.ediv_emod_unique (a := a) (b := b) (r := Int.tmod a b + b) (q := Int.tdiv a b - 1) hb).2 ⟨by rw [Int.mul_sub]; omega, by omega, by omega⟩).1
    rw [this]
  · rw [cf (by simpa using hn)]
    have hm : Int.tmod a b < b := by
      have := Int.natAbs_tmod a b
      have h3 : a.natAbs % b.natAbs < b.natAbs := Nat.mod_lt _ (by omega)
      omega
    have := ((Int.ediv_emod_unique (a := a) (b := b) (r := Int.tmod a b) (q := Int.tdiv a b) hb).2 ⟨by omega, by omega, by omega⟩).1
    rw [this]
theorem p2i (k : Nat) : (0 : Int) < 2 ^ k := Int.pow_pos (by decide)
theorem p2m {k n : Nat} (h : k ≤ n) : (2 : Int) ^ k ≤ 2 ^ n := by exact_mod_cast Nat.pow_le_pow_right (by decide) h
theorem p2a {k n : Nat} : (2 : Int) ^ (k + n) = 2 ^ k * 2 ^ n := Int.pow_add ..
theorem dyFloor_v {N K : Int} (h : dOk N K = true) : s_dyFloor N K = some (N / 2 ^ K.toNat) := by
  obtain ⟨h1, h2, _⟩ := dOk_iff.1 h
  unfold s_dyFloor
  rw [bsome (dyPower_v h1.1 (by omega)), bret, dyDown_v (p2i _) (by omega) (by omega)]
theorem dyAt_loop {k : Nat} (hk : k ≤ 1000) (c : Int) : ∀ (m i : Nat) (N : Int), i + m = k → N.natAbs * 2 ^ m ≤ 1152921504606846976 → s_dyAt_1004 (k : Int) N c (i : Int) = some (N * 2 ^ m, true)
  | 0, i, N, hi, _ => by
    rw [Es_dyAt_1004, show i = k by omega, cf ltf]; simp
  | m + 1, i, N, hi, hN => by
    have c60 : IntKind.wrap .i64 (1 * 2 ^ min (Int.toNat (IntKind.wrap .u64 60)) (IntKind.bits .i64)) = 1152921504606846976 := by decide
    have c61 : IntKind.wrap .i64 (0 - 1152921504606846976) = -1152921504606846976 := by decide
    have hp : 0 < 2 ^ m := Nat.two_pow_pos m
    have h1 : N.natAbs * 1 ≤ N.natAbs * 2 ^ (m + 1) := Nat.mul_le_mul_left _ (Nat.two_pow_pos _)
    have hlt : i < k := by omega
    rw [Es_dyAt_1004, ct (ltt hlt), c60, c61, bsome (l1In_v ..), cf (by simp; omega), wrap64 (n := N * 2) (by omega) (by omega), sc hlt (by omega),
      dyAt_loop hk c m (i + 1) (N * 2) (by omega) (by rw [Int.natAbs_mul, Nat.mul_assoc, show Int.natAbs 2 * 2 ^ m = 2 ^ (m + 1) by rw [Nat.pow_succ, Nat.mul_comm]; rfl]; exact hN), Int.mul_assoc, Int.pow_succ, Int.mul_comm 2]
theorem dyAt_v {N K : Int} {k : Nat} (hK : 0 ≤ K) (hk : K ≤ k) (hk2 : k ≤ 1000) (hN : N.natAbs * 2 ^ (k - K.toNat) ≤ 1152921504606846976) : s_dyAt N K (k : Int) = some (N * 2 ^ (k - K.toNat), true) := by
  unfold s_dyAt
  by_cases h : N = 0
  · rw [ct (by simpa using h), h]; simp
  · rw [cf (by simpa using h)]
    obtain ⟨n, rfl⟩ := Int.eq_ofNat_of_zero_le hK
    have hn : n ≤ k := by omega
    exact dyAt_loop hk2 _ (k - n) n N (by omega) hN
theorem v24_floor {N K : Int} (h : dOk N K = true) : (N / 2 ^ K.toNat) * 16777216 ≤ vd24 N K ∧ vd24 N K < (N / 2 ^ K.toNat) * 16777216 + 16777216 ∧ (N - N / 2 ^ K.toNat * 2 ^ K.toNat) * 2 ^ (24 - K.toNat) = vd24 N K - N / 2 ^ K.toNat * 16777216 ∧ 0 ≤ N - N / 2 ^ K.toNat * 2 ^ K.toNat ∧ N - N / 2 ^ K.toNat * 2 ^ K.toNat < 2 ^ K.toNat := by
  obtain ⟨h1, h2, _⟩ := dOk_iff.1 h
  have e24 : (16777216 : Int) = 2 ^ K.toNat * 2 ^ (24 - K.toNat) := by rw [← p2a, show K.toNat + (24 - K.toNat) = 24 by omega]; rfl
  have h3 := Int.emod_nonneg N (Int.ne_of_gt (p2i K.toNat))
  have h4 := Int.emod_lt_of_pos N (p2i K.toNat)
  have h5 := Int.mul_ediv_add_emod N (2 ^ K.toNat)
  have h6 : N - N / 2 ^ K.toNat * 2 ^ K.toNat = N % 2 ^ K.toNat := by rw [Int.mul_comm]; omega
  have e : (N - N / 2 ^ K.toNat * 2 ^ K.toNat) * 2 ^ (24 - K.toNat) = vd24 N K - N / 2 ^ K.toNat * 16777216 := by
    rw [Int.sub_mul, e24, Int.mul_assoc]; rfl
  have h7 : 0 ≤ (N - N / 2 ^ K.toNat * 2 ^ K.toNat) * 2 ^ (24 - K.toNat) := Int.mul_nonneg (by omega) (Int.le_of_lt (p2i _))
  have h8 : (N - N / 2 ^ K.toNat * 2 ^ K.toNat) * 2 ^ (24 - K.toNat) < 16777216 := by
    rw [e24]; exact Int.mul_lt_mul_of_pos_right (by omega) (p2i _)
  exact ⟨by omega, by omega, e, by omega, by omega⟩
theorem dyCmp_v {N K M L : Int} (ha : dOk N K = true) (hb : dOk M L = true) : s_dyCmp N K M L = some (Int.sign (vd24 N K - vd24 M L)) := by
  obtain ⟨a1, a2, _⟩ := dOk_iff.1 ha
  obtain ⟨b1, b2, _⟩ := dOk_iff.1 hb
  obtain ⟨a3, a4, a5, a6, a7⟩ := v24_floor ha
  obtain ⟨b3, b4, b5, b6, b7⟩ := v24_floor hb
  have pa := p2m (show K.toNat ≤ 24 by omega)
  have pb := p2m (show L.toNat ≤ 24 by omega)
  have qa : (N / 2 ^ K.toNat).natAbs ≤ N.natAbs := Int.natAbs_ediv_le_natAbs _ _
  have qb : (M / 2 ^ L.toNat).natAbs ≤ M.natAbs := Int.natAbs_ediv_le_natAbs _ _
  unfold s_dyCmp
  rw [bsome (dyFloor_v ha), bsome (dyFloor_v hb)]
  by_cases h : N / 2 ^ K.toNat = M / 2 ^ L.toNat
  · rw [cf (by simpa using h), bsome (dyPower_v a1.1 (by omega)), wrap64 (n := N / 2 ^ K.toNat * 2 ^ K.toNat) (by omega) (by omega), wrap64 (n := N - _) (by omega) (by omega)]
    have bound : ∀ {x : Int} {k : Nat}, k ≤ 24 → 0 ≤ x → x < 2 ^ k → x.natAbs * 2 ^ (24 - k) ≤ 1152921504606846976 := by
      intro x k hk h0 h1
      have : (x.natAbs * 2 ^ (24 - k) : Nat) < 2 ^ k * 2 ^ (24 - k) := Nat.mul_lt_mul_of_pos_right (by
        have : (x.natAbs : Int) < ((2 ^ k : Nat) : Int) := by simpa using (by omega : (x.natAbs : Int) < 2 ^ k)
        omega) (Nat.two_pow_pos _)
      rw [← Nat.pow_add, show k + (24 - k) = 24 by omega] at this
      omega
    rw [show (24 : Int) = ((24 : Nat) : Int) from rfl, bsome (dyAt_v (k := 24) a1.1 (by omega) (by omega) (bound (by omega) a6 a7)), bsome (dyPower_v b1.1 (by omega)), wrap64 (n := M / 2 ^ L.toNat * 2 ^ L.toNat) (by omega) (by omega), wrap64 (n := M - _) (by omega) (by omega),
      bsome (dyAt_v (k := 24) b1.1 (by omega) (by omega) (bound (by omega) b6 b7)), bret]
    simp only
    rw [a5, b5, wrap64 (by omega) (by omega), l1Sign_v]
    congr 2
    omega
  · rw [ct (by simpa using h), wrap64 (by omega) (by omega), bret, l1Sign_v]
    congr 1
    rcases Int.lt_trichotomy (N / 2 ^ K.toNat) (M / 2 ^ L.toNat) with hh | hh | hh
    · rw [Int.sign_eq_neg_one_of_neg (by omega), Int.sign_eq_neg_one_of_neg (by omega)]
    · exact absurd hh h
    · rw [Int.sign_eq_one_of_pos (by omega), Int.sign_eq_one_of_pos (by omega)]
/-! most -/
theorem l1Most_v (a b : Int) : s_l1Most a b = some (max a b) := by
  unfold s_l1Most
  simp only [Bool.cond_decide]
  split
  · rw [show max a b = a by omega]
  · rw [show max a b = b by omega]
/-! dysumA -/
/-- Numbers over a common power of 2. -/
def upS (N K M L : Int) : Int := N * 2 ^ (max K.toNat L.toNat - K.toNat) + M * 2 ^ (max K.toNat L.toNat - L.toNat)
theorem kmax {K L : Int} (h1 : 0 ≤ K) (h2 : 0 ≤ L) : (bif decide (K < L) then L else K) = ((max K.toNat L.toNat : Nat) : Int) := by
  by_cases h : K < L
  · rw [ct (decide_eq_true h)]; omega
  · rw [cf (decide_eq_false h)]; omega
theorem wv_lt {s : Bool} {h l : Nat} {n : Int} (e : wv s h l = n) : h * 2 ^ 64 + l = n.natAbs := by
  rw [← e]; unfold wv; cases s <;> simp <;> omega
/-- The sum of two numbers, as a wide one. -/
theorem wideSum_v {N K M L : Int} (ha : dOk N K = true) (hb : dOk M L = true) {R : Type} (G : Bool × Int × Int → Option R) (r : R)
    (hG : ∀ (s : Bool) (h l : Nat), h < 2 ^ 64 → l < 2 ^ 64 → wv s h l = upS N K M L → G (s, (h : Int), (l : Int)) = some r) :
    ((i_wideOf N).bind fun r0 => (i_wide_shift r0.fst r0.snd.fst r0.snd.snd (IntKind.wrap .i64 ((bif decide (K < L) then L else K) - K))).bind fun r1 =>
      (i_wideOf M).bind fun r2 => (i_wide_shift r2.fst r2.snd.fst r2.snd.snd (IntKind.wrap .i64 ((bif decide (K < L) then L else K) - L))).bind fun r3 =>
      (i_wide_add r1.fst r1.snd.fst r1.snd.snd r3.fst r3.snd.fst r3.snd.snd).bind G) = some r := by
  obtain ⟨a1, a2, _⟩ := dOk_iff.1 ha
  obtain ⟨b1, b2, _⟩ := dOk_iff.1 hb
  rw [bsome (wideOf_v (by omega) (by omega)), kmax a1.1 b1.1]
  rw [wrap64 (n := ((max K.toNat L.toNat : Nat) : Int) - K) (by omega) (by omega), wrap64 (n := ((max K.toNat L.toNat : Nat) : Int) - L) (by omega) (by omega),
    show ((max K.toNat L.toNat : Nat) : Int) - K = ((max K.toNat L.toNat - K.toNat : Nat) : Int) by omega, show ((max K.toNat L.toNat : Nat) : Int) - L = ((max K.toNat L.toNat - L.toNat : Nat) : Int) by omega]
  obtain ⟨h, l, e1, e2, e3, e4⟩ := wshift_v (N := N) (k := max K.toNat L.toNat - K.toNat) (by omega) (by omega)
  obtain ⟨h', l', f1, f2, f3, f4⟩ := wshift_v (N := M) (k := max K.toNat L.toNat - L.toNat) (by omega) (by omega)
  rw [bsome e1, bsome (wideOf_v (by omega) (by omega)), bsome f1]
  have bnd : ∀ {N : Int} {k : Nat}, N.natAbs ≤ 1099511627776 → k ≤ 24 → (N * 2 ^ k).natAbs ≤ 1099511627776 * 2 ^ 24 := by
    intro N k h1 h2
    rw [Int.natAbs_mul, Int.natAbs_pow]
    exact Nat.mul_le_mul h1 (Nat.pow_le_pow_right (by decide) h2)
  have m1 := wv_lt e4
  have m2 := wv_lt f4
  have m3 := bnd (N := N) (k := max K.toNat L.toNat - K.toNat) (by omega) (by omega)
  have m4 := bnd (N := M) (k := max K.toNat L.toNat - L.toNat) (by omega) (by omega)
  obtain ⟨s2, h2, l2, g1, g2, g3, g4⟩ := wadd_v (s := decide (N < 0)) (s' := decide (M < 0)) e2 e3 f2 f3 (by rw [m1, m2]; exact Nat.lt_of_le_of_lt (Nat.add_le_add m3 m4) (by decide))
  rw [bsome g1]
  exact hG s2 h2 l2 g2 g3 (by rw [g4, e4, f4]; rfl)
/-! kindvol -/
/-- A box's volume as a number. -/
def vp (b : Bx) : Int × Int := red (b.2.1.length * b.1.toNat) (prd (wds b.2.1 b.2.2))
def vv (b : Bx) : Int := vd24 (vp b).1 (vp b).2
theorem vp_k {b : Bx} (hb : bOkB b = true) : b.2.1.length * b.1.toNat ≤ 24 := by
  obtain ⟨p1, p2, p3, p4, p5⟩ := bOk_parts hb
  exact Nat.mul_le_mul p4 (show b.1.toNat ≤ 8 by omega)
theorem vp_ok {b : Bx} (hb : bOkB b = true) : dOk (vp b).1 (vp b).2 = true := red_ok (vp_k hb) (by have := volB_bd hb; omega)
theorem vv_vol {b : Bx} (hb : bOkB b = true) : 8 * vv b = volB b := by
  unfold vv vp
  rw [red_v24 (vp_k hb)]
  unfold volB vol
  have hk := vp_k hb
  rw [show 27 - b.2.1.length * b.1.toNat = (24 - b.2.1.length * b.1.toNat) + 3 by omega, Int.pow_add]
  grind
theorem vloop {R : Type} {f : Int → Nat → R} {w : List Int} (hw : ∀ x ∈ w, 0 ≤ x ∧ x ≤ 4096) (hl : w.length ≤ 3)
    (h1 : ∀ n i (h : i < w.length), 0 ≤ n → n ≤ 16777216 → f n i = f (n * w[i]) (i + 1)) : f 1 0 = f (prd w) w.length := by
  have main : ∀ m i n, i + m = w.length → 0 ≤ n → n ≤ 4096 ^ i → f n i = f (n * prd (w.drop i)) w.length := by
    intro m
    induction m with
    | zero =>
      intro i n hi _ _
      rw [show i = w.length by omega, List.drop_length]
      simp [prd]
    | succ m ih =>
      intro i n hi h0 hn
      have hlt : i < w.length := by omega
      have hp : (4096 : Int) ^ i ≤ 16777216 := by
        have : i = 0 ∨ i = 1 ∨ i = 2 := by omega
        rcases this with rfl | rfl | rfl <;> decide
      obtain ⟨w1, w2⟩ := hw w[i] (List.getElem_mem hlt)
      rw [h1 n i hlt h0 (Int.le_trans hn hp), ih (i + 1) _ (by omega) (Int.mul_nonneg h0 w1) (by rw [Int.pow_succ]; exact Int.mul_le_mul hn w2 w1 (Int.pow_nonneg (by decide))), List.drop_eq_getElem_cons hlt, prd, Int.mul_assoc]
  have := main w.length 0 1 (by omega) (by decide) (by decide)
  rw [this, List.drop_zero, Int.one_mul]
theorem wds_4096 {b : Bx} (hb : bOkB b = true) : ∀ w ∈ wds b.2.1 b.2.2, 0 ≤ w ∧ w ≤ 4096 := by
  intro w hw
  have h1 := wds_bd hb w hw
  obtain ⟨p1, p2, _⟩ := bOk_parts hb
  have h2 : (2 : Int) ^ b.1.toNat ≤ 256 := p2le (show b.1.toNat ≤ 8 by omega)
  omega
theorem wds_at {b : Bx} (hb : bOkB b = true) {i : Nat} (hi : i < b.2.1.length) (hw : i < (wds b.2.1 b.2.2).length) : IntKind.wrap .i64 (List.getD b.2.2 (Int.toNat (i : Int)) 0 - List.getD b.2.1 (Int.toNat (i : Int)) 0) = (wds b.2.1 b.2.2)[i] := by
  obtain ⟨_, _, _, _, p5⟩ := bOk_parts hb
  have := box_at hb hi (by omega)
  rw [gD hi, gD (show i < b.2.2.length by omega), wrap64 (by omega) (by omega)]
  simp [wds]
theorem vk_cast {b : Bx} (hb : bOkB b = true) : IntKind.wrap .i64 ((b.2.1.length : Int) * b.1) = ((b.2.1.length * b.1.toNat : Nat) : Int) := by
  obtain ⟨p1, p2, p3, p4, p5⟩ := bOk_parts hb
  have := vp_k hb
  have e : (b.2.1.length : Int) * b.1 = ((b.2.1.length * b.1.toNat : Nat) : Int) := by rw [Int.natCast_mul, Int.toNat_of_nonneg p1]
  rw [e, wrap64 (by omega) (by omega)]
theorem bxVolume_v {b : Bx} (hb : bOkB b = true) : s_bxVolume b.1 b.2.1 b.2.2 = some (vp b) := by
  obtain ⟨p1, p2, p3, p4, p5⟩ := bOk_parts hb
  unfold s_bxVolume
  refine (vloop (f := fun n i => s_bxVolume_1003 b.1 b.2.1 b.2.2 0 0 n b.2.1 (b.2.1.length : Int) (i : Int)) (wds_4096 hb) (by rw [wds_len p5]; exact p4) (fun n i h h0 hn => ?_)).trans ?_
  · show s_bxVolume_1003 _ _ _ _ _ _ _ _ _ = s_bxVolume_1003 _ _ _ _ _ _ _ _ _
    have hi : i < b.2.1.length := by rw [wds_len p5] at h; exact h
    obtain ⟨w1, w2⟩ := wds_4096 hb _ (List.getElem_mem h)
    rw [Es_bxVolume_1003, ct (ltt hi), ct (bA hi), ct (bA (by omega)), wds_at hb hi h, sc hi (by omega)]
    have : n * (wds b.2.1 b.2.2)[i] ≤ 16777216 * 4096 := Int.mul_le_mul hn w2 w1 (by decide)
    have h3 : 0 ≤ n * (wds b.2.1 b.2.2)[i] := Int.mul_nonneg h0 w1
    rw [wrap64 (n := n * (wds b.2.1 b.2.2)[i]) (by omega) (by omega)]
  · show s_bxVolume_1003 _ _ _ _ _ _ _ _ ((wds b.2.1 b.2.2).length : Int) = _
    have hv := volB_bd hb
    rw [wds_len p5, Es_bxVolume_1003, cf ltf, vk_cast hb, bsome (bxNumber_v (by omega) (by have := vp_k hb; omega) (by omega)), Int.toNat_natCast]
    rfl
theorem boxVolume_v {b : Bx} (hb : bOkB b = true) : i_Box_volume b = some (vp b, true) := by
  obtain ⟨p1, p2, p3, p4, p5⟩ := bOk_parts hb
  unfold i_Box_volume
  refine (vloop (f := fun n i => i_Box_volume_1003 b 0 0 n (b.2.1.length : Int) (i : Int)) (wds_4096 hb) (by rw [wds_len p5]; exact p4) (fun n i h h0 hn => ?_)).trans ?_
  · show i_Box_volume_1003 _ _ _ _ _ _ = i_Box_volume_1003 _ _ _ _ _ _
    have hi : i < b.2.1.length := by rw [wds_len p5] at h; exact h
    obtain ⟨w1, w2⟩ := wds_4096 hb _ (List.getElem_mem h)
    have hlen : i_Box_length b (i : Int) = some (wds b.2.1 b.2.2)[i] := by
      unfold i_Box_length
      rw [ct (bA (by omega)), ct (bA hi), wds_at hb hi h]
    rw [Ei_Box_volume_1003, ct (ltt hi), bsome hlen, sc hi (by omega)]
    have : n * (wds b.2.1 b.2.2)[i] ≤ 16777216 * 4096 := Int.mul_le_mul hn w2 w1 (by decide)
    have h3 : 0 ≤ n * (wds b.2.1 b.2.2)[i] := Int.mul_nonneg h0 w1
    rw [wrap64 (n := n * (wds b.2.1 b.2.2)[i]) (by omega) (by omega)]
  · show i_Box_volume_1003 _ _ _ _ _ ((wds b.2.1 b.2.2).length : Int) = _
    obtain ⟨v1, v2, _⟩ := volB_bd hb
    have hk := vp_k hb
    have hf := fit_v (s := decide (prd (wds b.2.1 b.2.2) < 0)) (h := 0) (l := (prd (wds b.2.1 b.2.2)).natAbs) (k := b.2.1.length * b.1.toNat) (by omega) (by decide) (by omega)
    rw [wv_of (N := prd (wds b.2.1 b.2.2)) (k := 0) (by simp), dmk_ok (by omega) (by omega)] at hf
    rw [wds_len p5, Ei_Box_volume_1003, cf ltf, bsome (wideOf_v (by omega) (by omega)), Int.mul_comm b.1, vk_cast hb]
    refine (bsome hf).trans ?_
    show some _ = some _
    rw [show prd (wds b.2.1 b.2.2) * 2 ^ 0 = prd (wds b.2.1 b.2.2) by omega]
    rfl
theorem dsum_eq {N K M L : Int} (ha : dOk N K = true) (hb : dOk M L = true) : dmk (max K.toNat L.toNat) (upS N K M L) = dmk 24 (vd24 N K + vd24 M L) := by
  obtain ⟨a1, a2, _⟩ := dOk_iff.1 ha
  obtain ⟨b1, b2, _⟩ := dOk_iff.1 hb
  have := @dmk_scale (max K.toNat L.toNat) (24 - max K.toNat L.toNat) (upS N K M L)
  rw [show max K.toNat L.toNat + (24 - max K.toNat L.toNat) = 24 by omega] at this
  rw [← this]
  congr 1
  unfold upS vd24
  rw [Int.add_mul, Int.mul_assoc, Int.mul_assoc, ← Int.pow_add, ← Int.pow_add, show max K.toNat L.toNat - K.toNat + (24 - max K.toNat L.toNat) = 24 - K.toNat by omega, show max K.toNat L.toNat - L.toNat + (24 - max K.toNat L.toNat) = 24 - L.toNat by omega]
theorem sumOf_v {N K M L : Int} (ha : dOk N K = true) (hb : dOk M L = true) : i_sumOf N K M L = some (dmk 24 (vd24 N K + vd24 M L)) := by
  obtain ⟨a1, a2, _⟩ := dOk_iff.1 ha
  obtain ⟨b1, b2, _⟩ := dOk_iff.1 hb
  unfold i_sumOf
  refine wideSum_v ha hb _ _ fun s h l hh hl hv => ?_
  show (i_wide_fit s (h : Int) (l : Int) _).bind _ = _
  rw [kmax a1.1 b1.1, bsome (fit_v (by omega) hh hl), hv, dsum_eq ha hb]
theorem dyAdd_v {N K M L : Int} (ha : dOk N K = true) (hb : dOk M L = true) (h1 : (vd24 N K).natAbs ≤ 1099511627776) (h2 : (vd24 M L).natAbs ≤ 1099511627776) : s_dyAdd N K M L = some (dmk 24 (vd24 N K + vd24 M L)) := by
  obtain ⟨a1, a2, _⟩ := dOk_iff.1 ha
  obtain ⟨b1, b2, _⟩ := dOk_iff.1 hb
  have bnd : ∀ {N K : Int} {k : Nat}, (vd24 N K).natAbs ≤ 1099511627776 → k ≤ 24 → K.toNat ≤ k → N.natAbs * 2 ^ (k - K.toNat) ≤ 1099511627776 := by
    intro N K k h hk hK
    refine Nat.le_trans ?_ h
    unfold vd24
    rw [Int.natAbs_mul, Int.natAbs_pow]
    exact Nat.mul_le_mul_left _ (Nat.pow_le_pow_right (by decide) (by omega))
  have m1 := bnd (k := max K.toNat L.toNat) h1 (by omega) (by omega)
  have m2 := bnd (k := max K.toNat L.toNat) h2 (by omega) (by omega)
  have n1 : (N * 2 ^ (max K.toNat L.toNat - K.toNat)).natAbs = N.natAbs * 2 ^ (max K.toNat L.toNat - K.toNat) := by rw [Int.natAbs_mul, Int.natAbs_pow]; rfl
  have n2 : (M * 2 ^ (max K.toNat L.toNat - L.toNat)).natAbs = M.natAbs * 2 ^ (max K.toNat L.toNat - L.toNat) := by rw [Int.natAbs_mul, Int.natAbs_pow]; rfl
  unfold s_dyAdd
  rw [bsome (l1Most_v ..), show max K L = ((max K.toNat L.toNat : Nat) : Int) by omega]
  rw [bsome (dyAt_v (k := max K.toNat L.toNat) a1.1 (by omega) (by omega) (Nat.le_trans m1 (by decide))), bsome (dyAt_v (k := max K.toNat L.toNat) b1.1 (by omega) (by omega) (Nat.le_trans m2 (by decide))), cnt, cnt]
  rw [← n1] at m1
  rw [← n2] at m2
  have hs : (upS N K M L).natAbs ≤ 4611686018427387904 := by
    unfold upS
    generalize N * 2 ^ (max K.toNat L.toNat - K.toNat) = x at m1
    generalize M * 2 ^ (max K.toNat L.toNat - L.toNat) = y at m2
    omega
  show (s_dyMake (IntKind.wrap IntKind.i64 (N * 2 ^ (max K.toNat L.toNat - K.toNat) + M * 2 ^ (max K.toNat L.toNat - L.toNat))) _).bind _ = _
  rw [wrap64 (n := N * 2 ^ (max K.toNat L.toNat - K.toNat) + M * 2 ^ (max K.toNat L.toNat - L.toNat)) (by have := hs; unfold upS at this; omega) (by have := hs; unfold upS at this; omega)]
  refine (bsome (dyMake_v (by omega) hs)).trans ?_
  rw [dsum_eq ha hb]
/-- The sum of a kind's volumes. -/
def ksum (kind : Int) : List Nd → List Bx → Int
  | n :: ns, b :: bs => (if n.1 = kind then vv b else 0) + ksum kind ns bs
  | _, _ => 0
theorem vv_nn {b : Bx} (hb : bOkB b = true) : 0 ≤ vv b ∧ vv b ≤ 68719476736 := by
  have := vv_vol hb
  have := volB_bd hb
  omega
theorem ksum_bd {kind : Int} : ∀ {ns : List Nd} {bs : List Bx}, (∀ b ∈ bs, bOkB b = true) → 0 ≤ ksum kind ns bs ∧ 8 * ksum kind ns bs ≤ vsum bs
  | [], bs, h => by
    have := vsum_nn h
    simp [ksum]; exact this
  | _ :: _, [], _ => by simp [ksum, vsum]
  | n :: ns, b :: bs, h => by
    have h1 := vv_nn (h b (List.mem_cons_self ..))
    have h2 := vv_vol (h b (List.mem_cons_self ..))
    have h3 := ksum_bd (kind := kind) (ns := ns) fun x hx => h x (List.mem_cons_of_mem _ hx)
    simp only [ksum, vsum]
    split <;> omega
def lvs (l : List Nd) : List Nd := l.filter fun n => !decide (n.1 = 0)
theorem rpLeaves_l {l : List Nd} (hl : l.length ≤ 1000000) : ∀ (m i : Nat) (out : List Nd), i + m = l.length → out.length ≤ i → s_rpLeaves_1003 out l (l.length : Int) (i : Int) = some (out ++ lvs (l.drop i))
  | 0, i, out, hi, _ => by
    rw [Es_rpLeaves_1003, show i = l.length by omega, cf ltf, List.drop_length]
    simp [lvs]
  | m + 1, i, out, hi, ho => by
    have hlt : i < l.length := by omega
    have hd : lvs (l.drop i) = if l[i].1 = 0 then lvs (l.drop (i + 1)) else l[i] :: lvs (l.drop (i + 1)) := by
      rw [List.drop_eq_getElem_cons hlt]
      unfold lvs
      rw [List.filter_cons]
      by_cases h : l[i].1 = 0 <;> simp [h]
    rw [Es_rpLeaves_1003, ct (ltt hlt), ct (bA hlt), gD hlt, sc hlt (by omega), hd]
    by_cases h : l[i].1 = 0
    · rw [cf (by simp [h]), if_pos h, rpLeaves_l hl m (i + 1) out (by omega) (by omega)]
    · rw [ct (by simp [h]), if_neg h, ct (by simp; omega), rpLeaves_l hl m (i + 1) _ (by omega) (by simp; omega), List.append_assoc]
      rfl
theorem rpLeaves_v {l : List Nd} (hl : l.length ≤ 1000000) : s_rpLeaves l = some (lvs l) := by
  have := rpLeaves_l hl l.length 0 [] (by omega) (by simp)
  exact this
theorem r24 (A : Int) : vd24 (red 24 A).1 (red 24 A).2 = A := by
  rw [red_v24 (Nat.le_refl _)]
  exact Int.mul_one A
theorem rpVolume_l {ns : List Nd} {bs : List Bx} {kind t0 t1 : Int} (hl : ns.length ≤ 1000000) (hb : ∀ b ∈ bs, bOkB b = true) (hlen : bs.length = ns.length) : ∀ (m i : Nat) (A : Int), i + m = ns.length → 0 ≤ A → A + ksum kind (ns.drop i) (bs.drop i) ≤ 137438953472 →
    s_rpVolume_1003 bs kind t0 t1 (red 24 A).1 (red 24 A).2 ns (ns.length : Int) (i : Int) = some (red 24 (A + ksum kind (ns.drop i) (bs.drop i)))
  | 0, i, A, hi, _, _ => by
    rw [Es_rpVolume_1003, show i = ns.length by omega, cf ltf, List.drop_length]
    simp [ksum]
  | m + 1, i, A, hi, h0, hA => by
    have hlt : i < ns.length := by omega
    have hlt2 : i < bs.length := by omega
    have hbi := hb _ (List.getElem_mem hlt2)
    have hn := ksum_bd (kind := kind) (ns := ns.drop (i + 1)) (bs := bs.drop (i + 1)) fun b h => hb b (List.mem_of_mem_drop h)
    have hv := vv_nn hbi
    rw [List.drop_eq_getElem_cons hlt, List.drop_eq_getElem_cons hlt2, ksum] at hA ⊢
    rw [Es_rpVolume_1003, ct (ltt hlt), ct (bA hlt), ct (nblt hlt), gD hlt, sc hlt (by omega)]
    by_cases h : ns[i].1 = kind
    · rw [if_pos h] at hA ⊢
      have hA1 : A.natAbs ≤ 1099511627776 := by omega
      rw [ct (decide_eq_true h), ct (bA hlt2), gD hlt2, bsome (bxVolume_v hbi), bsome (dyAdd_v (red_ok (Nat.le_refl _) hA1) (vp_ok hbi) (by rw [r24]; exact hA1) (by show (vv bs[i]).natAbs ≤ _; omega)), r24, dmk_ok (Nat.le_refl _) (by show (A + vv bs[i]).natAbs ≤ _; omega)]
      show s_rpVolume_1003 bs kind t0 t1 (red 24 (A + vv bs[i])).1 (red 24 (A + vv bs[i])).2 ns _ _ = _
      rw [rpVolume_l hl hb hlen m (i + 1) (A + vv bs[i]) (by omega) (by omega) (by omega), Int.add_assoc]
    · rw [if_neg h] at hA ⊢
      rw [cf (decide_eq_false h), rpVolume_l hl hb hlen m (i + 1) A (by omega) h0 (by omega), Int.zero_add]
theorem rpVolume_v {l : List Nd} {bs : List Bx} {kind : Int} (hl : l.length ≤ 1000000) (hb : ∀ b ∈ bs, bOkB b = true) (hlen : bs.length = (lvs l).length) (hs : vsum bs ≤ 549755813888) : s_rpVolume bs l kind = some (red 24 (ksum kind (lvs l) bs)) := by
  have hk := ksum_bd (kind := kind) (ns := lvs l) hb
  have hll : (lvs l).length ≤ l.length := List.length_filter_le ..
  unfold s_rpVolume
  rw [bsome (rpLeaves_v hl)]
  have := rpVolume_l (kind := kind) (t0 := 0) (t1 := 0) (by omega) hb hlen (lvs l).length 0 0 (by omega) (Int.le_refl _) (by rw [List.drop_zero, List.drop_zero]; omega)
  rw [red_zero, List.drop_zero, List.drop_zero, Int.zero_add] at this
  exact this
def plc : Nat → List Nd → List Int
  | _, [] => []
  | i, n :: l => if n.1 = 0 then plc (i + 1) l else (i : Int) :: plc (i + 1) l
theorem leafPlaces_l {l : List Nd} (hl : l.length ≤ 1000000) : ∀ (m i : Nat) (out : List Int), i + m = l.length → out.length ≤ i → i_leafPlaces_1003 out l (l.length : Int) (i : Int) = some (out ++ plc i (l.drop i))
  | 0, i, out, hi, _ => by
    rw [Ei_leafPlaces_1003, show i = l.length by omega, cf ltf, List.drop_length]
    simp [plc]
  | m + 1, i, out, hi, ho => by
    have hlt : i < l.length := by omega
    rw [Ei_leafPlaces_1003, ct (ltt hlt), ct (bA hlt), gD hlt, sc hlt (by omega), List.drop_eq_getElem_cons hlt, plc]
    by_cases h : l[i].1 = 0
    · rw [cf (by simp [h]), if_pos h, leafPlaces_l hl m (i + 1) out (by omega) (by omega)]
    · rw [ct (by simp [h]), if_neg h, ct (by simp; omega), leafPlaces_l hl m (i + 1) _ (by omega) (by simp; omega), List.append_assoc]
      rfl
theorem leafPlaces_v {l : List Nd} (hl : l.length ≤ 1000000) : i_leafPlaces l = some (plc 0 l) := leafPlaces_l hl l.length 0 [] (by omega) (by simp)
theorem plc_len : ∀ (l : List Nd) (i : Nat), (plc i l).length = (lvs l).length
  | [], _ => rfl
  | n :: l, i => by
    unfold plc lvs
    rw [List.filter_cons]
    have := plc_len l (i + 1)
    unfold lvs at this
    by_cases h : n.1 = 0 <;> simp [h, this]
theorem plc_at : ∀ (l : List Nd) (i j : Nat) (h : j < (plc i l).length) (h2 : j < (lvs l).length), ∃ (p : Nat) (hp : p < l.length), (plc i l)[j] = ((i + p : Nat) : Int) ∧ l[p] = (lvs l)[j]
  | [], i, j, h, _ => by simp [plc] at h
  | n :: l, i, j, h, h2 => by
    by_cases hn : n.1 = 0
    · have e1 : plc i (n :: l) = plc (i + 1) l := by rw [plc, if_pos hn]
      have e2 : lvs (n :: l) = lvs l := by unfold lvs; rw [List.filter_cons]; simp [hn]
      simp only [e1, e2] at h h2 ⊢
      obtain ⟨p, hp, q1, q2⟩ := plc_at l (i + 1) j h h2
      exact ⟨p + 1, by simp; omega, by rw [q1]; congr 1; omega, by simpa using q2⟩
    · have e1 : plc i (n :: l) = (i : Int) :: plc (i + 1) l := by rw [plc, if_neg hn]
      have e2 : lvs (n :: l) = n :: lvs l := by unfold lvs; rw [List.filter_cons]; simp [hn]
      simp only [e1, e2] at h h2 ⊢
      cases j with
      | zero => exact ⟨0, by simp, by simp, by simp⟩
      | succ j =>
        obtain ⟨p, hp, q1, q2⟩ := plc_at l (i + 1) j (by simpa using h) (by simpa using h2)
        exact ⟨p + 1, by simp; omega, by rw [List.getElem_cons_succ, q1]; congr 1; omega, by simpa using q2⟩
theorem set3 {A : Nat → Int} {c : Nat} (hc : c < 3) {n : Int} (hn : n = (c : Int) + 1) {v : Int} : List.set [red 24 (A 0), red 24 (A 1), red 24 (A 2)] c (red 24 (A c + v)) = [red 24 (A 0 + if n = ((0 : Nat) : Int) + 1 then v else 0), red 24 (A 1 + if n = ((1 : Nat) : Int) + 1 then v else 0), red 24 (A 2 + if n = ((2 : Nat) : Int) + 1 then v else 0)] := by
  subst hn
  have : c = 0 ∨ c = 1 ∨ c = 2 := by omega
  rcases this with rfl | rfl | rfl <;> simp
theorem get3 {A : Nat → Int} {c : Nat} (hc : c < 3) : List.getD [red 24 (A 0), red 24 (A 1), red 24 (A 2)] (Int.toNat (c : Int)) (0, 0) = red 24 (A c) := by
  have : c = 0 ∨ c = 1 ∨ c = 2 := by omega
  rcases this with rfl | rfl | rfl <;> rfl
theorem kv_loop {l : List Nd} {bs : List Bx} (hl : l.length ≤ 1000000) (hn : ∀ n ∈ l, n.1 = 0 ∨ n.1 = 1 ∨ n.1 = 2 ∨ n.1 = 3) (hb : ∀ b ∈ bs, bOkB b = true) (hlen : bs.length = (lvs l).length) : ∀ (m j : Nat) (A : Nat → Int), j + m = (lvs l).length →
    (∀ x : Nat, 0 ≤ A x ∧ A x + ksum ((x : Int) + 1) ((lvs l).drop j) (bs.drop j) ≤ 137438953472) →
    i_kindVolumes_1007 l bs true [red 24 (A 0), red 24 (A 1), red 24 (A 2)] (plc 0 l) ((plc 0 l).length : Int) (j : Int) =
      some ([red 24 (A 0 + ksum (((0 : Nat) : Int) + 1) ((lvs l).drop j) (bs.drop j)), red 24 (A 1 + ksum (((1 : Nat) : Int) + 1) ((lvs l).drop j) (bs.drop j)), red 24 (A 2 + ksum (((2 : Nat) : Int) + 1) ((lvs l).drop j) (bs.drop j))], true)
  | 0, j, A, hj, _ => by
    rw [Ei_kindVolumes_1007, show j = (plc 0 l).length by rw [plc_len]; omega, cf ltf, plc_len, List.drop_length]
    simp [ksum]
  | m + 1, j, A, hj, hA => by
    have hlt : j < (lvs l).length := by omega
    have hlp : j < (plc 0 l).length := by rw [plc_len]; exact hlt
    have hlb : j < bs.length := by omega
    have hbj := hb _ (List.getElem_mem hlb)
    obtain ⟨p, hp, q1, q2⟩ := plc_at l 0 j hlp hlt
    rw [Nat.zero_add] at q1
    have hlvl : (lvs l).length ≤ l.length := List.length_filter_le ..
    have hne : (lvs l)[j].1 ≠ 0 := by
      have := List.getElem_mem hlt
      have := (List.mem_filter.1 this).2
      simpa using this
    have h123 := hn _ (List.getElem_mem hp)
    rw [q2] at h123
    obtain ⟨c, hc, ec⟩ : ∃ c : Nat, c < 3 ∧ (lvs l)[j].1 = (c : Int) + 1 := by
      rcases h123 with h | h | h | h
      · exact absurd h hne
      · exact ⟨0, by omega, h⟩
      · exact ⟨1, by omega, h⟩
      · exact ⟨2, by omega, h⟩
    have hw : IntKind.wrap .i64 ((lvs l)[j].1 - 1) = (c : Int) := by rw [ec, wrap64 (by omega) (by omega)]; omega
    have hv := vv_nn hbj
    have hAc := hA c
    have hd : ∀ x : Nat, ksum ((x : Int) + 1) ((lvs l).drop j) (bs.drop j) = (if (lvs l)[j].1 = (x : Int) + 1 then vv bs[j] else 0) + ksum ((x : Int) + 1) ((lvs l).drop (j + 1)) (bs.drop (j + 1)) := by
      intro x
      rw [List.drop_eq_getElem_cons hlt, List.drop_eq_getElem_cons hlb, ksum]
    have hkn := ksum_bd (kind := (c : Int) + 1) (ns := (lvs l).drop (j + 1)) (bs := bs.drop (j + 1)) fun b h => hb b (List.mem_of_mem_drop h)
    have hAv : A c + vv bs[j] ≤ 137438953472 := by
      have := hAc.2
      rw [hd c, if_pos ec] at this
      omega
    have hkeep : ∀ a k : Int, i_reckoner_keep true a k true = some (true, a, k) := fun _ _ => rfl
    have hA1 : (A c).natAbs ≤ 1099511627776 := by have := hAc.1; omega
    have hsum : i_reckoner_sum true (red 24 (A c)).1 (red 24 (A c)).2 (vp bs[j]).1 (vp bs[j]).2 = some (true, red 24 (A c + vv bs[j])) := by
      have e : dmk 24 (A c + vd24 (vp bs[j]).1 (vp bs[j]).2) = (red 24 (A c + vv bs[j]), true) := dmk_ok (Nat.le_refl _) (by show (A c + vv bs[j]).natAbs ≤ _; have := hAc.1; omega)
      unfold i_reckoner_sum
      rw [bsome (sumOf_v (red_ok (Nat.le_refl _) hA1) (vp_ok hbj)), r24, e]
      exact bsome (hkeep _ _)
    have h3 : c < List.length [red 24 (A 0), red 24 (A 1), red 24 (A 2)] := hc
    rw [Ei_kindVolumes_1007, ct (ltt hlp), ct (bA hlp), ct (nblt hlp), gD hlp, q1, gD hp, q2, hw, ct (bA hp), ct (bA h3), ct (nblt h3), ct (bA hlb), ct (nblt hlb), gD hlb, bsome (boxVolume_v hbj), get3 hc, bsome (hkeep _ _), bsome hsum, ct (bA h3), ct (nblt h3), Int.toNat_natCast, sc hlp (by rw [plc_len]; omega)]
    refine (congrArg (fun o => i_kindVolumes_1007 l bs true o (plc 0 l) _ _) (set3 hc ec)).trans ?_
    have := kv_loop hl hn hb hlen m (j + 1) (fun x => A x + if (lvs l)[j].1 = (x : Int) + 1 then vv bs[j] else 0) (by omega) (fun x => by
      have := hA x
      rw [hd x] at this
      constructor
      · show 0 ≤ A x + _
        split <;> omega
      · show A x + _ + _ ≤ _
        omega)
    refine this.trans ?_
    rw [hd 0, hd 1, hd 2]
    simp only [Int.add_assoc]
theorem lbx_cnt : ∀ {l : List Nd} {st bs : List Bx}, lbx l st = some bs → ctn l st.length = some [] → bs.length = (lvs l).length
  | [], st, bs, h, hc => by
    have : bs = [] := by simpa [lbx] using h.symm
    subst this; rfl
  | n :: l, [], bs, h, hc => by simp [ctn] at hc
  | n :: l, x :: st, bs, h, hc => by
    unfold lbx at h
    simp only [List.length_cons, ctn] at hc
    by_cases h0 : n.1 = 0
    · rw [if_pos h0] at h hc
      have e : lvs (n :: l) = lvs l := by unfold lvs; rw [List.filter_cons]; simp [h0]
      cases hh : (hlv x n.2.toNat).2 with
      | false => rw [hlv_no hh] at h; cases h
      | true =>
        obtain ⟨a, b, e2, _⟩ := hlv_ok hh
        rw [e2] at h
        rw [e]
        exact lbx_cnt h hc
    · rw [if_neg h0] at h hc
      have e : lvs (n :: l) = n :: lvs l := by unfold lvs; rw [List.filter_cons]; simp [h0]
      cases hr : lbx l st with
      | none => rw [hr] at h; cases h
      | some r =>
        rw [hr] at h
        cases h
        rw [e, List.length_cons, List.length_cons, lbx_cnt hr hc]
/-- What is known of the boxes that are asked for. -/
theorem asked_parts {b : Bx} {l : List Nd} {bs : List Bx} (ha : asked b l = some bs) : bOkB b = true ∧ isT (b.2.1.length : Int) l = true ∧ lbx l [b] = some bs ∧ (∀ c ∈ bs, bOkB c = true ∧ c.2.1.length = b.2.1.length) ∧ bs.length = (lvs l).length ∧ vsum bs ≤ 549755813888 ∧ (∀ n ∈ l, n.1 = 0 ∨ n.1 = 1 ∨ n.1 = 2 ∨ n.1 = 3) := by
  have hbt : bOkB b = true ∧ isT (b.2.1.length : Int) l = true ∧ lbx l [b] = some bs := by
    unfold asked at ha
    cases hc : bOkB b && isT (b.2.1.length : Int) l with
    | false => rw [hc] at ha; cases ha
    | true =>
      rw [hc] at ha
      rw [Bool.and_eq_true] at hc
      exact ⟨hc.1, hc.2, ha⟩
  obtain ⟨hbb, htt, hlb⟩ := hbt
  obtain ⟨t1, t2, t3⟩ := isT_parts htt
  have h1 : ∀ c ∈ [b], bOkB c = true ∧ c.2.1.length = b.2.1.length := fun c hc => by rw [List.mem_singleton.1 hc]; exact ⟨hbb, rfl⟩
  refine ⟨hbb, htt, hlb, lbx_ok (st := [b]) h1 hlb, lbx_cnt hlb t3, ?_, fun n hn => ?_⟩
  · have := lbx_vol t2 h1 hlb
    have h2 := volB_bd hbb
    simp only [vsum] at this
    omega
  · have := t2 n hn
    unfold vN at this
    split at this
    · exact .inl ‹_›
    · split at this
      · rename_i h; rcases h with h | h
        · exact .inr (.inl h)
        · exact .inr (.inr (.inl h))
      · split at this
        · exact .inr (.inr (.inr ‹_›))
        · cases this
theorem kindVolumes_v {b : Bx} {l : List Nd} {bs : List Bx} (hl : l.length ≤ 1000000) (ha : asked b l = some bs) : i_kindVolumes b l = some ([red 24 (ksum 1 (lvs l) bs), red 24 (ksum 2 (lvs l) bs), red 24 (ksum 3 (lvs l) bs)], true) := by
  obtain ⟨hbb, htt, hlb, hbs, hlen, hsum, hn⟩ := asked_parts ha
  unfold i_kindVolumes
  rw [bsome (leafBoxes_v hl hbb htt), hlb]
  show (i_leafPlaces l).bind _ = _
  rw [bsome (leafPlaces_v hl)]
  have := kv_loop hl hn (fun c hc => (hbs c hc).1) hlen (lvs l).length 0 (fun _ => 0) (by omega) (fun x => ⟨Int.le_refl _, by
    have := ksum_bd (kind := (x : Int) + 1) (ns := lvs l) (bs := bs) fun c hc => (hbs c hc).1
    rw [List.drop_zero, List.drop_zero]; omega⟩)
  rw [red_zero, List.drop_zero, List.drop_zero, Int.zero_add, Int.zero_add, Int.zero_add] at this
  exact this
end Go.Proofs.YtkahcjnkmbbplaaE
