/- Plain lemmas on what the printed functions come to. -/
import Derived.Test.YtchdegcfohegfaaMG
set_option maxRecDepth 100000
set_option linter.unusedVariables false
set_option linter.unusedSimpArgs false
namespace Go.Proofs.YtchdegcfohegfaaE
/-! fitw -/
theorem sd1 (h : Nat) : Int.fdiv (h : Int) (2 ^ min (Int.toNat (IntKind.wrap .i64 (0 - -1))) (IntKind.bits .u64)) = ((h / 2 : Nat) : Int) := by
  rw [show (2 : Int) ^ min (Int.toNat (IntKind.wrap .i64 (0 - -1))) (IntKind.bits .u64) = ((2 : Nat) : Int) from by decide, fdiv_nat]
theorem sd2 {h l : Nat} (hh : h < 2 ^ 64) (hl : l < 2 ^ 64) : IntKind.wrap .u64 (((BitVec.ofInt (IntKind.bits .u64) (Int.fdiv (l : Int) (2 ^ min (Int.toNat (IntKind.wrap .i64 (0 - -1))) (IntKind.bits .u64))) ||| BitVec.ofInt (IntKind.bits .u64) (IntKind.wrap .u64 ((h : Int) * 2 ^ min (Int.toNat (IntKind.wrap .i64 (64 - IntKind.wrap .i64 (0 - -1)))) (IntKind.bits .u64)))).toNat : Nat) : Int) = ((l / 2 + (h % 2) * 2 ^ 63 : Nat) : Int) := by
  have hor : l / 2 ||| (h % 2) * 2 ^ 63 = l / 2 + (h % 2) * 2 ^ 63 := by
    have := Nat.two_pow_add_eq_or_of_lt (show l / 2 < 2 ^ 63 by omega) (h % 2)
    rw [Nat.or_comm, Nat.mul_comm (h % 2), ← this, Nat.add_comm]
  rw [sd1, show (2 : Int) ^ min (Int.toNat (IntKind.wrap .i64 (64 - IntKind.wrap .i64 (0 - -1)))) (IntKind.bits .u64) = ((2 ^ 63 : Nat) : Int) from by decide]
  rw [show (h : Int) * ((2 ^ 63 : Nat) : Int) = ((h * 2 ^ 63 : Nat) : Int) from (Int.natCast_mul h (2 ^ 63)).symm, wrapu ((h * 2 ^ 63 : Nat) : Int), show (((h * 2 ^ 63 : Nat) : Int) % 18446744073709551616) = (((h % 2) * 2 ^ 63 : Nat) : Int) by omega]
  rw [bits64, bor (by omega) (by omega), hor, wrapu_nat (by omega)]
theorem isZero_v (s : Bool) (h l : Nat) : i_wide_isZero s h l = some (decide (h * 2 ^ 64 + l = 0)) := by
  unfold i_wide_isZero
  by_cases hh : h = 0
  · subst hh; simp
  · rw [cf (by simp; omega)]; congr 1; simp; omega
theorem dmk_form {k : Nat} {n : Int} (h : k = 0 ∨ n % 2 ≠ 0) : dmk k n = bif decide (k ≤ 24 ∧ n.natAbs ≤ 1099511627776) then ((n, (k : Int)), true) else ((0, 0), false) := by
  unfold dmk
  rw [red_form h]
  congr 1
  unfold dOk
  rw [decide_eq_decide]
  constructor
  · rintro ⟨h1, h2, _⟩; omega
  · rintro ⟨h1, h2⟩
    refine ⟨by omega, by omega, ?_⟩
    rcases h with h | h
    · left; omega
    · right; intro e; exact h (tmod2.1 e)
theorem fitFin {s : Bool} {h l k : Nat} (hh : h < 2 ^ 64) (hl : l < 2 ^ 64) (hf : k = 0 ∨ wv s h l % 2 ≠ 0) :
    (bif decide (24 < (k : Int)) then some (((0 : Int), (0 : Int)), false) else bif decide (0 < (h : Int)) then some ((0, 0), false) else bif decide (1099511627776 < (l : Int)) then some ((0, 0), false) else
      bif s then some ((IntKind.wrap .i64 (0 - IntKind.wrap .i64 (l : Int)), (k : Int)), true) else some ((IntKind.wrap .i64 (l : Int), (k : Int)), true)) = some (dmk k (wv s h l)) := by
  have ha : (wv s h l).natAbs = h * 2 ^ 64 + l := by unfold wv; cases s <;> simp <;> omega
  rw [dmk_form hf, ha]
  by_cases h1 : 24 < k
  · rw [ct (decide_eq_true (by omega)), cf (decide_eq_false (by omega))]
  · rw [cf (decide_eq_false (by omega))]
    by_cases h2 : 0 < h
    · rw [ct (by simpa using h2), cf (decide_eq_false (by omega))]
    · rw [cf (by simpa using h2)]
      by_cases h3 : 1099511627776 < l
      · rw [ct (by simp; omega), cf (decide_eq_false (by omega))]
      · rw [cf (by simp; omega), ct (c := decide (k ≤ 24 ∧ h * 2 ^ 64 + l ≤ 1099511627776)) (decide_eq_true (by omega)), wrap64 (n := (l : Int)) (by omega) (by omega), wrap64 (n := 0 - (l : Int)) (by omega) (by omega)]
        obtain rfl : h = 0 := by omega
        unfold wv
        cases s <;> simp
theorem fit_loop {s : Bool} {t0 t1 : Int} : ∀ (k h l : Nat), k ≤ 1000 → h < 2 ^ 64 → l < 2 ^ 64 → i_wide_fit_1003 (k : Int) s (h : Int) (l : Int) t0 t1 = some (dmk k (wv s h l))
  | 0, h, l, _, hh, hl => by
    rw [Ei_wide_fit_1003, cf (by decide)]
    exact fitFin hh hl (.inl rfl)
  | k + 1, h, l, hk, hh, hl => by
    rw [Ei_wide_fit_1003, ct (decide_eq_true (by omega))]
    by_cases he : l % 2 = 0
    · rw [ct (decide_eq_true (tmod2.2 (by omega))), sd1, sd2 hh hl, wrap64 (n := ((k + 1 : Nat) : Int) - 1) (by omega) (by omega), show ((k + 1 : Nat) : Int) - 1 = (k : Int) by omega, fit_loop k _ _ (by omega) (by omega) (by omega)]
      congr 1
      have := @dmk_scale k 1 (wv s (h / 2) (l / 2 + h % 2 * 2 ^ 63))
      rw [← this]
      congr 1
      unfold wv
      cases s <;> simp <;> omega
    · rw [cf (decide_eq_false (by rw [tmod2]; omega))]
      exact fitFin hh hl (.inr (by unfold wv; cases s <;> simp <;> omega))
theorem fit_v {s : Bool} {h l k : Nat} (hk : k ≤ 1000) (hh : h < 2 ^ 64) (hl : l < 2 ^ 64) : i_wide_fit s (h : Int) (l : Int) (k : Int) = some (dmk k (wv s h l)) := by
  unfold i_wide_fit
  rw [bsome (isZero_v ..)]
  by_cases h0 : h * 2 ^ 64 + l = 0
  · rw [ct (by simpa using h0)]
    have : wv s h l = 0 := by unfold wv; rw [h0]; cases s <;> rfl
    rw [this, dmk_zero]
  · rw [cf (by simpa using h0)]
    exact fit_loop k h l hk hh hl
/-! sign -/
theorem l1Sign_v (n : Int) : s_l1Sign n = some (Int.sign n) := by
  unfold s_l1Sign
  simp only [Bool.cond_decide]
  split
  · rw [Int.sign_eq_one_of_pos (by assumption)]
  · split
    · rw [Int.sign_eq_neg_one_of_neg (by assumption)]
    · rw [show n = 0 by omega]; rfl
theorem sign_ge {n : Int} : 0 ≤ Int.sign n ↔ 0 ≤ n := by
  rcases Int.lt_trichotomy n 0 with h | h | h
  · rw [Int.sign_eq_neg_one_of_neg h]; omega
  · subst h; simp
  · rw [Int.sign_eq_one_of_pos h]; omega
/-! dycmp -/
theorem dyDown_v {a b : Int} (hb : 0 < b) (h1 : -4611686018427387904 ≤ a) (h2 : a ≤ 4611686018427387904) : s_dyDown a b = some (a / b) := by
  unfold s_dyDown
  rw [ct (by simp; omega), ct (by simp; omega)]
  have e := Int.mul_tdiv_add_tmod a b
  have q1 : Int.natAbs (Int.tdiv a b) ≤ a.natAbs := Int.natAbs_tdiv_le_natAbs a b
  rw [wrap64 (n := Int.tdiv a b) (by omega) (by omega)]
  by_cases hn : Int.tmod a b < 0
  · rw [ct (by simpa using hn), wrap64 (by omega) (by omega)]
    have hm : -b < Int.tmod a b := by
      have := Int.natAbs_tmod a b
      have h3 : a.natAbs % b.natAbs < b.natAbs := Nat.mod_lt _ (by omega)
      omega
    have := ((Int.ediv_emod_unique (a := a) (b := b) (r := Int.tmod a b + b) (q := Int.tdiv a b - 1) hb).2 ⟨by rw [Int.mul_sub]; omega, by omega, by omega⟩).1
    rw [this]
  · rw [cf (by simpa using hn)]
    have hm : Int.tmod a b < b := by
      have := Int.natAbs_tmod a b
      have h3 : a.natAbs % b.natAbs < b.natAbs := Nat.mod_lt _ (by omega)
      omega
    have := ((Int.ediv_emod_unique (a := a) (b := b) (r := Int.tmod a b) (q := Int.tdiv a b) hb).2 ⟨by omega, by omega, by omega⟩).1
    rw [this]
theorem p2i (k : Nat) : (0 : Int) < 2 ^ k := Int.pow_pos (by decide)
theorem p2m {k n : Nat} (h : k ≤ n) : (2 : Int) ^ k ≤ 2 ^ n := by exact_mod_cast Nat.pow_le_pow_right (by decide) h
theorem p2a {k n : Nat} : (2 : Int) ^ (k + n) = 2 ^ k * 2 ^ n := Int.pow_add ..
theorem dyFloor_v {N K : Int} (h : dOk N K = true) : s_dyFloor N K = some (N / 2 ^ K.toNat) := by
  obtain ⟨h1, h2, _⟩ := dOk_iff.1 h
  unfold s_dyFloor
  rw [bsome (dyPower_v h1.1 (by omega)), bret, dyDown_v (p2i _) (by omega) (by omega)]
theorem dyAt_loop {k : Nat} (hk : k ≤ 1000) (c : Int) : ∀ (m i : Nat) (N : Int), i + m = k → N.natAbs * 2 ^ m ≤ 1152921504606846976 → s_dyAt_1004 (k : Int) N c (i : Int) = some (N * 2 ^ m, true)
  | 0, i, N, hi, _ => by
    rw [Es_dyAt_1004, show i = k by omega, cf ltf]; simp
  | m + 1, i, N, hi, hN => by
    have c60 : IntKind.wrap .i64 (1 * 2 ^ min (Int.toNat (IntKind.wrap .u64 60)) (IntKind.bits .i64)) = 1152921504606846976 := by decide
    have c61 : IntKind.wrap .i64 (0 - 1152921504606846976) = -1152921504606846976 := by decide
    have hp : 0 < 2 ^ m := Nat.two_pow_pos m
    have h1 : N.natAbs * 1 ≤ N.natAbs * 2 ^ (m + 1) := Nat.mul_le_mul_left _ (Nat.two_pow_pos _)
    have hlt : i < k := by omega
    rw [Es_dyAt_1004, ct (ltt hlt), c60, c61, bsome (l1In_v ..), cf (by simp; omega), wrap64 (n := N * 2) (by omega) (by omega), sc hlt (by omega),
      dyAt_loop hk c m (i + 1) (N * 2) (by omega) (by rw [Int.natAbs_mul, Nat.mul_assoc, show Int.natAbs 2 * 2 ^ m = 2 ^ (m + 1) by rw [Nat.pow_succ, Nat.mul_comm]; rfl]; exact hN), Int.mul_assoc, Int.pow_succ, Int.mul_comm 2]
theorem dyAt_v {N K : Int} {k : Nat} (hK : 0 ≤ K) (hk : K ≤ k) (hk2 : k ≤ 1000) (hN : N.natAbs * 2 ^ (k - K.toNat) ≤ 1152921504606846976) : s_dyAt N K (k : Int) = some (N * 2 ^ (k - K.toNat), true) := by
  unfold s_dyAt
  by_cases h : N = 0
  · rw [ct (by simpa using h), h]; simp
  · rw [cf (by simpa using h)]
    obtain ⟨n, rfl⟩ := Int.eq_ofNat_of_zero_le hK
    have hn : n ≤ k := by omega
    exact dyAt_loop hk2 _ (k - n) n N (by omega) hN
theorem v24_floor {N K : Int} (h : dOk N K = true) : (N / 2 ^ K.toNat) * 16777216 ≤ vd24 N K ∧ vd24 N K < (N / 2 ^ K.toNat) * 16777216 + 16777216 ∧ (N - N / 2 ^ K.toNat * 2 ^ K.toNat) * 2 ^ (24 - K.toNat) = vd24 N K - N / 2 ^ K.toNat * 16777216 ∧ 0 ≤ N - N / 2 ^ K.toNat * 2 ^ K.toNat ∧ N - N / 2 ^ K.toNat * 2 ^ K.toNat < 2 ^ K.toNat := by
  obtain ⟨h1, h2, _⟩ := dOk_iff.1 h
  have e24 : (16777216 : Int) = 2 ^ K.toNat * 2 ^ (24 - K.toNat) := by rw [← p2a, show K.toNat + (24 - K.toNat) = 24 by omega]; rfl
  have h3 := Int.emod_nonneg N (Int.ne_of_gt (p2i K.toNat))
  have h4 := Int.emod_lt_of_pos N (p2i K.toNat)
  have h5 := Int.mul_ediv_add_emod N (2 ^ K.toNat)
  have h6 : N - N / 2 ^ K.toNat * 2 ^ K.toNat = N % 2 ^ K.toNat := by rw [Int.mul_comm]; omega
  have e : (N - N / 2 ^ K.toNat * 2 ^ K.toNat) * 2 ^ (24 - K.toNat) = vd24 N K - N / 2 ^ K.toNat * 16777216 := by
    rw [Int.sub_mul, e24, Int.mul_assoc]; rfl
  have h7 : 0 ≤ (N - N / 2 ^ K.toNat * 2 ^ K.toNat) * 2 ^ (24 - K.toNat) := Int.mul_nonneg (by omega) (Int.le_of_lt (p2i _))
  have h8 : (N - N / 2 ^ K.toNat * 2 ^ K.toNat) * 2 ^ (24 - K.toNat) < 16777216 := by
    rw [e24]; exact Int.mul_lt_mul_of_pos_right (by omega) (p2i _)
  exact ⟨by omega, by omega, e, by omega, by omega⟩
theorem dyCmp_v {N K M L : Int} (ha : dOk N K = true) (hb : dOk M L = true) : s_dyCmp N K M L = some (Int.sign (vd24 N K - vd24 M L)) := by
  obtain ⟨a1, a2, _⟩ := dOk_iff.1 ha
  obtain ⟨b1, b2, _⟩ := dOk_iff.1 hb
  obtain ⟨a3, a4, a5, a6, a7⟩ := v24_floor ha
  obtain ⟨b3, b4, b5, b6, b7⟩ := v24_floor hb
  have pa := p2m (show K.toNat ≤ 24 by omega)
  have pb := p2m (show L.toNat ≤ 24 by omega)
  have qa : (N / 2 ^ K.toNat).natAbs ≤ N.natAbs := Int.natAbs_ediv_le_natAbs _ _
  have qb : (M / 2 ^ L.toNat).natAbs ≤ M.natAbs := Int.natAbs_ediv_le_natAbs _ _
  unfold s_dyCmp
  rw [bsome (dyFloor_v ha), bsome (dyFloor_v hb)]
  by_cases h : N / 2 ^ K.toNat = M / 2 ^ L.toNat
  · rw [cf (by simpa using h), bsome (dyPower_v a1.1 (by omega)), wrap64 (n := N / 2 ^ K.toNat * 2 ^ K.toNat) (by omega) (by omega), wrap64 (n := N - _) (by omega) (by omega)]
    have bound : ∀ {x : Int} {k : Nat}, k ≤ 24 → 0 ≤ x → x < 2 ^ k → x.natAbs * 2 ^ (24 - k) ≤ 1152921504606846976 := by
      intro x k hk h0 h1
      have : (x.natAbs * 2 ^ (24 - k) : Nat) < 2 ^ k * 2 ^ (24 - k) := Nat.mul_lt_mul_of_pos_right (by
        have : (x.natAbs : Int) < ((2 ^ k : Nat) : Int) := by simpa using (by omega : (x.natAbs : Int) < 2 ^ k)
        omega) (Nat.two_pow_pos _)
      rw [← Nat.pow_add, show k + (24 - k) = 24 by omega] at this
      omega
    rw [show (24 : Int) = ((24 : Nat) : Int) from rfl, bsome (dyAt_v (k := 24) a1.1 (by omega) (by omega) (bound (by omega) a6 a7)), bsome (dyPower_v b1.1 (by omega)), wrap64 (n := M / 2 ^ L.toNat * 2 ^ L.toNat) (by omega) (by omega), wrap64 (n := M - _) (by omega) (by omega),
      bsome (dyAt_v (k := 24) b1.1 (by omega) (by omega) (bound (by omega) b6 b7)), bret]
    simp only
    rw [a5, b5, wrap64 (by omega) (by omega), l1Sign_v]
    congr 2
    omega
  · rw [ct (by simpa using h), wrap64 (by omega) (by omega), bret, l1Sign_v]
    congr 1
    rcases Int.lt_trichotomy (N / 2 ^ K.toNat) (M / 2 ^ L.toNat) with hh | hh | hh
    · rw [Int.sign_eq_neg_one_of_neg (by omega), Int.sign_eq_neg_one_of_neg (by omega)]
    · exact absurd hh h
    · rw [Int.sign_eq_one_of_pos (by omega), Int.sign_eq_one_of_pos (by omega)]
/-! kvA -/
/-- A box's volume as a number. -/
def vp (b : Bx) : Int × Int := red (b.2.1.length * b.1.toNat) (prd (wds b.2.1 b.2.2))
def vv (b : Bx) : Int := vd24 (vp b).1 (vp b).2
theorem vp_k {b : Bx} (hb : bOkB b = true) : b.2.1.length * b.1.toNat ≤ 24 := by
  obtain ⟨p1, p2, p3, p4, p5⟩ := bOk_parts hb
  exact Nat.mul_le_mul p4 (show b.1.toNat ≤ 8 by omega)
theorem vp_ok {b : Bx} (hb : bOkB b = true) : dOk (vp b).1 (vp b).2 = true := red_ok (vp_k hb) (by have := volB_bd hb; omega)
theorem vv_vol {b : Bx} (hb : bOkB b = true) : 8 * vv b = volB b := by
  unfold vv vp
  rw [red_v24 (vp_k hb)]
  unfold volB vol
  have hk := vp_k hb
  rw [show 27 - b.2.1.length * b.1.toNat = (24 - b.2.1.length * b.1.toNat) + 3 by omega, Int.pow_add]
  grind
theorem vloop {R : Type} {f : Int → Nat → R} {w : List Int} (hw : ∀ x ∈ w, 0 ≤ x ∧ x ≤ 4096) (hl : w.length ≤ 3)
    (h1 : ∀ n i (h : i < w.length), 0 ≤ n → n ≤ 16777216 → f n i = f (n * w[i]) (i + 1)) : f 1 0 = f (prd w) w.length := by
  have main : ∀ m i n, i + m = w.length → 0 ≤ n → n ≤ 4096 ^ i → f n i = f (n * prd (w.drop i)) w.length := by
    intro m
    induction m with
    | zero =>
      intro i n hi _ _
      rw [show i = w.length by omega, List.drop_length]
      simp [prd]
    | succ m ih =>
      intro i n hi h0 hn
      have hlt : i < w.length := by omega
      have hp : (4096 : Int) ^ i ≤ 16777216 := by
        have : i = 0 ∨ i = 1 ∨ i = 2 := by omega
        rcases this with rfl | rfl | rfl <;> decide
      obtain ⟨w1, w2⟩ := hw w[i] (List.getElem_mem hlt)
      rw [h1 n i hlt h0 (Int.le_trans hn hp), ih (i + 1) _ (by omega) (Int.mul_nonneg h0 w1) (by rw [Int.pow_succ]; exact Int.mul_le_mul hn w2 w1 (Int.pow_nonneg (by decide))), List.drop_eq_getElem_cons hlt, prd, Int.mul_assoc]
  have := main w.length 0 1 (by omega) (by decide) (by decide)
  rw [this, List.drop_zero, Int.one_mul]
theorem wds_4096 {b : Bx} (hb : bOkB b = true) : ∀ w ∈ wds b.2.1 b.2.2, 0 ≤ w ∧ w ≤ 4096 := by
  intro w hw
  have h1 := wds_bd hb w hw
  obtain ⟨p1, p2, _⟩ := bOk_parts hb
  have h2 : (2 : Int) ^ b.1.toNat ≤ 256 := p2le (show b.1.toNat ≤ 8 by omega)
  omega
theorem wds_at {b : Bx} (hb : bOkB b = true) {i : Nat} (hi : i < b.2.1.length) (hw : i < (wds b.2.1 b.2.2).length) : IntKind.wrap .i64 (List.getD b.2.2 (Int.toNat (i : Int)) 0 - List.getD b.2.1 (Int.toNat (i : Int)) 0) = (wds b.2.1 b.2.2)[i] := by
  obtain ⟨_, _, _, _, p5⟩ := bOk_parts hb
  have := box_at hb hi (by omega)
  rw [gD hi, gD (show i < b.2.2.length by omega), wrap64 (by omega) (by omega)]
  simp [wds]
theorem vk_cast {b : Bx} (hb : bOkB b = true) : IntKind.wrap .i64 ((b.2.1.length : Int) * b.1) = ((b.2.1.length * b.1.toNat : Nat) : Int) := by
  obtain ⟨p1, p2, p3, p4, p5⟩ := bOk_parts hb
  have := vp_k hb
  have e : (b.2.1.length : Int) * b.1 = ((b.2.1.length * b.1.toNat : Nat) : Int) := by rw [Int.natCast_mul, Int.toNat_of_nonneg p1]
  rw [e, wrap64 (by omega) (by omega)]
theorem bxVolume_v {b : Bx} (hb : bOkB b = true) : s_bxVolume b.1 b.2.1 b.2.2 = some (vp b) := by
  obtain ⟨p1, p2, p3, p4, p5⟩ := bOk_parts hb
  unfold s_bxVolume
  refine (vloop (f := fun n i => s_bxVolume_1003 b.1 b.2.1 b.2.2 0 0 n b.2.1 (b.2.1.length : Int) (i : Int)) (wds_4096 hb) (by rw [wds_len p5]; exact p4) (fun n i h h0 hn => ?_)).trans ?_
  · show s_bxVolume_1003 _ _ _ _ _ _ _ _ _ = s_bxVolume_1003 _ _ _ _ _ _ _ _ _
    have hi : i < b.2.1.length := by rw [wds_len p5] at h; exact h
    obtain ⟨w1, w2⟩ := wds_4096 hb _ (List.getElem_mem h)
    rw [Es_bxVolume_1003, ct (ltt hi), ct (bA hi), ct (bA (by omega)), wds_at hb hi h, sc hi (by omega)]
    have : n * (wds b.2.1 b.2.2)[i] ≤ 16777216 * 4096 := Int.mul_le_mul hn w2 w1 (by decide)
    have h3 : 0 ≤ n * (wds b.2.1 b.2.2)[i] := Int.mul_nonneg h0 w1
    rw [wrap64 (n := n * (wds b.2.1 b.2.2)[i]) (by omega) (by omega)]
  · show s_bxVolume_1003 _ _ _ _ _ _ _ _ ((wds b.2.1 b.2.2).length : Int) = _
    have hv := volB_bd hb
    rw [wds_len p5, Es_bxVolume_1003, cf ltf, vk_cast hb, bsome (bxNumber_v (by omega) (by have := vp_k hb; omega) (by omega)), Int.toNat_natCast]
    rfl
theorem boxVolume_v {b : Bx} (hb : bOkB b = true) : i_Box_volume b = some (vp b, true) := by
  obtain ⟨p1, p2, p3, p4, p5⟩ := bOk_parts hb
  unfold i_Box_volume
  refine (vloop (f := fun n i => i_Box_volume_1003 b 0 0 n (b.2.1.length : Int) (i : Int)) (wds_4096 hb) (by rw [wds_len p5]; exact p4) (fun n i h h0 hn => ?_)).trans ?_
  · show i_Box_volume_1003 _ _ _ _ _ _ = i_Box_volume_1003 _ _ _ _ _ _
    have hi : i < b.2.1.length := by rw [wds_len p5] at h; exact h
    obtain ⟨w1, w2⟩ := wds_4096 hb _ (List.getElem_mem h)
    have hlen : i_Box_length b (i : Int) = some (wds b.2.1 b.2.2)[i] := by
      unfold i_Box_length
      rw [ct (bA (by omega)), ct (bA hi), wds_at hb hi h]
    rw [Ei_Box_volume_1003, ct (ltt hi), bsome hlen, sc hi (by omega)]
    have : n * (wds b.2.1 b.2.2)[i] ≤ 16777216 * 4096 := Int.mul_le_mul hn w2 w1 (by decide)
    have h3 : 0 ≤ n * (wds b.2.1 b.2.2)[i] := Int.mul_nonneg h0 w1
    rw [wrap64 (n := n * (wds b.2.1 b.2.2)[i]) (by omega) (by omega)]
  · show i_Box_volume_1003 _ _ _ _ _ ((wds b.2.1 b.2.2).length : Int) = _
    obtain ⟨v1, v2, _⟩ := volB_bd hb
    have hk := vp_k hb
    have hf := fit_v (s := decide (prd (wds b.2.1 b.2.2) < 0)) (h := 0) (l := (prd (wds b.2.1 b.2.2)).natAbs) (k := b.2.1.length * b.1.toNat) (by omega) (by decide) (by omega)
    rw [wv_of (N := prd (wds b.2.1 b.2.2)) (k := 0) (by simp), dmk_ok (by omega) (by omega)] at hf
    rw [wds_len p5, Ei_Box_volume_1003, cf ltf, bsome (wideOf_v (by omega) (by omega)), Int.mul_comm b.1, vk_cast hb]
    refine (bsome hf).trans ?_
    show some _ = some _
    rw [show prd (wds b.2.1 b.2.2) * 2 ^ 0 = prd (wds b.2.1 b.2.2) by omega]
    rfl
end Go.Proofs.YtchdegcfohegfaaE
