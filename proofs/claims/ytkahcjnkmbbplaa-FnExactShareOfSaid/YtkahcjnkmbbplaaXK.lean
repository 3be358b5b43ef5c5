/- Plain lemmas on what the printed functions come to. -/
import Derived.Test.YtkahcjnkmbbplaaXI
set_option maxRecDepth 100000
set_option linter.unusedVariables false
set_option linter.unusedSimpArgs false
namespace Go.Proofs.YtkahcjnkmbbplaaE
/-! quot -/
theorem ndt {p : Prop} [Decidable p] (h : ¬p) : (!decide p) = true := by rw [decide_eq_false h]; rfl
theorem div64_v {l d : Nat} (hd : 0 < d) (hl : l < 2 ^ 64) : bits_Div64 0 (l : Int) (d : Int) = some (((l / d : Nat) : Int), ((l % d : Nat) : Int)) := by
  have hq : l / d ≤ l := Nat.div_le_self ..
  have e1 : Int.tdiv (l : Int) (d : Int) = ((l / d : Nat) : Int) := rfl
  have e2 : Int.tmod (l : Int) (d : Int) = ((l % d : Nat) : Int) := rfl
  unfold bits_Div64
  rw [cf (decide_eq_false (by omega)), Ebits_Div64_3, cf (decide_eq_false (by omega)), Ebits_Div64_5, ct (by decide), ct (ndt (by omega)), ct (ndt (by omega)), e1, e2, wrapu_nat (by omega)]
theorem shiftDn_v {s : Bool} {l j : Nat} (hl : l < 2 ^ 64) (hj : j < 64) : i_wide_shift s 0 (l : Int) (-(j : Int)) = some (s, 0, ((l / 2 ^ j : Nat) : Int)) := by
  cases j with
  | zero =>
    obtain ⟨h', l', e1, e2, e3, e4⟩ := shiftUp_v (s := s) (h := 0) (l := l) (k := 0) hl (by decide) (by omega)
    have h1 : h' = 0 := by omega
    have h2 : l' = l := by omega
    subst h1 h2
    simpa using e1
  | succ j =>
    have h0 : Int.fdiv 0 ((2 : Int) ^ min (j + 1) 64) = 0 := Int.zero_fdiv ..
    unfold i_wide_shift
    rw [cf (decide_eq_false (by omega)), wrap64 (n := 0 - -((j + 1 : Nat) : Int)) (by omega) (by omega), show (0 : Int) - -((j + 1 : Nat) : Int) = ((j + 1 : Nat) : Int) by omega, cf (decide_eq_false (by omega)), ct (ndt (by omega)), ct (ndt (by omega)), wrap64 (n := 64 - ((j + 1 : Nat) : Int)) (by omega) (by omega), ct (ndt (by omega)), Int.toNat_natCast, bits64, h0]
    rw [Int.zero_mul, Nat.min_eq_left (by omega), pow_nat, fdiv_nat, show IntKind.wrap .u64 0 = ((0 : Nat) : Int) by decide, bor (Nat.lt_of_le_of_lt (Nat.div_le_self ..) hl) (by decide), Nat.or_zero, wrapu_nat (Nat.lt_of_le_of_lt (Nat.div_le_self ..) hl)]
theorem wv_pos {l : Nat} : wv false 0 l = (l : Int) := by unfold wv; simp
/-- A quotient of numbers that are not negative, rounded down. -/
theorem quot_v {n d : Nat} {k : Int} (hn : n ≤ 4611686018427387904) (hd0 : 0 < d) (hd : d ≤ 4611686018427387904) (hk : -24 ≤ k) (hk2 : k ≤ 24) (hb : n * 2 ^ k.toNat < 2 ^ 64) :
    i_quotientDown (n : Int) k (d : Int) 0 = some (dmk 0 ((n * 2 ^ k.toNat / d / 2 ^ (-k).toNat : Nat) : Int)) := by
  have hs : (!decide ((n : Int) < 0) == decide ((d : Int) < 0)) = false := by
    rw [decide_eq_false (by omega), decide_eq_false (by omega)]; rfl
  have e0 : IntKind.wrap .i64 (k + 0) = k := by rw [Int.add_zero, wrap64 (by omega) (by omega)]
  have e1 : (bif decide (k < 0) then 0 else k) = ((k.toNat : Nat) : Int) := by
    by_cases h : k < 0
    · rw [ct (decide_eq_true h)]; omega
    · rw [cf (decide_eq_false h)]; omega
  have e2 : (bif decide (0 < k) then 0 else k) = -(((-k).toNat : Nat) : Int) := by
    by_cases h : 0 < k
    · rw [ct (decide_eq_true h)]; omega
    · rw [cf (decide_eq_false h)]; omega
  obtain ⟨h', l', f1, f2, f3, f4⟩ := shiftUp_v (s := decide ((n : Int) < 0)) (h := 0) (l := n) (k := k.toNat) (by omega) (by omega) (by rw [Nat.zero_mul, Nat.zero_add]; omega)
  rw [Nat.zero_mul, Nat.zero_add] at f4
  have h1 : h' = 0 := by omega
  have h2 : l' = n * 2 ^ k.toNat := by omega
  subst h1
  rw [h2] at f1
  have f1 : i_wide_shift (decide ((n : Int) < 0)) 0 (n : Int) ((k.toNat : Nat) : Int) = some (decide ((n : Int) < 0), ((0 : Nat) : Int), ((n * 2 ^ k.toNat : Nat) : Int)) := f1
  have hsz : i_size (d : Int) = some (d : Int) := by rw [size_v (by omega) (by omega), Int.natAbs_natCast]
  have hw : i_wideOf (n : Int) = some (decide ((n : Int) < 0), 0, (n : Int)) := by rw [wideOf_v (by omega) (by omega), Int.natAbs_natCast]
  have hq : n * 2 ^ k.toNat / d < 2 ^ 64 := Nat.lt_of_le_of_lt (Nat.div_le_self ..) hb
  have d1 : bits_Div64 0 ((0 : Nat) : Int) (d : Int) = some (0, 0) := by rw [div64_v hd0 (by decide)]; simp
  unfold i_quotientDown
  rw [e0, e1, bsome hw]
  refine (bsome f1).trans ?_
  rw [bsome hsz, bsome d1, bsome hsz, bsome (div64_v hd0 (by omega)), hs, e2, bsome (shiftDn_v hq (by omega))]
  generalize hQ : n * 2 ^ k.toNat / d = Q at hq ⊢
  have hQ2 : Q / 2 ^ (-k).toNat < 2 ^ 64 := Nat.lt_of_le_of_lt (Nat.div_le_self ..) hq
  have hfit : i_wide_fit false 0 ((Q / 2 ^ (-k).toNat : Nat) : Int) 0 = some (dmk 0 ((Q / 2 ^ (-k).toNat : Nat) : Int)) := by
    have := fit_v (s := false) (h := 0) (l := Q / 2 ^ (-k).toNat) (k := 0) (by decide) (by decide) hQ2
    rw [wv_pos] at this
    exact this
  by_cases hr : (((n * 2 ^ k.toNat % d : Nat) : Int)) = 0
  · rw [ct (decide_eq_true hr)]
    have e3 : (bif decide (IntKind.wrap .i64 (IntKind.wrap .i64 (0 - k) - 0) < 0) then 0 else IntKind.wrap .i64 (IntKind.wrap .i64 (0 - k) - 0)) = (((-k).toNat : Nat) : Int) := by
      rw [wrap64 (n := 0 - k) (by omega) (by omega), Int.sub_zero, wrap64 (n := 0 - k) (by omega) (by omega)]
      by_cases h : 0 - k < 0
      · rw [ct (decide_eq_true h)]; omega
      · rw [cf (decide_eq_false h)]; omega
    have hm : Q / 2 ^ (-k).toNat * 2 ^ (-k).toNat ≤ Q := Nat.div_mul_le_self ..
    obtain ⟨h3, l3, g1, g2, g3, g4⟩ := shiftUp_v (s := false) (h := 0) (l := Q / 2 ^ (-k).toNat) (k := (-k).toNat) hQ2 (by omega) (by rw [Nat.zero_mul, Nat.zero_add]; omega)
    have c1 := compareSizes_v (s := false) (s' := false) (h := h3) (l := l3) (h' := 0) (l' := Q) g3 hq
    rw [e3]
    refine (bsome g1).trans ?_
    refine (bsome c1).trans ?_
    show (i_wide_fit false 0 ((Q / 2 ^ (-k).toNat : Nat) : Int) 0).bind _ = _
    rw [bsome hfit]
  · rw [cf (decide_eq_false hr)]
    show (i_wide_fit false 0 ((Q / 2 ^ (-k).toNat : Nat) : Int) 0).bind _ = _
    rw [bsome hfit]
theorem prd_pos : ∀ (w : List Int), (∀ x ∈ w, 0 < x) → 0 < prd w
  | [], _ => by decide
  | x :: xs, h => Int.mul_pos (h x (List.mem_cons_self ..)) (prd_pos xs fun y hy => h y (List.mem_cons_of_mem _ hy))
theorem vv_pos {b : Bx} (hb : bOkB b = true) : 0 < vv b := by
  have h1 := vv_vol hb
  have h2 : 0 < volB b := by
    refine Int.mul_pos (prd_pos _ fun w hw => ?_) (p2pos _)
    obtain ⟨_, _, _, _, p5⟩ := bOk_parts hb
    obtain ⟨j, hj, rfl⟩ := List.getElem_of_mem hw
    rw [wds_len p5] at hj
    unfold bOkB bOk at hb
    simp only [Bool.and_eq_true, List.all_eq_true, List.mem_range] at hb
    have h1 := hb.2.1 j hj
    unfold bSide at h1
    have h1 := of_decide_eq_true h1
    rw [List.getD_eq_getElem?_getD, List.getElem?_eq_getElem hj, List.getD_eq_getElem?_getD, List.getElem?_eq_getElem (by omega), Option.getD_some, Option.getD_some] at h1
    simp only [wds, List.getElem_zipWith]
    omega
  omega
/-- Hundredths, over whatever powers of 2. -/
theorem share_eq {x y a c : Nat} (ha : a ≤ 24) (hc : c ≤ 24) : 100 * x * 2 ^ ((c : Int) - (a : Int)).toNat / y / 2 ^ (-((c : Int) - (a : Int))).toNat = 100 * (x * 2 ^ (24 - a)) / (y * 2 ^ (24 - c)) := by
  by_cases h : a ≤ c
  · rw [show ((c : Int) - (a : Int)).toNat = c - a by omega, show (-((c : Int) - (a : Int))).toNat = 0 by omega, Nat.pow_zero, Nat.div_one, show 24 - a = (c - a) + (24 - c) by omega, Nat.pow_add, ← Nat.mul_assoc x, ← Nat.mul_assoc 100, ← Nat.mul_assoc 100, Nat.mul_div_mul_right _ _ (Nat.two_pow_pos _)]
  · rw [show ((c : Int) - (a : Int)).toNat = 0 by omega, show (-((c : Int) - (a : Int))).toNat = a - c by omega, Nat.pow_zero, Nat.mul_one, Nat.div_div_eq_div_mul, show 24 - c = (a - c) + (24 - a) by omega, Nat.pow_add, ← Nat.mul_assoc y, ← Nat.mul_assoc 100, Nat.mul_div_mul_right _ _ (Nat.two_pow_pos _)]
end Go.Proofs.YtkahcjnkmbbplaaE
