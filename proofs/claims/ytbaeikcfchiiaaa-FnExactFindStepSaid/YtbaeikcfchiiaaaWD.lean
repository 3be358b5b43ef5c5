/- Plain lemmas on what the printed functions come to. -/
import Derived.Test.YtbaeikcfchiiaaaWC
set_option maxRecDepth 100000
set_option linter.unusedVariables false
set_option linter.unusedSimpArgs false
namespace Go.Proofs.YtbaeikcfchiiaaaE
/-! over -/
/-- One coefficient's part over an interval. -/
def oS (d : List Int) (lo hi P : Int) (j : Nat) : Nat → Int := lpow P P (4 - j) (lpow lo hi j (del (d.getD j 0)))
def oSum (d : List Int) (lo hi P : Int) : Nat → Nat → Int
  | 0, _ => 0
  | j + 1, k => oSum d lo hi P j k + oS d lo hi P j k
/-- The five coefficients over an interval. -/
def ovL (d : List Int) (lo hi P : Int) : List Int := (List.range 5).map (oSum d lo hi P 5)
theorem del_bnd {a : Int} {A : Nat} (h : a.natAbs ≤ A) (k : Nat) : (del a k).natAbs ≤ A := by
  unfold del; split
  · exact h
  · simp
theorem p512 {j : Nat} (hj : j ≤ 4) : 512 ^ j * 64 ^ (4 - j) ≤ 68719476736 := by
  rcases (show j = 0 ∨ j = 1 ∨ j = 2 ∨ j = 3 ∨ j = 4 by omega) with rfl | rfl | rfl | rfl | rfl <;> decide
theorem oS_eq (d : List Int) (lo hi P : Int) (j k : Nat) : oS d lo hi P j k = d.getD j 0 * lpow lo hi j (lpow P P (4 - j) (del 1)) k := by
  unfold oS
  rw [del_scal, lpow_scal, lpow_scal, lpow_comm]
theorem base_bnd {lo hi P : Int} (hlo : lo.natAbs ≤ 256) (hhi : hi.natAbs ≤ 256) (hP : P.natAbs ≤ 32) {j : Nat} (hj : j ≤ 4) (k : Nat) : (lpow lo hi j (lpow P P (4 - j) (del 1)) k).natAbs ≤ 68719476736 := by
  have h1 := lpow_bnd (f := lpow P P (4 - j) (del 1)) (fun k => lpow_bnd (f := del 1) (fun k => del_bnd (A := 1) (by decide) k) hP hP (4 - j) k) hlo hhi j k
  rw [Nat.mul_one] at h1
  exact Nat.le_trans h1 (p512 hj)
theorem oS_bnd {d : List Int} {lo hi P : Int} (hd : ∀ c ∈ d, c.natAbs ≤ 160000) (hlo : lo.natAbs ≤ 256) (hhi : hi.natAbs ≤ 256) (hP : P.natAbs ≤ 32) {j : Nat} (hj : j ≤ 4) (k : Nat) : (oS d lo hi P j k).natAbs ≤ 160000 * 68719476736 := by
  rw [oS_eq, Int.natAbs_mul]
  exact Nat.mul_le_mul (getD_mem (fun c => c.natAbs ≤ 160000) (by simp) hd) (base_bnd hlo hhi hP hj k)
theorem oSum_bnd {d : List Int} {lo hi P : Int} (hd : ∀ c ∈ d, c.natAbs ≤ 160000) (hlo : lo.natAbs ≤ 256) (hhi : hi.natAbs ≤ 256) (hP : P.natAbs ≤ 32) : ∀ {j : Nat}, j ≤ 5 → ∀ k, (oSum d lo hi P j k).natAbs ≤ j * (160000 * 68719476736)
  | 0, _, k => by simp [oSum]
  | j + 1, hj, k => by
    have h1 := oSum_bnd hd hlo hhi hP (j := j) (by omega) k
    have h2 := oS_bnd hd hlo hhi hP (j := j) (by omega) k
    have := Int.natAbs_add_le (oSum d lo hi P j k) (oS d lo hi P j k)
    show (oSum d lo hi P j k + oS d lo hi P j k).natAbs ≤ _
    omega
theorem oS_deg (d : List Int) (lo hi P : Int) {j : Nat} (hj : j ≤ 4) {k : Nat} (hk : 5 ≤ k) : oS d lo hi P j k = 0 :=
  lpow_deg P P (d := 1 + j) (fun k hk => lpow_deg lo hi (d := 1) (fun k hk => by unfold del; rw [if_neg (by omega)]) j k hk) (4 - j) k (by omega)
theorem oSum_deg (d : List Int) (lo hi P : Int) : ∀ {j : Nat}, j ≤ 5 → ∀ {k : Nat}, 5 ≤ k → oSum d lo hi P j k = 0
  | 0, _, k, _ => rfl
  | j + 1, hj, k, hk => by
    show oSum d lo hi P j k + oS d lo hi P j k = 0
    rw [oSum_deg d lo hi P (by omega) hk, oS_deg d lo hi P (by omega) hk]; rfl
theorem mem_of_pc {l : List Int} {A : Nat} (h : ∀ k, (pc l k).natAbs ≤ A) : ∀ c ∈ l, c.natAbs ≤ A := by
  intro c hc
  obtain ⟨i, hi, rfl⟩ := List.mem_iff_getElem.1 hc
  have := h i
  unfold pc at this
  rwa [List.getD_eq_getElem?_getD, List.getElem?_eq_getElem hi] at this
/-! deover -/
theorem deOver_v {d : List Int} {N M : Int} {K L : Nat} (h5 : d.length = 5) (hd : ∀ c ∈ d, c.natAbs ≤ 160000) (hK : K ≤ 5) (hL : L ≤ 5)
    (hlo : (N * 2 ^ (max K L - K)).natAbs ≤ 256) (hhi : (M * 2 ^ (max K L - L)).natAbs ≤ 256) (hN : N.natAbs ≤ 256) (hM : M.natAbs ≤ 256) :
    s_deOver d N (K : Int) M (L : Int) = some (ovL d (N * 2 ^ (max K L - K)) (M * 2 ^ (max K L - L)) (2 ^ max K L)) := by
  generalize hT : max K L = T at hlo hhi ⊢
  have hT5 : T ≤ 5 := by omega
  generalize hlo' : N * 2 ^ (T - K) = lo at hlo ⊢
  generalize hhi' : M * 2 ^ (T - L) = hi at hhi ⊢
  have hP32 : Int.natAbs (2 ^ T) ≤ 32 := by
    rw [Int.natAbs_pow]; exact Nat.le_trans (Nat.pow_le_pow_right (by decide) hT5) (by decide)
  have e1 : s_dyAt N (K : Int) (T : Int) = some (lo, true) := by
    rw [dyAt_v (k := T) (by omega) (by omega) (by omega) (by
      rw [Int.toNat_natCast]
      have : 2 ^ (T - K) ≤ 2 ^ 5 := Nat.pow_le_pow_right (by decide) (by omega)
      exact Nat.le_trans (Nat.mul_le_mul hN this) (by decide)), Int.toNat_natCast, hlo']
  have e2 : s_dyAt M (L : Int) (T : Int) = some (hi, true) := by
    rw [dyAt_v (k := T) (by omega) (by omega) (by omega) (by
      rw [Int.toNat_natCast]
      have : 2 ^ (T - L) ≤ 2 ^ 5 := Nat.pow_le_pow_right (by decide) (by omega)
      exact Nat.le_trans (Nat.mul_le_mul hM this) (by decide)), Int.toNat_natCast, hhi']
  have hmx : max (K : Int) (L : Int) = (T : Int) := by omega
  unfold s_deOver
  rw [bsome (l1Most_v ..), hmx, bsome e1, bsome e2, h5]
  rw [show IntKind.wrap .i64 (IntKind.wrap .i64 (((5 : Nat) : Int) - 1) + 1) = 5 from by decide, show IntKind.wrap .i64 (((5 : Nat) : Int) - 1) = 4 from by decide, ct (by decide), ct (by decide), ct (by decide)]
  simp only
  have hp2 : s_dyPower (T : Int) = some (2 ^ T) := dyPower_v (by omega) (by omega)
  -- the parts, one by one
  have outer : ∃ ys, s_deOver_1007 (T : Int) lo hi 4 (List.replicate 5 (0 : Int)) d (d.length : Int) ((0 : Nat) : Int) = s_deOver_1007 (T : Int) lo hi 4 ys d (d.length : Int) (d.length : Int) ∧ ys.length = 5 ∧ ∀ k, k < 5 → ys.getD k 0 = oSum d lo hi (2 ^ T) d.length k := by
    refine inv_loop (n := d.length) (f := fun j (ys : List Int) => s_deOver_1007 (T : Int) lo hi 4 ys d (d.length : Int) (j : Int)) (fun j ys => ys.length = 5 ∧ ∀ k, k < 5 → ys.getD k 0 = oSum d lo hi (2 ^ T) j k) (fun j ys hj ho => ?_) _ ⟨by simp, fun k hk => getD_rep⟩
    obtain ⟨o1, o2⟩ := ho
    have hdj : d[j] = d.getD j 0 := by rw [List.getD_eq_getElem?_getD, List.getElem?_eq_getElem hj]; rfl
    have hdb : (d.getD j 0).natAbs ≤ 160000 := getD_mem (fun c => c.natAbs ≤ 160000) (by simp) hd
    -- four factors
    have four : ∃ t, s_deOver_1011 (T : Int) lo hi 4 ys (j : Int) [d[j]] ((0 : Nat) : Int) d (d.length : Int) (j : Int) = s_deOver_1011 (T : Int) lo hi 4 ys (j : Int) t ((4 : Nat) : Int) d (d.length : Int) (j : Int) ∧ t.length = 4 + 1 ∧ pc t = (if 4 ≤ j then lpow lo hi 4 (del (d.getD j 0)) else lpow (2 ^ T) (2 ^ T) (4 - j) (lpow lo hi j (del (d.getD j 0)))) := by
      refine inv_loop (n := 4) (f := fun m (t : List Int) => s_deOver_1011 (T : Int) lo hi 4 ys (j : Int) t (m : Int) d (d.length : Int) (j : Int)) (fun m t => t.length = m + 1 ∧ pc t = (if m ≤ j then lpow lo hi m (del (d.getD j 0)) else lpow (2 ^ T) (2 ^ T) (m - j) (lpow lo hi j (del (d.getD j 0))))) (fun m t hm ht => ?_) _ ⟨rfl, by rw [if_pos (Nat.zero_le _), hdj, pc_one]; rfl⟩
      obtain ⟨t1, t2⟩ := ht
      have hne : t ≠ [] := by intro e; rw [e] at t1; cases t1
      have hb : ∀ k, (pc t k).natAbs ≤ 512 ^ 3 * 160000 := by
        intro k
        rw [t2]
        have hpw : ∀ {a b : Nat}, a + b ≤ 3 → (2 * 256) ^ a * ((2 * 256) ^ b * 160000) ≤ 512 ^ 3 * 160000 := by
          intro a b hab
          rw [← Nat.mul_assoc, ← Nat.pow_add]
          exact Nat.mul_le_mul_right _ (Nat.pow_le_pow_right (by decide) hab)
        split
        · have := lpow_bnd (B := 256) (del_bnd hdb) hlo hhi m k
          exact Nat.le_trans this (by have := hpw (a := m) (b := 0) (by omega); simpa using this)
        · have := lpow_bnd (u := 2 ^ T) (v := 2 ^ T) (B := 256) (fun k => lpow_bnd (B := 256) (del_bnd hdb) hlo hhi j k) (by omega) (by omega) (m - j) k
          exact Nat.le_trans this (hpw (by omega))
      have hm4 : decide ((m : Int) < 4) = true := decide_eq_true (by omega)
      by_cases hmj : m < j
      · have hpr := sgProduct_v (p := t) (q := [lo, hi]) (A := 512 ^ 3 * 160000) (B := 256) hne (by simp) (mem_of_pc hb) (fun c hc => by simp at hc; rcases hc with rfl | rfl <;> assumption) (Nat.le_trans (Nat.mul_le_mul_right _ (show t.length + 1 ≤ 6 by omega)) (by decide)) (by omega) (by simp)
        refine ⟨prL t [lo, hi], ?_, by simp [prL, t1], ?_⟩
        · show s_deOver_1011 _ _ _ _ _ _ _ _ _ _ _ = s_deOver_1011 _ _ _ _ _ _ _ _ _ _ _
          rw [Es_deOver_1011, ct hm4, ct (decide_eq_true (by omega)), bsome hpr, sc hm (by omega)]
        · have e : pc (prL t [lo, hi]) = Lin lo hi (pc t) := by
            rw [← cv_two]; funext k; exact prL_cv hne (by simp) k
          rw [e, t2, if_pos (by omega), if_pos (by omega)]; rfl
      · have hpr := sgProduct_v (p := t) (q := [2 ^ T, 2 ^ T]) (A := 512 ^ 3 * 160000) (B := 256) hne (by simp) (mem_of_pc hb) (fun c hc => by simp at hc; rw [hc]; omega) (Nat.le_trans (Nat.mul_le_mul_right _ (show t.length + 1 ≤ 6 by omega)) (by decide)) (by omega) (by simp)
        refine ⟨prL t [2 ^ T, 2 ^ T], ?_, by simp [prL, t1], ?_⟩
        · show s_deOver_1011 _ _ _ _ _ _ _ _ _ _ _ = s_deOver_1011 _ _ _ _ _ _ _ _ _ _ _
          rw [Es_deOver_1011, ct hm4, cf (decide_eq_false (by omega)), bsome hp2, bsome hp2, bsome hpr, sc hm (by omega)]
        · have e : pc (prL t [2 ^ T, 2 ^ T]) = Lin (2 ^ T) (2 ^ T) (pc t) := by
            rw [← cv_two]; funext k; exact prL_cv hne (by simp) k
          rw [e, t2, if_neg (show ¬ m + 1 ≤ j by omega)]
          by_cases hmj2 : m = j
          · subst hmj2
            rw [if_pos (Nat.le_refl _), show m + 1 - m = 0 + 1 by omega]; rfl
          · rw [if_neg (by omega), show m + 1 - j = (m - j) + 1 by omega]; rfl
    obtain ⟨t, f1, f2, f3⟩ := four
    have f4 : pc t = oS d lo hi (2 ^ T) j := by
      rw [f3]
      unfold oS
      by_cases h4 : 4 ≤ j
      · rw [if_pos h4, show j = 4 by omega]; rfl
      · rw [if_neg h4]
    -- added
    have add : ∃ ys', s_deOver_1017 (T : Int) lo hi 4 ys d (d.length : Int) (j : Int) t (t.length : Int) ((0 : Nat) : Int) = s_deOver_1017 (T : Int) lo hi 4 ys' d (d.length : Int) (j : Int) t (t.length : Int) (t.length : Int) ∧ ys'.length = 5 ∧ ∀ k, k < 5 → ys'.getD k 0 = oSum d lo hi (2 ^ T) j k + (if k < t.length then oS d lo hi (2 ^ T) j k else 0) := by
      refine inv_loop (n := t.length) (f := fun m (ys : List Int) => s_deOver_1017 (T : Int) lo hi 4 ys d (d.length : Int) (j : Int) t (t.length : Int) (m : Int)) (fun m ys => ys.length = 5 ∧ ∀ k, k < 5 → ys.getD k 0 = oSum d lo hi (2 ^ T) j k + (if k < m then oS d lo hi (2 ^ T) j k else 0)) (fun m ys hm hy => ?_) _ ⟨o1, fun k hk => by rw [o2 k hk, if_neg (by omega)]; omega⟩
      obtain ⟨y1, y2⟩ := hy
      have hlt : m < ys.length := by omega
      have htm : List.getD t (Int.toNat (m : Int)) 0 = oS d lo hi (2 ^ T) j m := by rw [Int.toNat_natCast, ← f4]; rfl
      have hym : List.getD ys (Int.toNat (m : Int)) 0 = oSum d lo hi (2 ^ T) j m := by rw [Int.toNat_natCast, y2 m (by omega), if_neg (by omega)]; omega
      have b1 := oSum_bnd hd hlo hhi hP32 (j := j) (by omega) m
      have b2 := oS_bnd hd hlo hhi hP32 (j := j) (by omega) m
      have hbl : Nat.blt (Int.toNat (m : Int)) ys.length = true := by rw [Int.toNat_natCast]; simpa using hlt
      have hbt : Nat.blt (Int.toNat (m : Int)) t.length = true := by rw [Int.toNat_natCast]; simpa using hm
      refine ⟨ys.set m (oSum d lo hi (2 ^ T) j m + oS d lo hi (2 ^ T) j m), ?_, by simp [y1], fun k hk => ?_⟩
      · show s_deOver_1017 _ _ _ _ _ _ _ _ _ _ _ = s_deOver_1017 _ _ _ _ _ _ _ _ _ _ _
        rw [Es_deOver_1017, ct (ltt hm), ct (bA hm), ct hbt, ct (bA hlt), ct hbl, ct (bA hlt), ct hbl, htm, hym, wrap64 (by omega) (by omega), sc hm (by omega), Int.toNat_natCast]
      · rw [getD_set hlt]
        by_cases h : k = m
        · subst h; rw [if_pos rfl, if_pos (by omega)]
        · rw [if_neg h, y2 k hk]
          by_cases h' : k < m
          · rw [if_pos h', if_pos (by omega)]
          · rw [if_neg h', if_neg (by omega)]
    obtain ⟨ys', g1, g2, g3⟩ := add
    refine ⟨ys', ?_, g2, fun k hk => ?_⟩
    · show s_deOver_1007 _ _ _ _ _ _ _ _ = s_deOver_1007 _ _ _ _ _ _ _ _
      rw [Es_deOver_1007, ct (ltt hj), ct (bA hj), gD hj]
      refine Eq.trans f1 ?_
      rw [Es_deOver_1011, cf (by decide)]
      refine Eq.trans g1 ?_
      rw [Es_deOver_1017, cf ltf, sc hj (by omega)]
    · rw [g3 k hk, if_pos (by omega)]; rfl
  obtain ⟨ys, g1, g2, g3⟩ := outer
  rw [h5] at g1 g3
  refine Eq.trans (Eq.trans (show _ = s_deOver_1007 (T : Int) lo hi 4 (List.replicate 5 (0 : Int)) d ((5 : Nat) : Int) ((0 : Nat) : Int) from rfl) g1) ?_
  rw [Es_deOver_1007, cf ltf]
  refine congrArg some (ext_getD (by simp [ovL, g2]) fun k hk => ?_)
  rw [g3 k (by omega)]; unfold ovL; rw [getD_range, if_pos (by omega)]
end Go.Proofs.YtbaeikcfchiiaaaE
