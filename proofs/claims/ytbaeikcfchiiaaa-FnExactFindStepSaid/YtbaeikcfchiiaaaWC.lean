/- Plain lemmas on what the printed functions come to. -/
import Derived.Test.YtbaeikcfchiiaaaWB
set_option maxRecDepth 100000
set_option linter.unusedVariables false
set_option linter.unusedSimpArgs false
namespace Go.Proofs.YtbaeikcfchiiaaaE
/-! lin -/
/-! polynomials as functions to coefficients -/
def pc (l : List Int) : Nat → Int := fun k => l.getD k 0
def sh (f : Nat → Int) : Nat → Int := fun k => if k = 0 then 0 else f (k - 1)
/-- Times u + v x. -/
def Lin (u v : Int) (f : Nat → Int) : Nat → Int := fun k => u * f k + v * sh f k
def del (a : Int) : Nat → Int := fun k => if k = 0 then a else 0
def lpow (u v : Int) : Nat → (Nat → Int) → Nat → Int
  | 0, f => f
  | n + 1, f => Lin u v (lpow u v n f)
theorem sh_Lin (u v : Int) (f : Nat → Int) : sh (Lin u v f) = Lin u v (sh f) := by
  funext k
  unfold sh Lin
  cases k with
  | zero => simp [sh]
  | succ k => simp [sh]
theorem Lin_comm (u v u' v' : Int) (f : Nat → Int) : Lin u v (Lin u' v' f) = Lin u' v' (Lin u v f) := by
  funext k
  show u * Lin u' v' f k + v * sh (Lin u' v' f) k = u' * Lin u v f k + v' * sh (Lin u v f) k
  rw [sh_Lin, sh_Lin]
  show u * (u' * f k + v' * sh f k) + v * (u' * sh f k + v' * sh (sh f) k) = u' * (u * f k + v * sh f k) + v' * (u * sh f k + v * sh (sh f) k)
  simp only [Int.mul_add, ← Int.mul_assoc]
  rw [Int.mul_comm u u', Int.mul_comm u v', Int.mul_comm v u', Int.mul_comm v v']
  omega
theorem lpow_Lin (u v u' v' : Int) : ∀ (n : Nat) (f : Nat → Int), lpow u v n (Lin u' v' f) = Lin u' v' (lpow u v n f)
  | 0, f => rfl
  | n + 1, f => by show Lin u v (lpow u v n (Lin u' v' f)) = _; rw [lpow_Lin u v u' v' n f, Lin_comm]; rfl
theorem lpow_comm (u v u' v' : Int) (n : Nat) : ∀ (m : Nat) (f : Nat → Int), lpow u v n (lpow u' v' m f) = lpow u' v' m (lpow u v n f)
  | 0, f => rfl
  | m + 1, f => by show lpow u v n (Lin u' v' (lpow u' v' m f)) = _; rw [lpow_Lin, lpow_comm u v u' v' n m f]; rfl
theorem lpow_scal (u v c : Int) : ∀ (n : Nat) (f : Nat → Int), lpow u v n (fun k => c * f k) = fun k => c * lpow u v n f k
  | 0, f => rfl
  | n + 1, f => by
    show Lin u v (lpow u v n (fun k => c * f k)) = _
    rw [lpow_scal u v c n f]
    funext k
    show u * (c * lpow u v n f k) + v * sh (fun k => c * lpow u v n f k) k = c * (u * lpow u v n f k + v * sh (lpow u v n f) k)
    have : sh (fun k => c * lpow u v n f k) k = c * sh (lpow u v n f) k := by unfold sh; split <;> simp
    rw [this, Int.mul_add, Int.mul_left_comm, Int.mul_left_comm v]
theorem del_scal (a : Int) : del a = fun k => a * del 1 k := by funext k; unfold del; split <;> simp
theorem lpow_deg (u v : Int) {f : Nat → Int} {d : Nat} (h : ∀ k, d ≤ k → f k = 0) : ∀ (n k : Nat), d + n ≤ k → lpow u v n f k = 0
  | 0, k, hk => h k hk
  | n + 1, k, hk => by
    show u * lpow u v n f k + v * sh (lpow u v n f) k = 0
    have h1 := lpow_deg u v h n k (by omega)
    have h2 : sh (lpow u v n f) k = 0 := by
      unfold sh
      rw [if_neg (by omega)]
      exact lpow_deg u v h n (k - 1) (by omega)
    rw [h1, h2]; simp
theorem Lin_bnd {u v : Int} {f : Nat → Int} {A B : Nat} (h : ∀ k, (f k).natAbs ≤ A) (hu : u.natAbs ≤ B) (hv : v.natAbs ≤ B) (k : Nat) : (Lin u v f k).natAbs ≤ 2 * B * A := by
  have h1 : (u * f k).natAbs ≤ B * A := by rw [Int.natAbs_mul]; exact Nat.mul_le_mul hu (h k)
  have h2 : (v * sh f k).natAbs ≤ B * A := by
    rw [Int.natAbs_mul]
    refine Nat.mul_le_mul hv ?_
    unfold sh; split
    · simp
    · exact h _
  have := Int.natAbs_add_le (u * f k) (v * sh f k)
  show (u * f k + v * sh f k).natAbs ≤ _
  rw [Nat.mul_assoc]; omega
theorem lpow_bnd {u v : Int} {f : Nat → Int} {A B : Nat} (h : ∀ k, (f k).natAbs ≤ A) (hu : u.natAbs ≤ B) (hv : v.natAbs ≤ B) : ∀ (n k : Nat), (lpow u v n f k).natAbs ≤ (2 * B) ^ n * A
  | 0, k => by show (f k).natAbs ≤ (2 * B) ^ 0 * A; rw [Nat.pow_zero, Nat.one_mul]; exact h k
  | n + 1, k => by
    have := Lin_bnd (lpow_bnd h hu hv n) hu hv k
    show (Lin u v (lpow u v n f) k).natAbs ≤ _
    rw [Nat.pow_succ, Nat.mul_right_comm, Nat.mul_comm _ (2 * B)]
    exact this
/-! products -/
def MF (f g : Nat → Int) : Nat → Nat → Int
  | 0, _ => 0
  | i + 1, k => MF f g i k + (if i ≤ k then f i * g (k - i) else 0)
theorem MF_Lin (u v : Int) (f g : Nat → Int) : ∀ n k, MF (Lin u v f) g n k = u * MF f g n k + v * (if k = 0 then 0 else MF f g (n - 1) (k - 1))
  | 0, k => by simp [MF]
  | n + 1, k => by
    show MF (Lin u v f) g n k + (if n ≤ k then Lin u v f n * g (k - n) else 0) = u * (MF f g n k + (if n ≤ k then f n * g (k - n) else 0)) + v * (if k = 0 then 0 else MF f g n (k - 1))
    rw [MF_Lin u v f g n k]
    by_cases hn : n ≤ k
    · rw [if_pos hn, if_pos hn]
      show _ + (u * f n + v * sh f n) * g (k - n) = _
      cases n with
      | zero =>
        have : sh f 0 = 0 := rfl
        rw [this]
        have e : (if k = 0 then 0 else MF f g (0 - 1) (k - 1)) = 0 := by split <;> rfl
        rw [e, Int.mul_add, Int.add_mul, Int.mul_assoc]; simp
      | succ m =>
        have hk : k ≠ 0 := by omega
        rw [if_neg hk, if_neg hk]
        show u * MF f g (m + 1) k + v * MF f g m (k - 1) + _ = u * (MF f g (m + 1) k + _) + v * (MF f g m (k - 1) + (if m ≤ k - 1 then f m * g (k - 1 - m) else 0))
        rw [if_pos (by omega), show sh f (m + 1) = f m from rfl, show k - 1 - m = k - (m + 1) by omega, Int.mul_add, Int.mul_add, Int.add_mul, Int.mul_assoc, Int.mul_assoc]
        omega
    · rw [if_neg hn, if_neg hn]
      cases n with
      | zero => omega
      | succ m =>
        by_cases hk : k = 0
        · rw [if_pos hk, if_pos hk]; simp
        · rw [if_neg hk, if_neg hk]
          show _ + v * MF f g m (k - 1) + 0 = _ + v * (MF f g m (k - 1) + (if m ≤ k - 1 then f m * g (k - 1 - m) else 0))
          rw [if_neg (by omega)]; simp
theorem MF_more {f g : Nat → Int} {k : Nat} : ∀ {n : Nat}, k + 1 ≤ n → MF f g n k = MF f g (k + 1) k := by
  intro n h
  induction n with
  | zero => omega
  | succ n ih =>
    by_cases e : n = k
    · rw [e]
    · show MF f g n k + (if n ≤ k then f n * g (k - n) else 0) = _
      rw [if_neg (by omega), ih (by omega)]; simp
theorem MF_deg {f g : Nat → Int} {d k : Nat} (h : ∀ i, d ≤ i → f i = 0) : ∀ {n : Nat}, d ≤ n → MF f g n k = MF f g d k := by
  intro n hn
  induction n with
  | zero => rw [show d = 0 by omega]
  | succ n ih =>
    by_cases e : d = n + 1
    · rw [e]
    · show MF f g n k + (if n ≤ k then f n * g (k - n) else 0) = _
      rw [h n (by omega), ih (by omega)]; split <;> simp
/-- The product. -/
def cv (f g : Nat → Int) (k : Nat) : Int := MF f g (k + 1) k
theorem cv_Lin (u v : Int) (f g : Nat → Int) : cv (Lin u v f) g = Lin u v (cv f g) := by
  funext k
  unfold cv
  rw [MF_Lin]
  show _ = u * MF f g (k + 1) k + v * sh (fun k => MF f g (k + 1) k) k
  unfold sh
  by_cases hk : k = 0
  · rw [if_pos hk, if_pos hk]
  · rw [if_neg hk, if_neg hk, show k + 1 - 1 = k - 1 + 1 by omega]
theorem cv_del (g : Nat → Int) : cv (del 1) g = g := by
  funext k
  have : ∀ n, MF (del 1) g n k = if n = 0 then 0 else g k := by
    intro n
    induction n with
    | zero => rfl
    | succ n ih =>
      show MF (del 1) g n k + (if n ≤ k then del 1 n * g (k - n) else 0) = _
      rw [ih]
      cases n with
      | zero => simp [del]
      | succ n => simp [del]
  unfold cv
  rw [this]; simp
theorem cv_lpow (u v : Int) (g : Nat → Int) : ∀ n, cv (lpow u v n (del 1)) g = lpow u v n g
  | 0 => cv_del g
  | n + 1 => by show cv (Lin u v (lpow u v n (del 1))) g = _; rw [cv_Lin, cv_lpow u v g n]; rfl
theorem trim_last {l : List Int} {d : Nat} (h : ∀ k, d ≤ k → l.getD k 0 = 0) : (trim l).length ≤ d := by
  rcases snoc_or (trim l) with e | ⟨a, x, e⟩
  · rw [e]; simp
  · have hx : x ≠ 0 := by
      intro h0
      subst h0
      obtain ⟨m, hm⟩ := trim_dec _ l rfl
      have : trim l = trim a := by
        conv => lhs; rw [hm, e]
        rw [List.append_assoc, show [(0 : Int)] ++ List.replicate m 0 = List.replicate (m + 1) 0 by rw [List.replicate_succ]; rfl, trim_zeros]
      have l1 := trim_len a
      rw [← this, e] at l1
      simp at l1
      omega
    apply Classical.byContradiction
    intro hlt
    have ha : d ≤ a.length := by rw [e] at hlt; simp at hlt; omega
    have := h a.length ha
    rw [← trim_getD, e, List.getD_eq_getElem?_getD, List.getElem?_append_right (Nat.le_refl _)] at this
    simp at this
    exact hx this
/-! mulcv -/
theorem Mc_MF (p q : List Int) : ∀ i k, Mc p q i k = MF (pc p) (pc q) i k
  | 0, _ => rfl
  | i + 1, k => by show Mc p q i k + _ = MF (pc p) (pc q) i k + _; rw [Mc_MF p q i k]; rfl
theorem Mc_cv (p q : List Int) (k : Nat) : Mc p q p.length k = cv (pc p) (pc q) k := by
  rw [Mc_MF]
  unfold cv
  have h1 := @MF_deg (pc p) (pc q) p.length k (fun i hi => getD_out hi) (max p.length (k + 1)) (Nat.le_max_left ..)
  have h2 := @MF_more (pc p) (pc q) k (max p.length (k + 1)) (Nat.le_max_right ..)
  rw [← h1, h2]
theorem mulL_cv (p q : List Int) (k : Nat) : (mulL p q).getD k 0 = cv (pc p) (pc q) k := by
  unfold mulL
  rw [getD_range]
  by_cases h : k < p.length + q.length
  · rw [if_pos h, Mc_cv]
  · rw [if_neg h, ← Mc_cv]
    have : ∀ i, Mc p q i k = 0 := by
      intro i
      induction i with
      | zero => rfl
      | succ i ih =>
        show Mc p q i k + (if i ≤ k then p.getD i 0 * q.getD (k - i) 0 else 0) = 0
        rw [ih]
        by_cases hi : i < p.length
        · rw [getD_out (l := q) (by omega)]; split <;> simp
        · rw [getD_out (l := p) (by omega)]; split <;> simp
    exact (this _).symm
theorem pc_two (u v : Int) : pc [u, v] = Lin u v (del 1) := by
  funext k
  match k with
  | 0 => simp [pc, Lin, del, sh]
  | 1 => simp [pc, Lin, del, sh]
  | k + 2 => simp [pc, Lin, del, sh]
theorem pc_one (a : Int) : pc [a] = del a := by
  funext k
  match k with
  | 0 => simp [pc, del]
  | k + 1 => simp [pc, del]
/-- Times u + v x, from the right. -/
theorem cv_two (f : Nat → Int) (u v : Int) : cv f (pc [u, v]) = Lin u v f := by
  funext k
  -- out of the sum's terms two are left
  have main : ∀ n, MF f (pc [u, v]) n k = (if k < n then f k * u else 0) + (if 0 < k ∧ k - 1 < n then f (k - 1) * v else 0) := by
    intro n
    induction n with
    | zero => simp [MF]
    | succ n ih =>
      show MF f (pc [u, v]) n k + (if n ≤ k then f n * pc [u, v] (k - n) else 0) = _
      rw [ih]
      have hp : n ≤ k → pc [u, v] (k - n) = if k = n then u else if k = n + 1 then v else 0 := by
        intro hk
        by_cases h1 : k = n
        · rw [if_pos h1, h1, Nat.sub_self]; rfl
        · rw [if_neg h1]
          by_cases h2 : k = n + 1
          · rw [if_pos h2, h2, show n + 1 - n = 1 by omega]; rfl
          · rw [if_neg h2]; exact getD_out (by simp; omega)
      grind
  unfold cv
  rw [main, if_pos (by omega)]
  show _ = u * f k + v * sh f k
  unfold sh
  by_cases h0 : k = 0
  · rw [if_neg (by omega), if_pos h0, Int.mul_comm]; simp
  · rw [if_pos ⟨by omega, by omega⟩, if_neg h0, Int.mul_comm, Int.mul_comm (f (k - 1))]
/-! sgprod -/
/-- The reference's product. -/
def prL (p q : List Int) : List Int := (List.range (p.length + q.length - 1)).map (Mc p q p.length)
theorem prL_cv {p q : List Int} (hp : p ≠ []) (hq : q ≠ []) (k : Nat) : (prL p q).getD k 0 = cv (pc p) (pc q) k := by
  unfold prL
  rw [getD_range]
  by_cases h : k < p.length + q.length - 1
  · rw [if_pos h, Mc_cv]
  · rw [if_neg h, ← Mc_cv]
    have h1 : 0 < p.length := List.length_pos_iff.2 hp
    have h2 : 0 < q.length := List.length_pos_iff.2 hq
    have : ∀ i, Mc p q i k = 0 := by
      intro i
      induction i with
      | zero => rfl
      | succ i ih =>
        show Mc p q i k + (if i ≤ k then p.getD i 0 * q.getD (k - i) 0 else 0) = 0
        rw [ih]
        by_cases hi : i < p.length
        · rw [getD_out (l := q) (by omega)]; split <;> simp
        · rw [getD_out (l := p) (by omega)]; split <;> simp
    exact (this _).symm
theorem sgProduct_v {p q : List Int} {A B : Nat} (hp0 : p ≠ []) (hq0 : q ≠ []) (hp : ∀ c ∈ p, c.natAbs ≤ A) (hq : ∀ c ∈ q, c.natAbs ≤ B) (hb : (p.length + 1) * (A * B) ≤ 4611686018427387904) (lp : p.length ≤ 1000) (lq : q.length ≤ 1000) : s_sgProduct p q = some (prL p q) := by
  have h1 : 0 < p.length := List.length_pos_iff.2 hp0
  have h2 : 0 < q.length := List.length_pos_iff.2 hq0
  generalize hL : p.length + q.length - 1 = L
  have hw : IntKind.wrap .i64 (IntKind.wrap .i64 ((p.length : Int) + (q.length : Int)) - 1) = (L : Int) := by
    rw [wrap64 (n := (p.length : Int) + (q.length : Int)) (by omega) (by omega), wrap64 (by omega) (by omega)]; omega
  unfold s_sgProduct
  rw [cf (decide_eq_false (by omega)), cf (decide_eq_false (by omega)), hw, ct (decide_eq_true (by omega)), ct (by simp), ct (decide_eq_true (by omega)), Int.toNat_natCast]
  have rows : ∃ outs, s_sgProduct_1005 q (List.replicate L (0 : Int)) p p.length ((0 : Nat) : Int) = s_sgProduct_1005 q outs p p.length (p.length : Int) ∧ outs.length = L ∧ ∀ k, k < L → outs.getD k 0 = Mc p q p.length k := by
    refine inv_loop (n := p.length) (f := fun i (outs : List Int) => s_sgProduct_1005 q outs p p.length (i : Int)) (fun i outs => outs.length = L ∧ ∀ k, k < L → outs.getD k 0 = Mc p q i k) (fun i outs hi ho => ?_) _ ⟨by simp, fun k hk => getD_rep⟩
    obtain ⟨o1, o2⟩ := ho
    have inner : ∃ outs', s_sgProduct_1008 q outs (i : Int) p[i] p p.length (i : Int) q q.length ((0 : Nat) : Int) = s_sgProduct_1008 q outs' (i : Int) p[i] p p.length (i : Int) q q.length (q.length : Int) ∧ outs'.length = L ∧ ∀ k, k < L → outs'.getD k 0 = Mc p q i k + (if i ≤ k ∧ k < i + q.length then p.getD i 0 * q.getD (k - i) 0 else 0) := by
      refine inv_loop (n := q.length) (f := fun j (outs : List Int) => s_sgProduct_1008 q outs (i : Int) p[i] p p.length (i : Int) q q.length (j : Int)) (fun j outs => outs.length = L ∧ ∀ k, k < L → outs.getD k 0 = Mc p q i k + (if i ≤ k ∧ k < i + j then p.getD i 0 * q.getD (k - i) 0 else 0)) (fun j outs hj ho => ?_) _ ⟨o1, fun k hk => by rw [o2 k hk, if_neg (by omega)]; omega⟩
      obtain ⟨t1, t2⟩ := ho
      have hpi : p[i] = p.getD i 0 := by rw [List.getD_eq_getElem?_getD, List.getElem?_eq_getElem hi]; rfl
      have hqj : q[j] = q.getD j 0 := by rw [List.getD_eq_getElem?_getD, List.getElem?_eq_getElem hj]; rfl
      have hlt : i + j < outs.length := by omega
      have hgo := t2 (i + j) (by omega)
      rw [if_neg (by omega), Int.add_zero] at hgo
      have b1 := Mc_bnd hp hq i (i + j)
      have b2 : (p.getD i 0 * q.getD j 0).natAbs ≤ A * B := by
        rw [Int.natAbs_mul]
        exact Nat.mul_le_mul (getD_mem (fun c => c.natAbs ≤ A) (by simp) hp) (getD_mem (fun c => c.natAbs ≤ B) (by simp) hq)
      have b3 : i * (A * B) + A * B ≤ (p.length + 1) * (A * B) := by
        have : i * (A * B) ≤ p.length * (A * B) := Nat.mul_le_mul_right _ (by omega)
        rw [Nat.add_mul, Nat.one_mul]; omega
      have hw : IntKind.wrap .i64 ((i : Int) + (j : Int)) = ((i + j : Nat) : Int) := by rw [wrap64 (by omega) (by omega)]; omega
      refine ⟨outs.set (i + j) (Mc p q i (i + j) + p.getD i 0 * q.getD j 0), ?_, by simp [t1], fun k hk => ?_⟩
      · show s_sgProduct_1008 _ _ _ _ _ _ _ _ _ _ = s_sgProduct_1008 _ _ _ _ _ _ _ _ _ _
        rw [Es_sgProduct_1008, ct (ltt hj), ct (bA hj), hw, ct (bA hlt), ct (by rw [Int.toNat_natCast]; simpa using hlt), ct (bA hlt), ct (by rw [Int.toNat_natCast]; simpa using hlt), gD hj, gD hlt, sc hj (by omega), Int.toNat_natCast]
        have e : outs[i + j] = outs.getD (i + j) 0 := by rw [List.getD_eq_getElem?_getD, List.getElem?_eq_getElem hlt]; rfl
        rw [e, hgo, hqj, hpi, wrap64 (n := p.getD i 0 * q.getD j 0) (by omega) (by omega), wrap64 (by omega) (by omega)]
      · rw [getD_set hlt]
        by_cases hk2 : k = i + j
        · subst hk2
          rw [if_pos rfl, if_pos (by omega), show i + j - i = j by omega]
        · rw [if_neg hk2, t2 k hk]
          by_cases h3 : i ≤ k ∧ k < i + j
          · rw [if_pos h3, if_pos (by omega)]
          · rw [if_neg h3, if_neg (by omega)]
    obtain ⟨outs', e1, e2, e3⟩ := inner
    refine ⟨outs', ?_, e2, fun k hk => ?_⟩
    · show s_sgProduct_1005 _ _ _ _ _ = s_sgProduct_1005 _ _ _ _ _
      rw [Es_sgProduct_1005, ct (ltt hi), ct (bA hi), gD hi]
      refine Eq.trans e1 ?_
      rw [Es_sgProduct_1008, cf ltf, sc hi (by omega)]
    · rw [e3 k hk]
      show _ = Mc p q i k + _
      by_cases h3 : i ≤ k
      · rw [if_pos h3]
        by_cases h4 : k < i + q.length
        · rw [if_pos ⟨h3, h4⟩]
        · rw [if_neg (by omega), getD_out (l := q) (by omega)]; simp
      · rw [if_neg h3, if_neg (by omega)]
  obtain ⟨outs, e1, e2, e3⟩ := rows
  refine Eq.trans (Eq.trans (show _ = s_sgProduct_1005 q (List.replicate L (0 : Int)) p p.length ((0 : Nat) : Int) from rfl) e1) ?_
  rw [Es_sgProduct_1005, cf ltf]
  refine congrArg some (ext_getD (by simp [prL, e2, hL]) fun k hk => ?_)
  rw [e3 k (by omega)]; unfold prL; rw [getD_range, if_pos (by omega)]
/-! derive -/
/-- The derivative of the family, with five coefficients. -/
def der (p q : List Int) (i f : Nat) : List Int := (List.range 5).map fun k => ((k + 1 : Nat) : Int) * (fam p q i f).getD (k + 1) 0
theorem der_getD {p q : List Int} {i f : Nat} (k : Nat) : (der p q i f).getD k 0 = ((k + 1 : Nat) : Int) * (fam p q i f).getD (k + 1) 0 := by
  unfold der
  rw [getD_range]
  by_cases h : k < 5
  · rw [if_pos h]
  · rw [if_neg h, getD_out (l := fam p q i f) (by unfold fam; rw [List.length_map, List.length_range]; omega)]; simp
theorem der_bnd {p q : List Int} {i f : Nat} (h : ∀ c ∈ fam p q i f, c.natAbs ≤ 32000) : ∀ c ∈ der p q i f, c.natAbs ≤ 160000 := by
  intro c hc
  unfold der at hc
  obtain ⟨k, hk, rfl⟩ := List.mem_map.1 hc
  have hk := List.mem_range.1 hk
  have : ((fam p q i f).getD (k + 1) 0).natAbs ≤ 32000 := getD_mem (fun c => c.natAbs ≤ 32000) (by simp) h
  rw [Int.natAbs_mul, Int.natAbs_natCast]
  exact Nat.le_trans (Nat.mul_le_mul (show k + 1 ≤ 5 by omega) this) (by decide)
/-! sgderive -/
theorem sgDerive_v {p q : List Int} {i f : Nat} (h : ∀ c ∈ fam p q i f, c.natAbs ≤ 32000) : s_sgDerive (fam p q i f) = some (der p q i f) := by
  have h6 : (fam p q i f).length = 6 := by unfold fam; rw [List.length_map, List.length_range]
  unfold s_sgDerive
  obtain ⟨outs, e1, e2, e3⟩ := inv_loop (n := (fam p q i f).length) (f := fun j (outs : List Int) => s_sgDerive_1003 outs (fam p q i f) (fam p q i f).length (j : Int)) (fun j outs => outs.length = j - 1 ∧ ∀ k, k < j - 1 → outs.getD k 0 = ((k + 1 : Nat) : Int) * (fam p q i f).getD (k + 1) 0) (fun j outs hj ho => by
    obtain ⟨o1, o2⟩ := ho
    have hg : (fam p q i f)[j] = (fam p q i f).getD j 0 := by rw [List.getD_eq_getElem?_getD, List.getElem?_eq_getElem hj]; rfl
    have hb : ((fam p q i f).getD j 0).natAbs ≤ 32000 := getD_mem (fun c => c.natAbs ≤ 32000) (by simp) h
    by_cases h0 : j = 0
    · subst h0
      refine ⟨outs, ?_, o1, fun k hk => by omega⟩
      show s_sgDerive_1003 _ _ _ _ = s_sgDerive_1003 _ _ _ _
      rw [Es_sgDerive_1003, ct (ltt hj), ct (bA hj), cf (by decide), sc hj (by omega)]
    · have hm : ((j : Int) * (fam p q i f).getD j 0).natAbs ≤ 6 * 32000 := by
        rw [Int.natAbs_mul, Int.natAbs_natCast]; exact Nat.mul_le_mul (by omega) hb
      refine ⟨outs ++ [(j : Int) * (fam p q i f).getD j 0], ?_, by simp [o1]; omega, fun k hk => ?_⟩
      · show s_sgDerive_1003 _ _ _ _ = s_sgDerive_1003 _ _ _ _
        rw [Es_sgDerive_1003, ct (ltt hj), ct (bA hj), ct (decide_eq_true (by omega)), gD hj, hg, wrap64 (n := (j : Int) * (fam p q i f).getD j 0) (by omega) (by omega), ct (by simp [o1]; omega), sc hj (by omega)]
      · by_cases hk2 : k < outs.length
        · rw [List.getD_eq_getElem?_getD, List.getElem?_append_left hk2, ← List.getD_eq_getElem?_getD, o2 k (by omega)]
        · have : k = outs.length := by omega
          subst this
          rw [List.getD_eq_getElem?_getD, List.getElem?_append_right (Nat.le_refl _), o1, show j - 1 + 1 = j by omega]
          simp) [] ⟨rfl, fun k hk => by omega⟩
  refine e1.trans ?_
  show s_sgDerive_1003 _ _ _ _ = _
  rw [Es_sgDerive_1003, cf ltf]
  rw [h6] at e2 e3
  refine congrArg some (ext_getD (by simp [der, e2]) fun k hk => ?_)
  rw [e3 k (by omega), der_getD]
/-! long -/
/-! numbers of any length, to the base 2^32 -/
def B32 : Int := 4294967296
def dg (l : List Int) (i : Nat) : Int := l.getD i 0
/-- The value of the first n digits. -/
def dv (l : List Int) : Nat → Int
  | 0 => 0
  | n + 1 => dv l n + dg l n * 2 ^ (32 * n)
def dOkL (l : List Int) : Prop := ∀ d ∈ l, 0 ≤ d ∧ d < 4294967296
def lv (a : Bool × List Int) : Int := if a.1 then -dv a.2 a.2.length else dv a.2 a.2.length
theorem dg_bnd {l : List Int} (h : dOkL l) (i : Nat) : 0 ≤ dg l i ∧ dg l i < 4294967296 := by
  unfold dg
  by_cases hi : i < l.length
  · rw [List.getD_eq_getElem?_getD, List.getElem?_eq_getElem hi]; exact h _ (List.getElem_mem hi)
  · rw [List.getD_eq_getElem?_getD, List.getElem?_eq_none (by omega)]; exact ⟨by decide, by decide⟩
theorem dg_out {l : List Int} {i : Nat} (h : l.length ≤ i) : dg l i = 0 := by
  unfold dg; rw [List.getD_eq_getElem?_getD, List.getElem?_eq_none h]; rfl
theorem dg_app {l : List Int} {x : Int} {i : Nat} (h : i < l.length) : dg (l ++ [x]) i = dg l i := by
  unfold dg; rw [List.getD_eq_getElem?_getD, List.getD_eq_getElem?_getD, List.getElem?_append_left h]
theorem dg_app' {l : List Int} {x : Int} : dg (l ++ [x]) l.length = x := by
  unfold dg; rw [List.getD_eq_getElem?_getD, List.getElem?_append_right (Nat.le_refl _)]; simp
theorem dv_app {l : List Int} {x : Int} : ∀ {n : Nat}, n ≤ l.length → dv (l ++ [x]) n = dv l n
  | 0, _ => rfl
  | n + 1, h => by unfold dv; rw [dv_app (by omega), dg_app (by omega)]
theorem dv_snoc {l : List Int} {x : Int} : dv (l ++ [x]) (l ++ [x]).length = dv l l.length + x * 2 ^ (32 * l.length) := by
  rw [List.length_append, List.length_singleton]
  show dv (l ++ [x]) l.length + dg (l ++ [x]) l.length * _ = _
  rw [dv_app (Nat.le_refl _), dg_app']
theorem dv_more {l : List Int} : ∀ {n : Nat}, l.length ≤ n → dv l n = dv l l.length := by
  intro n h
  induction n with
  | zero => rw [show l.length = 0 by omega]
  | succ n ih =>
    by_cases e : l.length = n + 1
    · rw [e]
    · show dv l n + dg l n * _ = _; rw [dg_out (by omega), ih (by omega)]; simp
theorem dv_bnd {l : List Int} (h : dOkL l) : ∀ n, 0 ≤ dv l n ∧ dv l n < 2 ^ (32 * n)
  | 0 => ⟨by simp [dv], by simp [dv]⟩
  | n + 1 => by
    have ih := dv_bnd h n
    have hd := dg_bnd h n
    have hp : (0 : Int) < 2 ^ (32 * n) := Int.pow_pos (by decide)
    have e : (2 : Int) ^ (32 * (n + 1)) = 4294967296 * 2 ^ (32 * n) := by rw [show 32 * (n + 1) = 32 + 32 * n by omega, Int.pow_add]; rfl
    unfold dv
    have h1 : 0 ≤ dg l n * 2 ^ (32 * n) := Int.mul_nonneg hd.1 (by omega)
    have h2 : dg l n * 2 ^ (32 * n) ≤ 4294967295 * 2 ^ (32 * n) := Int.mul_le_mul_of_nonneg_right (by omega) (by omega)
    rw [e]
    constructor <;> omega
theorem wrap32 (n : Int) : IntKind.wrap .u32 n = n % 4294967296 := by
  unfold IntKind.wrap
  rw [show IntKind.signed .u32 = false from rfl, show IntKind.bits .u32 = 32 from rfl]
  simp
theorem dOkL_nil : dOkL [] := fun d hd => by cases hd
theorem dOkL_snoc {l : List Int} {x : Int} (h : dOkL l) (hx : 0 ≤ x ∧ x < 4294967296) : dOkL (l ++ [x]) := by
  intro d hd
  rcases List.mem_append.1 hd with hd | hd
  · exact h d hd
  · rw [List.mem_singleton.1 hd]; exact hx
theorem pow32 (n : Nat) : (2 : Int) ^ (32 * (n + 1)) = 4294967296 * 2 ^ (32 * n) := by rw [show 32 * (n + 1) = 32 + 32 * n by omega, Int.pow_add]; rfl

/-- A product with a small number. -/
theorem times_v {s : Bool} {l : List Int} {n : Int} (hl : dOkL l) (hlen : l.length ≤ 1000) (hn : n.natAbs ≤ 4294967295) :
    ∃ r, i_long_times s l n = some r ∧ lv r = lv (s, l) * n ∧ dOkL r.2 ∧ r.2.length = l.length + 1 := by
  unfold i_long_times
  obtain ⟨⟨outs, c⟩, e1, h1, h2, h3, h4, h5⟩ := inv_loop (n := l.length) (f := fun i (t : List Int × Int) => i_long_times_1004 n false (!s == decide (n < 0)) t.1 t.2 l l.length (i : Int))
    (fun i t => t.1.length = i ∧ dOkL t.1 ∧ 0 ≤ t.2 ∧ t.2 < 4294967296 ∧ dv t.1 i + t.2 * 2 ^ (32 * i) = dv l i * (n.natAbs : Int)) (fun i t hi ht => by
      obtain ⟨outs, c⟩ := t
      obtain ⟨t1, t2, t3, t4, t5⟩ := ht
      simp only at t1 t2 t3 t4 t5
      have hd := dg_bnd hl i
      have hg : List.getD l (Int.toNat (i : Int)) 0 = dg l i := by unfold dg; rw [Int.toNat_natCast]
      have hm0 : 0 ≤ dg l i * (n.natAbs : Int) := Int.mul_nonneg hd.1 (by omega)
      have hm1 : dg l i * (n.natAbs : Int) ≤ 4294967295 * 4294967295 := Int.mul_le_mul (by omega) (by omega) (by omega) (by omega)
      refine ⟨(outs ++ [(c + dg l i * n.natAbs) % 4294967296], (c + dg l i * n.natAbs) / 4294967296), ?_, ?_, ?_, ?_, ?_, ?_⟩
      · show i_long_times_1004 _ _ _ _ _ _ _ _ = i_long_times_1004 _ _ _ _ _ _ _ _
        rw [Ei_long_times_1004, ct (ltt hi), ct (bA hi), hg, bsome (size_v (by omega) (by omega))]
        rw [show IntKind.wrap .u64 (dg l i) = dg l i by rw [wrapu]; omega, show IntKind.wrap .u64 (dg l i * (n.natAbs : Int)) = dg l i * n.natAbs by rw [wrapu]; omega,
          show IntKind.wrap .u64 (c + dg l i * (n.natAbs : Int)) = c + dg l i * n.natAbs by rw [wrapu]; omega, wrap32, sc hi (by omega)]
        rw [ct (by simp; omega), show (2 : Int) ^ min (Int.toNat 32) (IntKind.bits .u64) = ((4294967296 : Nat) : Int) by decide, Int.fdiv_eq_ediv_of_nonneg _ (by omega)]
        rfl
      · simp [t1]
      · exact dOkL_snoc t2 (by omega)
      · show 0 ≤ (c + dg l i * n.natAbs) / 4294967296; omega
      · show (c + dg l i * n.natAbs) / 4294967296 < 4294967296; omega
      · show dv (outs ++ [_]) (i + 1) + (c + dg l i * n.natAbs) / 4294967296 * 2 ^ (32 * (i + 1)) = dv l (i + 1) * _
        have e : dv (outs ++ [(c + dg l i * n.natAbs) % 4294967296]) (i + 1) = dv outs i + (c + dg l i * n.natAbs) % 4294967296 * 2 ^ (32 * i) := by
          have := @dv_snoc outs ((c + dg l i * n.natAbs) % 4294967296)
          rw [List.length_append, List.length_singleton, t1] at this
          exact this
        rw [e, pow32]
        show _ = (dv l i + dg l i * 2 ^ (32 * i)) * _
        rw [Int.add_mul, ← t5]
        generalize hq : c + dg l i * n.natAbs = q
        have hqe := Int.emod_add_mul_ediv q 4294967296
        have h6 : dg l i * 2 ^ (32 * i) * (n.natAbs : Int) = (q - c) * 2 ^ (32 * i) := by rw [← hq, Int.mul_right_comm]; congr 1; omega
        rw [h6, ← Int.mul_assoc, Int.sub_mul]
        have h7 : q * 2 ^ (32 * i) = q % 4294967296 * 2 ^ (32 * i) + q / 4294967296 * 4294967296 * 2 ^ (32 * i) := by
          rw [← Int.add_mul]; congr 1; omega
        omega) ([], 0) ⟨rfl, dOkL_nil, by decide, by decide, by simp [dv]⟩
  simp only at h1 h2 h3 h4 h5
  refine ⟨(!s == decide (n < 0), outs ++ [c]), ?_, ?_, dOkL_snoc h2 ⟨h3, h4⟩, by simp [h1]⟩
  · refine e1.trans ?_
    show i_long_times_1004 _ _ _ _ _ _ _ _ = _
    rw [Ei_long_times_1004, cf ltf, wrap32, show c % 4294967296 = c by omega, ct (by simp; omega)]
  · unfold lv
    simp only
    have e : dv (outs ++ [c]) (outs ++ [c]).length = dv l l.length * n.natAbs := by rw [dv_snoc, h1]; exact h5
    rw [e]
    by_cases hn0 : n < 0
    · have : n = -(n.natAbs : Int) := by omega
      conv => rhs; rw [this]
      cases s <;> simp [hn0, Int.neg_mul, Int.mul_neg]
    · have : n = (n.natAbs : Int) := by omega
      conv => rhs; rw [this]
      cases s <;> simp [hn0, Int.neg_mul]
/-! long2 -/
theorem digit_v {s : Bool} {l : List Int} {i : Nat} : i_long_digit s l (i : Int) = some (dg l i) := by
  unfold i_long_digit
  by_cases h : i < l.length
  · rw [ct (ltt h), ct (bA h), Int.toNat_natCast]; rfl
  · rw [cf (by simp; omega), dg_out (by omega)]
theorem cmp32_v (x y : Int) : cmp_Compare_uint32 x y = some (Int.sign (x - y)) := by
  unfold cmp_Compare_uint32
  simp only [decide_true, Bool.not_true, cond_false, Bool.cond_decide]
  split
  · rw [Int.sign_eq_neg_one_of_neg (by omega)]
  · split
    · rw [Int.sign_eq_one_of_pos (by omega)]
    · rw [show x - y = 0 by omega]; rfl
theorem compareDigits_loop {s s' : Bool} {a b : List Int} (ha : dOkL a) (hb : dOkL b) : ∀ n : Nat, n ≤ 1000 → i_compareDigits_1002 s a s' b ((n : Int) - 1) = some (Int.sign (dv a n - dv b n))
  | 0, _ => by rw [Ei_compareDigits_1002, cf (by simp)]; rfl
  | n + 1, hn => by
    have h1 := dv_bnd ha n
    have h2 := dv_bnd hb n
    have hp : (0 : Int) < 2 ^ (32 * n) := Int.pow_pos (by decide)
    rw [Ei_compareDigits_1002, show ((n + 1 : Nat) : Int) - 1 = (n : Int) by omega, ct (by simp), bsome digit_v, bsome digit_v, bsome (cmp32_v ..)]
    show _ = some (Int.sign (dv a n + dg a n * 2 ^ (32 * n) - (dv b n + dg b n * 2 ^ (32 * n))))
    rcases Int.lt_trichotomy (dg a n) (dg b n) with h | h | h
    · rw [ct (by simp [Int.sign_eq_zero_iff_zero]; omega), Int.sign_eq_neg_one_of_neg (by omega)]
      have : dg a n * 2 ^ (32 * n) + 2 ^ (32 * n) ≤ dg b n * 2 ^ (32 * n) := by
        have := Int.mul_le_mul_of_nonneg_right (show dg a n + 1 ≤ dg b n by omega) (Int.le_of_lt hp)
        rw [Int.add_mul] at this; omega
      rw [Int.sign_eq_neg_one_of_neg (by omega)]
    · rw [cf (by simp [h]), wrap64 (by omega) (by omega), compareDigits_loop ha hb n (by omega)]
      congr 2; rw [h]; omega
    · rw [ct (by simp [Int.sign_eq_zero_iff_zero]; omega), Int.sign_eq_one_of_pos (by omega)]
      have : dg b n * 2 ^ (32 * n) + 2 ^ (32 * n) ≤ dg a n * 2 ^ (32 * n) := by
        have := Int.mul_le_mul_of_nonneg_right (show dg b n + 1 ≤ dg a n by omega) (Int.le_of_lt hp)
        rw [Int.add_mul] at this; omega
      rw [Int.sign_eq_one_of_pos (by omega)]
theorem compareDigits_v {s s' : Bool} {a b : List Int} (ha : dOkL a) (hb : dOkL b) (la : a.length ≤ 1000) (lb : b.length ≤ 1000) : i_compareDigits s a s' b = some (Int.sign (dv a a.length - dv b b.length)) := by
  unfold i_compareDigits
  have hm : (bif decide ((a.length : Int) < (b.length : Int)) then (b.length : Int) else (a.length : Int)) = ((max a.length b.length : Nat) : Int) := by
    by_cases h : a.length < b.length
    · rw [ct (by simp; omega)]; omega
    · rw [cf (by simp; omega)]; omega
  rw [hm, wrap64 (by omega) (by omega), compareDigits_loop ha hb _ (by omega), dv_more (l := a) (by omega), dv_more (l := b) (by omega)]
/-- A sum of which the first number is not less than the second. -/
theorem plusLoop {s s' z : Bool} {a b : List Int} (ha : dOkL a) (hb : dOkL b) (la : a.length ≤ 1000) (lb : b.length ≤ 1000) (hge : dv b b.length ≤ dv a a.length) :
    ∃ r, i_long_plus_3 s a s' b z = some (s, r) ∧ dOkL r ∧ r.length = a.length + 1 ∧ dv r r.length = if s = s' then dv a a.length + dv b b.length else dv a a.length - dv b b.length := by
  -- the second number has no digits above the first one's
  have hbv : ∀ n, a.length + 1 ≤ n → dv b n = dv b b.length := by
    intro n hn
    by_cases h : b.length ≤ n
    · exact dv_more h
    · have mono : ∀ m k, dv b m ≤ dv b (m + k) := by
        intro m k
        induction k with
        | zero => exact Int.le_refl _
        | succ k ih => exact Int.le_trans ih (by
            show _ ≤ dv b (m + k) + dg b (m + k) * 2 ^ (32 * (m + k))
            have h2 : (0 : Int) < 2 ^ (32 * (m + k)) := Int.pow_pos (by decide)
            have := Int.mul_nonneg (dg_bnd hb (m + k)).1 (Int.le_of_lt h2)
            omega)
      have hz : ∀ i, a.length ≤ i → dg b i = 0 := by
        intro i hi
        by_cases hib : i < b.length
        · have h1 : dv b (i + 1) ≤ dv b b.length := by have := mono (i + 1) (b.length - (i + 1)); rwa [show i + 1 + (b.length - (i + 1)) = b.length by omega] at this
          have h2 := (dv_bnd ha a.length).2
          have h3 := (dv_bnd hb i).1
          have h4 : (2 : Int) ^ (32 * a.length) ≤ 2 ^ (32 * i) := by exact_mod_cast Nat.pow_le_pow_right (by decide) (by omega)
          have h5 : dv b i + dg b i * 2 ^ (32 * i) < 2 ^ (32 * i) := by
            have : dv b (i + 1) = dv b i + dg b i * 2 ^ (32 * i) := rfl
            omega
          have h6 := (dg_bnd hb i).1
          by_cases h7 : dg b i = 0
          · exact h7
          · have := Int.mul_le_mul_of_nonneg_right (show 1 ≤ dg b i by omega) (Int.le_of_lt (show (0 : Int) < 2 ^ (32 * i) from Int.pow_pos (by decide)))
            omega
        · exact dg_out (by omega)
      have st : ∀ k, dv b (n + k) = dv b n := by
        intro k
        induction k with
        | zero => rfl
        | succ k ih => show dv b (n + k) + dg b (n + k) * _ = _; rw [hz (n + k) (by omega), ih]; simp
      have := st (b.length - n)
      rw [show n + (b.length - n) = b.length by omega] at this
      exact this.symm
  let sg : Int := if s = s' then 1 else -1
  have hsg : sg = 1 ∨ sg = -1 := by by_cases h : s = s' <;> simp [sg, h]
  have hbn := hbv (a.length + 1) (Nat.le_refl _)
  have han : dv a (a.length + 1) = dv a a.length := dv_more (by omega)
  rw [Ei_long_plus_3, wrap64 (by omega) (by omega), show (a.length : Int) + 1 = ((a.length + 1 : Nat) : Int) by omega]
  obtain ⟨⟨outs, c⟩, e1, h1, h2, h3, h4, h5⟩ := inv_loop (n := a.length + 1) (f := fun i (t : List Int × Int) => i_long_plus_1006 s a s' b z s t.1 t.2 ((a.length + 1 : Nat) : Int) (i : Int))
    (fun i t => t.1.length = i ∧ dOkL t.1 ∧ -1 ≤ t.2 ∧ t.2 ≤ 1 ∧ dv t.1 i + t.2 * 2 ^ (32 * i) = dv a i + sg * dv b i) (fun i t hi ht => by
      obtain ⟨outs, c⟩ := t
      obtain ⟨t1, t2, t3, t4, t5⟩ := ht
      simp only at t1 t2 t3 t4 t5
      have hda := dg_bnd ha i
      have hdb := dg_bnd hb i
      have main : ∀ q : Int, q = c + dg a i + sg * dg b i → (outs ++ [q % 4294967296]).length = i + 1 ∧ dOkL (outs ++ [q % 4294967296]) ∧ -1 ≤ q / 4294967296 ∧ q / 4294967296 ≤ 1 ∧ dv (outs ++ [q % 4294967296]) (i + 1) + q / 4294967296 * 2 ^ (32 * (i + 1)) = dv a (i + 1) + sg * dv b (i + 1) := by
        intro q hq
        have hb1 : -4294967296 ≤ q ∧ q ≤ 2 * 4294967295 + 1 := by rcases hsg with e | e <;> rw [e] at hq <;> omega
        refine ⟨by simp [t1], dOkL_snoc t2 (by omega), by omega, by omega, ?_⟩
        have e : dv (outs ++ [q % 4294967296]) (i + 1) = dv outs i + q % 4294967296 * 2 ^ (32 * i) := by
          have := @dv_snoc outs (q % 4294967296)
          rw [List.length_append, List.length_singleton, t1] at this
          exact this
        rw [e, pow32]
        show _ = dv a i + dg a i * 2 ^ (32 * i) + sg * (dv b i + dg b i * 2 ^ (32 * i))
        have h7 : q * 2 ^ (32 * i) = q % 4294967296 * 2 ^ (32 * i) + q / 4294967296 * 4294967296 * 2 ^ (32 * i) := by
          rw [← Int.add_mul]; congr 1; omega
        have h8 : q * 2 ^ (32 * i) = c * 2 ^ (32 * i) + dg a i * 2 ^ (32 * i) + sg * (dg b i * 2 ^ (32 * i)) := by
          rw [hq, Int.add_mul, Int.add_mul, Int.mul_assoc]
        rw [← Int.mul_assoc, Int.mul_add]
        omega
      by_cases hs : s = s'
      · have hsg1 : sg = 1 := by simp [sg, hs]
        refine ⟨(outs ++ [(c + dg a i + dg b i) % 4294967296], (c + dg a i + dg b i) / 4294967296), ?_, main _ (by rw [hsg1]; omega)⟩
        show i_long_plus_1006 _ _ _ _ _ _ _ _ _ _ = i_long_plus_1006 _ _ _ _ _ _ _ _ _ _
        rw [Ei_long_plus_1006, ct (ltt hi), bsome digit_v, ct (by simp [hs]), bsome digit_v, wrap64 (n := dg a i) (by omega) (by omega), wrap64 (n := dg b i) (by omega) (by omega), wrap64 (n := c + dg a i) (by omega) (by omega), wrap64 (n := c + dg a i + dg b i) (by omega) (by omega), wrap32, sc hi (by omega)]
        rw [ct (by simp; omega), show (2 : Int) ^ min (Int.toNat 32) (IntKind.bits .i64) = ((4294967296 : Nat) : Int) by decide, Int.fdiv_eq_ediv_of_nonneg _ (by omega)]
        rfl
      · have hsg1 : sg = -1 := by simp [sg, hs]
        refine ⟨(outs ++ [(c + dg a i - dg b i) % 4294967296], (c + dg a i - dg b i) / 4294967296), ?_, main _ (by rw [hsg1]; omega)⟩
        show i_long_plus_1006 _ _ _ _ _ _ _ _ _ _ = i_long_plus_1006 _ _ _ _ _ _ _ _ _ _
        rw [Ei_long_plus_1006, ct (ltt hi), bsome digit_v, cf (by simp [hs]), bsome digit_v, wrap64 (n := dg a i) (by omega) (by omega), wrap64 (n := dg b i) (by omega) (by omega), wrap64 (n := c + dg a i) (by omega) (by omega), wrap64 (n := c + dg a i - dg b i) (by omega) (by omega), wrap32, sc hi (by omega)]
        rw [ct (by simp; omega), show (2 : Int) ^ min (Int.toNat 32) (IntKind.bits .i64) = ((4294967296 : Nat) : Int) by decide, Int.fdiv_eq_ediv_of_nonneg _ (by omega)]
        rfl) ([], 0) ⟨rfl, dOkL_nil, by decide, by decide, by simp [dv]⟩
  simp only at h1 h2 h3 h4 h5
  have hA := dv_bnd ha a.length
  have hB := (dv_bnd hb b.length).1
  have hO := dv_bnd h2 (a.length + 1)
  rw [han, hbn] at h5
  have hpp := pow32 a.length
  have hT : 0 ≤ dv a a.length + sg * dv b b.length ∧ dv a a.length + sg * dv b b.length < 2 ^ (32 * (a.length + 1)) := by rcases hsg with e | e <;> rw [e] <;> constructor <;> omega
  have hc : c = 0 := by
    rcases (show c = -1 ∨ c = 0 ∨ c = 1 by omega) with rfl | rfl | rfl
    · omega
    · rfl
    · omega
  refine ⟨outs, ?_, h2, h1, ?_⟩
  · refine e1.trans ?_
    show i_long_plus_1006 _ _ _ _ _ _ _ _ _ _ = _
    rw [Ei_long_plus_1006, cf ltf]
  · rw [h1]
    rw [hc] at h5
    by_cases hs : s = s'
    · rw [if_pos hs]; have : sg = 1 := by simp [sg, hs]
      rw [this] at h5; omega
    · rw [if_neg hs]; have : sg = -1 := by simp [sg, hs]
      rw [this] at h5; omega
theorem plus_v {s s' : Bool} {a b : List Int} (ha : dOkL a) (hb : dOkL b) (la : a.length ≤ 1000) (lb : b.length ≤ 1000) :
    ∃ r, i_long_plus s a s' b = some r ∧ lv r = lv (s, a) + lv (s', b) ∧ dOkL r.2 ∧ r.2.length ≤ max a.length b.length + 1 := by
  unfold i_long_plus
  rw [bsome (compareDigits_v ha hb la lb)]
  by_cases h : dv a a.length < dv b b.length
  · obtain ⟨r, e1, e2, e3, e4⟩ := plusLoop (s := s') (s' := s) (z := false) hb ha lb la (by omega)
    refine ⟨(s', r), by rw [ct (by rw [Int.sign_eq_neg_one_of_neg (by omega)]; decide), e1], ?_, e2, by simp only; omega⟩
    unfold lv
    simp only [e4]
    cases s <;> cases s' <;> simp <;> omega
  · obtain ⟨r, e1, e2, e3, e4⟩ := plusLoop (s := s) (s' := s') (z := false) ha hb la lb (by omega)
    refine ⟨(s, r), ?_, ?_, e2, by simp only; omega⟩
    · have : 0 ≤ Int.sign (dv a a.length - dv b b.length) := by
        rcases Int.lt_trichotomy (dv a a.length - dv b b.length) 0 with hh | hh | hh
        · omega
        · rw [hh]; decide
        · rw [Int.sign_eq_one_of_pos hh]; decide
      rw [cf (by simp; omega), e1]
    unfold lv
    simp only [e4]
    cases s <;> cases s' <;> simp <;> omega
theorem dv_rep (z : Nat) : ∀ n, dv (List.replicate z 0) n = 0
  | 0 => rfl
  | n + 1 => by
    have : dg (List.replicate z 0) n = 0 := by
      unfold dg
      rw [List.getD_eq_getElem?_getD, List.getElem?_replicate]
      split <;> rfl
    unfold dv; rw [dv_rep z n, this]; simp
theorem longOf_v {n : Int} {k : Nat} (hn : n.natAbs ≤ 4611686018427387904) (hk : k ≤ 1000) : ∃ r, i_longOf n (k : Int) = some r ∧ lv r = n * 2 ^ k ∧ dOkL r.2 ∧ r.2.length = k / 32 + 3 := by
  have htm : Int.tmod (k : Int) 32 = ((k % 32 : Nat) : Int) := by rw [Int.tmod_eq_emod_of_nonneg (by omega)]; omega
  have htd : Int.tdiv (k : Int) 32 = ((k / 32 : Nat) : Int) := by rw [Int.tdiv_eq_ediv_of_nonneg (by omega)]; omega
  generalize hm : k % 32 = m
  generalize hz : k / 32 = z
  rw [hm] at htm
  rw [hz] at htd
  have hm32 : m < 32 := by omega
  have hkz : k = 32 * z + m := by omega
  have hpm : 0 < 2 ^ m := Nat.two_pow_pos m
  have hsplit : 2 ^ (64 - m) * 2 ^ m = 2 ^ 64 := by rw [← Nat.pow_add]; congr 1; omega
  have hq : n.natAbs * 2 ^ m / 2 ^ 64 = n.natAbs / 2 ^ (64 - m) := by rw [← hsplit, Nat.mul_div_mul_right _ _ hpm]
  have hw : n.natAbs / 2 ^ (64 - m) < 4294967296 := by
    rw [Nat.div_lt_iff_lt_mul (Nat.two_pow_pos _)]
    have : 2 ^ 33 ≤ 2 ^ (64 - m) := Nat.pow_le_pow_right (by decide) (by omega)
    omega
  have val : ∀ w : Nat, w = n.natAbs / 2 ^ (64 - m) → ∀ r : Bool × List Int, r = (decide (n < 0), List.replicate z 0 ++ [((n.natAbs * 2 ^ m % 18446744073709551616 % 4294967296 : Nat) : Int), ((n.natAbs * 2 ^ m % 18446744073709551616 / 4294967296 : Nat) : Int), (w : Int)]) → lv r = n * 2 ^ k ∧ dOkL r.2 ∧ r.2.length = z + 3 := by
    intro w hw' r hr
    subst hr
    have hlen : (List.replicate z (0 : Int)).length = z := by simp
    have e : dv (List.replicate z 0 ++ [((n.natAbs * 2 ^ m % 18446744073709551616 % 4294967296 : Nat) : Int), ((n.natAbs * 2 ^ m % 18446744073709551616 / 4294967296 : Nat) : Int), (w : Int)]) (z + 3) = ((n.natAbs * 2 ^ m : Nat) : Int) * 2 ^ (32 * z) := by
      have s1 := @dv_snoc (List.replicate z (0 : Int)) ((n.natAbs * 2 ^ m % 18446744073709551616 % 4294967296 : Nat) : Int)
      have s2 := @dv_snoc (List.replicate z (0 : Int) ++ [((n.natAbs * 2 ^ m % 18446744073709551616 % 4294967296 : Nat) : Int)]) ((n.natAbs * 2 ^ m % 18446744073709551616 / 4294967296 : Nat) : Int)
      have s3 := @dv_snoc (List.replicate z (0 : Int) ++ [((n.natAbs * 2 ^ m % 18446744073709551616 % 4294967296 : Nat) : Int)] ++ [((n.natAbs * 2 ^ m % 18446744073709551616 / 4294967296 : Nat) : Int)]) (w : Int)
      rw [s2, s1, hlen, dv_rep] at s3
      simp only [List.length_append, List.length_cons, List.length_nil, List.append_assoc, List.cons_append, List.nil_append, hlen, Nat.zero_add, Nat.add_assoc, Nat.reduceAdd] at s3
      rw [s3, show z + 2 = z + 1 + 1 by omega, pow32 (z + 1), pow32 z]
      have h9 := Nat.div_add_mod (n.natAbs * 2 ^ m) (2 ^ 64)
      rw [hq, ← hw'] at h9
      rw [show (2 : Nat) ^ 64 = 18446744073709551616 by decide] at h9
      generalize n.natAbs * 2 ^ m = Q at h9 ⊢
      have : (Q : Int) * 2 ^ (32 * z) = ((Q % 18446744073709551616 % 4294967296 : Nat) : Int) * 2 ^ (32 * z) + ((Q % 18446744073709551616 / 4294967296 : Nat) : Int) * (4294967296 * 2 ^ (32 * z)) + (w : Int) * (4294967296 * (4294967296 * 2 ^ (32 * z))) := by
        rw [← Int.mul_assoc, ← Int.mul_assoc, ← Int.mul_assoc, ← Int.add_mul, ← Int.add_mul]
        congr 1
        omega
      omega
    refine ⟨?_, ?_, by simp⟩
    · unfold lv
      simp only
      rw [show (List.replicate z (0 : Int) ++ [((n.natAbs * 2 ^ m % 18446744073709551616 % 4294967296 : Nat) : Int), ((n.natAbs * 2 ^ m % 18446744073709551616 / 4294967296 : Nat) : Int), (w : Int)]).length = z + 3 by simp, e]
      have hp : (2 : Int) ^ k = ((2 ^ m : Nat) : Int) * 2 ^ (32 * z) := by rw [hkz, Nat.add_comm, Int.pow_add]; simp
      rw [hp, ← Int.mul_assoc]
      by_cases h : n < 0
      · have : n = -(n.natAbs : Int) := by omega
        rw [if_pos (by simpa using h)]
        conv => rhs; rw [this]
        simp [Int.neg_mul]
      · have : n = (n.natAbs : Int) := by omega
        rw [if_neg (by simpa using h)]
        conv => rhs; rw [this]
        simp
    · intro d hd
      simp only [List.mem_append, List.mem_replicate, List.mem_cons, List.not_mem_nil, or_false] at hd
      rcases hd with hd | hd | hd | hd
      · omega
      · omega
      · omega
      · omega
  have w32 : ∀ x : Nat, IntKind.wrap .u32 (x : Int) = ((x % 4294967296 : Nat) : Int) := fun x => by rw [wrap32]; omega
  have wU : IntKind.wrap .u64 ((n.natAbs : Int) * 2 ^ min (Int.toNat (m : Int)) (IntKind.bits .u64)) = ((n.natAbs * 2 ^ m % 18446744073709551616 : Nat) : Int) := by
    rw [Int.toNat_natCast, bits64, Nat.min_eq_left (by omega), pow_nat, wrapu]
    have : (n.natAbs : Int) * ((2 ^ m : Nat) : Int) = ((n.natAbs * 2 ^ m : Nat) : Int) := by simp
    rw [this]; omega
  have f32 : ∀ x : Nat, Int.fdiv (x : Int) (2 ^ min (Int.toNat 32) (IntKind.bits .u64)) = ((x / 4294967296 : Nat) : Int) := fun x => by
    rw [show (2 : Int) ^ min (Int.toNat 32) (IntKind.bits .u64) = ((4294967296 : Nat) : Int) by decide, fdiv_nat]
  have hlow : n.natAbs * 2 ^ m % 18446744073709551616 / 4294967296 % 4294967296 = n.natAbs * 2 ^ m % 18446744073709551616 / 4294967296 := by omega
  unfold i_longOf
  rw [htm, htd, bsome (size_v (by omega) (by omega)), ct (by simp)]
  simp only [wU, w32, f32, hlow]
  rw [wrap64 (n := (z : Int)) (by omega) (by omega)]
  by_cases h0 : m = 0
  · rw [cf (by simp [h0]), ct (by simp), ct (by simp), ct (by simp; omega), ct (by simp; omega)]
    have h1 : n.natAbs / 2 ^ (64 - m) = 0 := by
      rw [h0]; exact Nat.div_eq_of_lt (Nat.lt_of_le_of_lt hn (by decide))
    exact ⟨_, rfl, val 0 h1.symm _ rfl⟩
  · rw [ct (by simp; omega), bsome (size_v (by omega) (by omega)), wrap64 (n := 64 - (m : Int)) (by omega) (by omega), ct (by simp; omega), ct (by simp), ct (by simp), ct (by simp; omega), ct (by simp; omega)]
    refine ⟨_, rfl, val (n.natAbs / 2 ^ (64 - m)) rfl _ ?_⟩
    rw [show Int.toNat (64 - (m : Int)) = 64 - m by omega, bits64, Nat.min_eq_left (by omega), pow_nat, fdiv_nat, w32, Nat.mod_eq_of_lt hw, Int.toNat_natCast]
    rfl
theorem dv_zero {l : List Int} (h : dOkL l) : ∀ n, dv l n = 0 ↔ ∀ i, i < n → dg l i = 0
  | 0 => by simp [dv]
  | n + 1 => by
    have ih := dv_zero h n
    have h1 := (dv_bnd h n).1
    have hp : (0 : Int) < 2 ^ (32 * n) := Int.pow_pos (by decide)
    have h2 := Int.mul_nonneg (dg_bnd h n).1 (Int.le_of_lt hp)
    constructor
    · intro e
      have e : dv l n + dg l n * 2 ^ (32 * n) = 0 := e
      have e1 : dv l n = 0 := by omega
      have e2 : dg l n * 2 ^ (32 * n) = 0 := by omega
      intro i hi
      by_cases hin : i = n
      · rw [hin]
        rcases Int.mul_eq_zero.1 e2 with h | h
        · exact h
        · omega
      · exact ih.1 e1 i (by omega)
    · intro hz
      show dv l n + dg l n * 2 ^ (32 * n) = 0
      rw [ih.2 (fun i hi => hz i (by omega)), hz n (by omega)]; simp
theorem longSign_v {s : Bool} {l : List Int} (h : dOkL l) (hl : l.length ≤ 1000) : i_long_sign s l = some (Int.sign (lv (s, l))) := by
  unfold i_long_sign
  obtain ⟨r, e1, e2⟩ := idx_list (xs := l) (f := fun i => slices_IndexFunc_uint32_uint32_i_long_sign_1_1002 l l.length (i : Int)) (p := fun d => !decide (d = 0)) (by
    show slices_IndexFunc_uint32_uint32_i_long_sign_1_1002 _ _ _ = _
    rw [Eslices_IndexFunc_uint32_uint32_i_long_sign_1_1002, cf ltf]) (fun i hi => by
    show slices_IndexFunc_uint32_uint32_i_long_sign_1_1002 _ _ _ = if _ then _ else slices_IndexFunc_uint32_uint32_i_long_sign_1_1002 _ _ _
    rw [Eslices_IndexFunc_uint32_uint32_i_long_sign_1_1002, ct (ltt hi), ct (bA hi), gD hi, sc hi (by omega)]
    cases decide (l[i] = 0) <;> rfl)
  have hx : slices_ContainsFunc_uint32_uint32_i_long_sign_1 l = some (l.any fun d => !decide (d = 0)) := by
    unfold slices_ContainsFunc_uint32_uint32_i_long_sign_1 slices_IndexFunc_uint32_uint32_i_long_sign_1
    have e1' : slices_IndexFunc_uint32_uint32_i_long_sign_1_1002 l l.length 0 = some r := e1
    rw [bsome e1', e2]
  have hd := dv_zero h l.length
  have hb := (dv_bnd h l.length).1
  have key : (l.any fun d => !decide (d = 0)) = !decide (dv l l.length = 0) := by
    rw [Bool.eq_iff_iff, List.any_eq_true]
    simp only [Bool.not_eq_true', decide_eq_false_iff_not]
    rw [hd]
    constructor
    · rintro ⟨d, hdm, hd0⟩ hall
      obtain ⟨i, hi, rfl⟩ := List.mem_iff_getElem.1 hdm
      have := hall i hi
      unfold dg at this
      rw [List.getD_eq_getElem?_getD, List.getElem?_eq_getElem hi] at this
      exact hd0 this
    · intro hna
      apply Classical.byContradiction
      intro hne
      refine hna fun i hi => ?_
      unfold dg
      rw [List.getD_eq_getElem?_getD, List.getElem?_eq_getElem hi]
      apply Classical.byContradiction
      intro h0
      exact hne ⟨l[i], List.getElem_mem hi, h0⟩
  rw [bsome hx, key]
  unfold lv
  simp only
  by_cases h0 : dv l l.length = 0
  · rw [h0]; cases s <;> rfl
  · rw [cf (by simp [h0])]
    cases s with
    | true => rw [ct rfl, if_pos rfl, Int.sign_eq_neg_one_of_neg (by omega)]
    | false => rw [cf rfl, if_neg (by simp), Int.sign_eq_one_of_pos (by omega)]
/-! signat -/
/-- The value of coefficients at N / 2^K, times 2^K to the power of one less than their number. -/
def hv (N : Int) (K : Nat) : List Int → Int
  | [] => 0
  | p :: ps => p * 2 ^ (K * ps.length) + N * hv N K ps
theorem hv_snoc {N : Int} {K : Nat} {a : Int} : ∀ ps : List Int, hv N K (ps ++ [a]) = hv N K ps * 2 ^ K + a * N ^ ps.length
  | [] => by simp [hv]
  | p :: ps => by
    show p * 2 ^ (K * (ps ++ [a]).length) + N * hv N K (ps ++ [a]) = (p * 2 ^ (K * ps.length) + N * hv N K ps) * 2 ^ K + a * N ^ (ps.length + 1)
    rw [hv_snoc ps, List.length_append, List.length_singleton, Nat.mul_add, Nat.mul_one, Int.pow_add, Int.mul_add, Int.add_mul, Int.pow_succ]
    have e1 : p * (2 ^ (K * ps.length) * 2 ^ K) = p * 2 ^ (K * ps.length) * 2 ^ K := (Int.mul_assoc ..).symm
    have e2 : N * (hv N K ps * 2 ^ K) = N * hv N K ps * 2 ^ K := (Int.mul_assoc ..).symm
    have e3 : N * (a * N ^ ps.length) = a * (N ^ ps.length * N) := by rw [Int.mul_left_comm, Int.mul_comm N]
    rw [e1, e2, e3]; omega
theorem signAt_v {p : List Int} {N : Int} {K : Nat} (hl : p.length ≤ 9) (hp : ∀ c ∈ p, c.natAbs ≤ 4611686018427387904) (hN : N.natAbs ≤ 4294967295) (hK : K ≤ 24) : i_signAt p N (K : Int) = some (Int.sign (hv N K p)) := by
  have main : ∀ (j : Nat) (s : Bool) (ds : List Int), j ≤ p.length → dOkL ds → ds.length ≤ 12 + 2 * (p.length - j) → lv (s, ds) = hv N K (p.drop j) → i_signAt_1003 p N (K : Int) s ds ((j : Int) - 1) = some (Int.sign (hv N K p)) := by
    intro j
    induction j with
    | zero =>
      intro s ds _ hd hlen hv0
      rw [Ei_signAt_1003, cf (by simp), bret, longSign_v hd (by omega), hv0]
      rfl
    | succ j ih =>
      intro s ds hj hd hlen hv0
      have hlt : j < p.length := by omega
      have hm : K * (p.length - 1 - j) ≤ 24 * 8 := Nat.mul_le_mul hK (by omega)
      obtain ⟨r, t1, t2, t3, t4⟩ := times_v (s := s) hd (by omega) hN
      obtain ⟨q, q1, q2, q3, q4⟩ := longOf_v (n := p[j]) (k := K * (p.length - 1 - j)) (hp _ (List.getElem_mem hlt)) (by omega)
      obtain ⟨u, u1, u2, u3, u4⟩ := plus_v (s := r.1) (s' := q.1) t3 q3 (by omega) (by omega)
      have hw : IntKind.wrap .i64 ((K : Int) * IntKind.wrap .i64 (IntKind.wrap .i64 ((p.length : Int) - 1) - (j : Int))) = ((K * (p.length - 1 - j) : Nat) : Int) := by
        rw [wrap64 (n := (p.length : Int) - 1) (by omega) (by omega), wrap64 (n := (p.length : Int) - 1 - j) (by omega) (by omega),
          show (p.length : Int) - 1 - j = ((p.length - 1 - j : Nat) : Int) by omega, show (K : Int) * ((p.length - 1 - j : Nat) : Int) = ((K * (p.length - 1 - j) : Nat) : Int) by simp, wrap64 (by omega) (by omega)]
      rw [Ei_signAt_1003, show ((j + 1 : Nat) : Int) - 1 = (j : Int) by omega, ct (by simp), bsome t1, ct (bA hlt), gD hlt, hw, bsome q1, bsome u1, wrap64 (by omega) (by omega)]
      refine ih u.1 u.2 (by omega) u3 (by omega) ?_
      have e : p.drop j = p[j] :: p.drop (j + 1) := List.drop_eq_getElem_cons hlt
      rw [e]
      show lv u = p[j] * 2 ^ (K * (p.drop (j + 1)).length) + N * hv N K (p.drop (j + 1))
      rw [u2, show lv (r.1, r.2) = lv r from rfl, show lv (q.1, q.2) = lv q from rfl, t2, q2, hv0, List.length_drop, show p.length - (j + 1) = p.length - 1 - j by omega, Int.mul_comm N]
      omega
  unfold i_signAt
  rw [wrap64 (by omega) (by omega)]
  exact main p.length false [] (Nat.le_refl _) (fun d hd => by cases hd) (by simp) (by rw [List.drop_length]; rfl)
/-- The signs do not change with zeros at the end. -/
theorem hv_zeros {N : Int} {K : Nat} {ps : List Int} : ∀ n : Nat, Int.sign (hv N K (ps ++ List.replicate n 0)) = Int.sign (hv N K ps)
  | 0 => by simp
  | n + 1 => by
    have e : ps ++ List.replicate (n + 1) (0 : Int) = (ps ++ List.replicate n 0) ++ [0] := by rw [List.replicate_succ', List.append_assoc]
    rw [e, hv_snoc, Int.zero_mul, Int.add_zero, sgn_scale, hv_zeros n]
def bn : Nat → Nat
  | 0 => 0
  | n + 1 => 256 ^ n + 256 * bn n
theorem bn_le {m n : Nat} (h : m ≤ n) : bn m ≤ bn n := by
  induction h with
  | refl => exact Nat.le_refl _
  | step _ ih => exact Nat.le_trans ih (Nat.le_trans (Nat.le_mul_of_pos_left _ (show 0 < 256 by decide)) (Nat.le_add_left _ _))
theorem hv_bnd {N : Int} {K : Nat} {A : Nat} (hN : N.natAbs ≤ 256) (hK : 2 ^ K ≤ 256) : ∀ {ps : List Int}, (∀ c ∈ ps, c.natAbs ≤ A) → (hv N K ps).natAbs ≤ A * bn ps.length
  | [], _ => by simp [hv]
  | p :: ps, h => by
    have ih := hv_bnd hN hK (ps := ps) (fun c hc => h c (List.mem_cons_of_mem _ hc))
    have hp := h p (List.mem_cons_self ..)
    have h1 : (p * 2 ^ (K * ps.length)).natAbs ≤ A * 256 ^ ps.length := by
      rw [Int.natAbs_mul, show Int.natAbs (2 ^ (K * ps.length)) = 2 ^ (K * ps.length) by rw [Int.natAbs_pow]; rfl, Nat.pow_mul]
      exact Nat.mul_le_mul hp (Nat.pow_le_pow_left hK _)
    have h2 : (N * hv N K ps).natAbs ≤ 256 * (A * bn ps.length) := by
      rw [Int.natAbs_mul]; exact Nat.mul_le_mul hN ih
    have h3 := Int.natAbs_add_le (p * 2 ^ (K * ps.length)) (N * hv N K ps)
    show (p * 2 ^ (K * ps.length) + N * hv N K ps).natAbs ≤ A * (256 ^ ps.length + 256 * bn ps.length)
    rw [Nat.mul_add, Nat.mul_left_comm]
    omega
/-! sgsign -/
theorem sgSign_v {p : List Int} {N : Int} {K : Nat} (hl : p.length ≤ 6) (hp : ∀ c ∈ p, c.natAbs ≤ 32000) (hN : N.natAbs ≤ 256) (hK : K ≤ 5) : s_sgSign p N (K : Int) = some (Int.sign (hv N K p)) := by
  have hK2 : 2 ^ K ≤ 256 := Nat.le_trans (Nat.pow_le_pow_right (by decide) hK) (by decide)
  unfold s_sgSign
  obtain ⟨⟨sum, up⟩, e1, h1, h2⟩ := inv_loop (n := p.length) (f := fun i (t : Int × Int) => s_sgSign_1003 N (K : Int) t.1 t.2 p p.length (i : Int)) (fun i t => t.1 = hv N K (p.take i) ∧ t.2 = N ^ i) (fun i t hi ht => by
    obtain ⟨sum, up⟩ := t
    obtain ⟨t1, t2⟩ := ht
    simp only at t1 t2
    subst t1 t2
    have hlt : (p.take i).length = i := by rw [List.length_take]; omega
    have b1 := hv_bnd (A := 32000) (K := K) hN hK2 (ps := p.take i) (fun c hc => hp c (List.mem_of_mem_take hc))
    have b2 := hv_bnd (A := 32000) (K := K) hN hK2 (ps := p.take (i + 1)) (fun c hc => hp c (List.mem_of_mem_take hc))
    have b3 : bn (p.take (i + 1)).length ≤ bn 6 := bn_le (by rw [List.length_take]; omega)
    have b4 : bn (p.take i).length ≤ bn 5 := bn_le (by rw [List.length_take]; omega)
    have b5 : bn 6 = 6597069766656 := by decide
    have b6 : bn 5 = 21474836480 := by decide
    have hNi : (N ^ i).natAbs ≤ 256 ^ 5 := by
      rw [Int.natAbs_pow]
      exact Nat.le_trans (Nat.pow_le_pow_left hN i) (Nat.pow_le_pow_right (by decide) (by omega))
    have hNi1 : (N ^ (i + 1)).natAbs ≤ 256 ^ 6 := by
      rw [Int.natAbs_pow]
      exact Nat.le_trans (Nat.pow_le_pow_left hN _) (Nat.pow_le_pow_right (by decide) (by omega))
    have hpi := hp p[i] (List.getElem_mem hi)
    have m1 : (hv N K (p.take i) * 2 ^ K).natAbs ≤ (32000 * bn 5) * 256 := by
      rw [Int.natAbs_mul, show Int.natAbs (2 ^ K) = 2 ^ K by rw [Int.natAbs_pow]; rfl]
      exact Nat.mul_le_mul (Nat.le_trans b1 (Nat.mul_le_mul_left _ b4)) hK2
    have m2 : (p[i] * N ^ i).natAbs ≤ 32000 * 256 ^ 5 := by
      rw [Int.natAbs_mul]; exact Nat.mul_le_mul hpi hNi
    rw [b6] at m1
    have e : hv N K (p.take (i + 1)) = hv N K (p.take i) * 2 ^ K + p[i] * N ^ i := by
      rw [List.take_succ_eq_append_getElem hi, hv_snoc, hlt]
    refine ⟨(hv N K (p.take (i + 1)), N ^ (i + 1)), ?_, rfl, rfl⟩
    show s_sgSign_1003 _ _ _ _ _ _ _ = s_sgSign_1003 _ _ _ _ _ _ _
    rw [Es_sgSign_1003, ct (ltt hi), ct (bA hi), bsome (dyPower_v (by omega) (by omega)), gD hi, Int.toNat_natCast, wrap64 (n := hv N K (p.take i) * 2 ^ K) (by omega) (by omega), wrap64 (n := p[i] * N ^ i) (by omega) (by omega), wrap64 (n := hv N K (p.take i) * 2 ^ K + p[i] * N ^ i) (by omega) (by omega), sc hi (by omega), ← e, show N ^ i * N = N ^ (i + 1) from (Int.pow_succ ..).symm, wrap64 (by omega) (by omega)]) (0, 1) ⟨rfl, (by simp : (1 : Int) = N ^ 0)⟩
  refine e1.trans ?_
  show s_sgSign_1003 _ _ _ _ _ _ _ = _
  simp only at h1
  rw [Es_sgSign_1003, cf ltf, bret, l1Sign_v, h1, List.take_length]
end Go.Proofs.YtbaeikcfchiiaaaE
