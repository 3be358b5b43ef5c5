/- Plain lemmas on what the printed functions come to. -/
import Derived.Test.YtnndolcjljhhcaaSB
set_option maxRecDepth 100000
set_option linter.unusedVariables false
set_option linter.unusedSimpArgs false
namespace Go.Proofs.YtnndolcjljhhcaaE
/-! lin -/
/-! polynomials as functions to coefficients -/
def pc (l : List Int) : Nat → Int := fun k => l.getD k 0
def sh (f : Nat → Int) : Nat → Int := fun k => if k = 0 then 0 else f (k - 1)
/-- Times u + v x. -/
def Lin (u v : Int) (f : Nat → Int) : Nat → Int := fun k => u * f k + v * sh f k
def del (a : Int) : Nat → Int := fun k => if k = 0 then a else 0
def lpow (u v : Int) : Nat → (Nat → Int) → Nat → Int
  | 0, f => f
  | n + 1, f => Lin u v (lpow u v n f)
theorem sh_Lin (u v : Int) (f : Nat → Int) : sh (Lin u v f) = Lin u v (sh f) := by
  funext k
  unfold sh Lin
  cases k with
  | zero => simp [sh]
  | succ k => simp [sh]
theorem Lin_comm (u v u' v' : Int) (f : Nat → Int) : Lin u v (Lin u' v' f) = Lin u' v' (Lin u v f) := by
  funext k
  show u * Lin u' v' f k + v * sh (Lin u' v' f) k = u' * Lin u v f k + v' * sh (Lin u v f) k
  rw [sh_Lin, sh_Lin]
  show u * (u' * f k + v' * sh f k) + v * (u' * sh f k + v' * sh (sh f) k) = u' * (u * f k + v * sh f k) + v' * (u * sh f k + v * sh (sh f) k)
  simp only [Int.mul_add, ← Int.mul_assoc]
  rw [Int.mul_comm u u', Int.mul_comm u v', Int.mul_comm v u', Int.mul_comm v v']
  omega
theorem lpow_Lin (u v u' v' : Int) : ∀ (n : Nat) (f : Nat → Int), lpow u v n (Lin u' v' f) = Lin u' v' (lpow u v n f)
  | 0, f => rfl
  | n + 1, f => by show Lin u v (lpow u v n (Lin u' v' f)) = _; rw [lpow_Lin u v u' v' n f, Lin_comm]; rfl
theorem lpow_comm (u v u' v' : Int) (n : Nat) : ∀ (m : Nat) (f : Nat → Int), lpow u v n (lpow u' v' m f) = lpow u' v' m (lpow u v n f)
  | 0, f => rfl
  | m + 1, f => by show lpow u v n (Lin u' v' (lpow u' v' m f)) = _; rw [lpow_Lin, lpow_comm u v u' v' n m f]; rfl
theorem lpow_scal (u v c : Int) : ∀ (n : Nat) (f : Nat → Int), lpow u v n (fun k => c * f k) = fun k => c * lpow u v n f k
  | 0, f => rfl
  | n + 1, f => by
    show Lin u v (lpow u v n (fun k => c * f k)) = _
    rw [lpow_scal u v c n f]
    funext k
    show u * (c * lpow u v n f k) + v * sh (fun k => c * lpow u v n f k) k = c * (u * lpow u v n f k + v * sh (lpow u v n f) k)
    have : sh (fun k => c * lpow u v n f k) k = c * sh (lpow u v n f) k := by unfold sh; split <;> simp
    rw [this, Int.mul_add, Int.mul_left_comm, Int.mul_left_comm v]
theorem del_scal (a : Int) : del a = fun k => a * del 1 k := by funext k; unfold del; split <;> simp
theorem lpow_deg (u v : Int) {f : Nat → Int} {d : Nat} (h : ∀ k, d ≤ k → f k = 0) : ∀ (n k : Nat), d + n ≤ k → lpow u v n f k = 0
  | 0, k, hk => h k hk
  | n + 1, k, hk => by
    show u * lpow u v n f k + v * sh (lpow u v n f) k = 0
    have h1 := lpow_deg u v h n k (by omega)
    have h2 : sh (lpow u v n f) k = 0 := by
      unfold sh
      rw [if_neg (by omega)]
      exact lpow_deg u v h n (k - 1) (by omega)
    rw [h1, h2]; simp
theorem Lin_bnd {u v : Int} {f : Nat → Int} {A B : Nat} (h : ∀ k, (f k).natAbs ≤ A) (hu : u.natAbs ≤ B) (hv : v.natAbs ≤ B) (k : Nat) : (Lin u v f k).natAbs ≤ 2 * B * A := by
  have h1 : (u * f k).natAbs ≤ B * A := by rw [Int.natAbs_mul]; exact Nat.mul_le_mul hu (h k)
  have h2 : (v * sh f k).natAbs ≤ B * A := by
    rw [Int.natAbs_mul]
    refine Nat.mul_le_mul hv ?_
    unfold sh; split
    · simp
    · exact h _
  have := Int.natAbs_add_le (u * f k) (v * sh f k)
  show (u * f k + v * sh f k).natAbs ≤ _
  rw [Nat.mul_assoc]; omega
theorem lpow_bnd {u v : Int} {f : Nat → Int} {A B : Nat} (h : ∀ k, (f k).natAbs ≤ A) (hu : u.natAbs ≤ B) (hv : v.natAbs ≤ B) : ∀ (n k : Nat), (lpow u v n f k).natAbs ≤ (2 * B) ^ n * A
  | 0, k => by show (f k).natAbs ≤ (2 * B) ^ 0 * A; rw [Nat.pow_zero, Nat.one_mul]; exact h k
  | n + 1, k => by
    have := Lin_bnd (lpow_bnd h hu hv n) hu hv k
    show (Lin u v (lpow u v n f) k).natAbs ≤ _
    rw [Nat.pow_succ, Nat.mul_right_comm, Nat.mul_comm _ (2 * B)]
    exact this
/-! products -/
def MF (f g : Nat → Int) : Nat → Nat → Int
  | 0, _ => 0
  | i + 1, k => MF f g i k + (if i ≤ k then f i * g (k - i) else 0)
theorem MF_Lin (u v : Int) (f g : Nat → Int) : ∀ n k, MF (Lin u v f) g n k = u * MF f g n k + v * (if k = 0 then 0 else MF f g (n - 1) (k - 1))
  | 0, k => by simp [MF]
  | n + 1, k => by
    show MF (Lin u v f) g n k + (if n ≤ k then Lin u v f n * g (k - n) else 0) = u * (MF f g n k + (if n ≤ k then f n * g (k - n) else 0)) + v * (if k = 0 then 0 else MF f g n (k - 1))
    rw [MF_Lin u v f g n k]
    by_cases hn : n ≤ k
    · rw [if_pos hn, if_pos hn]
      show _ + (u * f n + v * sh f n) * g (k - n) = _
      cases n with
      | zero =>
        have : sh f 0 = 0 := rfl
        rw [this]
        have e : (if k = 0 then 0 else MF f g (0 - 1) (k - 1)) = 0 := by split <;> rfl
        rw [e, Int.mul_add, Int.add_mul, Int.mul_assoc]; simp
      | succ m =>
        have hk : k ≠ 0 := by omega
        rw [if_neg hk, if_neg hk]
        show u * MF f g (m + 1) k + v * MF f g m (k - 1) + _ = u * (MF f g (m + 1) k + _) + v * (MF f g m (k - 1) + (if m ≤ k - 1 then f m * g (k - 1 - m) else 0))
        rw [if_pos (by omega), show sh f (m + 1) = f m from rfl, show k - 1 - m = k - (m + 1) by omega, Int.mul_add, Int.mul_add, Int.add_mul, Int.mul_assoc, Int.mul_assoc]
        omega
    · rw [if_neg hn, if_neg hn]
      cases n with
      | zero => omega
      | succ m =>
        by_cases hk : k = 0
        · rw [if_pos hk, if_pos hk]; simp
        · rw [if_neg hk, if_neg hk]
          show _ + v * MF f g m (k - 1) + 0 = _ + v * (MF f g m (k - 1) + (if m ≤ k - 1 then f m * g (k - 1 - m) else 0))
          rw [if_neg (by omega)]; simp
theorem MF_more {f g : Nat → Int} {k : Nat} : ∀ {n : Nat}, k + 1 ≤ n → MF f g n k = MF f g (k + 1) k := by
  intro n h
  induction n with
  | zero => omega
  | succ n ih =>
    by_cases e : n = k
    · rw [e]
    · show MF f g n k + (if n ≤ k then f n * g (k - n) else 0) = _
      rw [if_neg (by omega), ih (by omega)]; simp
theorem MF_deg {f g : Nat → Int} {d k : Nat} (h : ∀ i, d ≤ i → f i = 0) : ∀ {n : Nat}, d ≤ n → MF f g n k = MF f g d k := by
  intro n hn
  induction n with
  | zero => rw [show d = 0 by omega]
  | succ n ih =>
    by_cases e : d = n + 1
    · rw [e]
    · show MF f g n k + (if n ≤ k then f n * g (k - n) else 0) = _
      rw [h n (by omega), ih (by omega)]; split <;> simp
/-- The product. -/
def cv (f g : Nat → Int) (k : Nat) : Int := MF f g (k + 1) k
theorem cv_Lin (u v : Int) (f g : Nat → Int) : cv (Lin u v f) g = Lin u v (cv f g) := by
  funext k
  unfold cv
  rw [MF_Lin]
  show _ = u * MF f g (k + 1) k + v * sh (fun k => MF f g (k + 1) k) k
  unfold sh
  by_cases hk : k = 0
  · rw [if_pos hk, if_pos hk]
  · rw [if_neg hk, if_neg hk, show k + 1 - 1 = k - 1 + 1 by omega]
theorem cv_del (g : Nat → Int) : cv (del 1) g = g := by
  funext k
  have : ∀ n, MF (del 1) g n k = if n = 0 then 0 else g k := by
    intro n
    induction n with
    | zero => rfl
    | succ n ih =>
      show MF (del 1) g n k + (if n ≤ k then del 1 n * g (k - n) else 0) = _
      rw [ih]
      cases n with
      | zero => simp [del]
      | succ n => simp [del]
  unfold cv
  rw [this]; simp
theorem cv_lpow (u v : Int) (g : Nat → Int) : ∀ n, cv (lpow u v n (del 1)) g = lpow u v n g
  | 0 => cv_del g
  | n + 1 => by show cv (Lin u v (lpow u v n (del 1))) g = _; rw [cv_Lin, cv_lpow u v g n]; rfl
theorem trim_last {l : List Int} {d : Nat} (h : ∀ k, d ≤ k → l.getD k 0 = 0) : (trim l).length ≤ d := by
  rcases snoc_or (trim l) with e | ⟨a, x, e⟩
  · rw [e]; simp
  · have hx : x ≠ 0 := by
      intro h0
      subst h0
      obtain ⟨m, hm⟩ := trim_dec _ l rfl
      have : trim l = trim a := by
        conv => lhs; rw [hm, e]
        rw [List.append_assoc, show [(0 : Int)] ++ List.replicate m 0 = List.replicate (m + 1) 0 by rw [List.replicate_succ]; rfl, trim_zeros]
      have l1 := trim_len a
      rw [← this, e] at l1
      simp at l1
      omega
    apply Classical.byContradiction
    intro hlt
    have ha : d ≤ a.length := by rw [e] at hlt; simp at hlt; omega
    have := h a.length ha
    rw [← trim_getD, e, List.getD_eq_getElem?_getD, List.getElem?_append_right (Nat.le_refl _)] at this
    simp at this
    exact hx this
/-! mulcv -/
theorem Mc_MF (p q : List Int) : ∀ i k, Mc p q i k = MF (pc p) (pc q) i k
  | 0, _ => rfl
  | i + 1, k => by show Mc p q i k + _ = MF (pc p) (pc q) i k + _; rw [Mc_MF p q i k]; rfl
theorem Mc_cv (p q : List Int) (k : Nat) : Mc p q p.length k = cv (pc p) (pc q) k := by
  rw [Mc_MF]
  unfold cv
  have h1 := @MF_deg (pc p) (pc q) p.length k (fun i hi => getD_out hi) (max p.length (k + 1)) (Nat.le_max_left ..)
  have h2 := @MF_more (pc p) (pc q) k (max p.length (k + 1)) (Nat.le_max_right ..)
  rw [← h1, h2]
theorem mulL_cv (p q : List Int) (k : Nat) : (mulL p q).getD k 0 = cv (pc p) (pc q) k := by
  unfold mulL
  rw [getD_range]
  by_cases h : k < p.length + q.length
  · rw [if_pos h, Mc_cv]
  · rw [if_neg h, ← Mc_cv]
    have : ∀ i, Mc p q i k = 0 := by
      intro i
      induction i with
      | zero => rfl
      | succ i ih =>
        show Mc p q i k + (if i ≤ k then p.getD i 0 * q.getD (k - i) 0 else 0) = 0
        rw [ih]
        by_cases hi : i < p.length
        · rw [getD_out (l := q) (by omega)]; split <;> simp
        · rw [getD_out (l := p) (by omega)]; split <;> simp
    exact (this _).symm
theorem pc_two (u v : Int) : pc [u, v] = Lin u v (del 1) := by
  funext k
  match k with
  | 0 => simp [pc, Lin, del, sh]
  | 1 => simp [pc, Lin, del, sh]
  | k + 2 => simp [pc, Lin, del, sh]
theorem pc_one (a : Int) : pc [a] = del a := by
  funext k
  match k with
  | 0 => simp [pc, del]
  | k + 1 => simp [pc, del]
/-- Times u + v x, from the right. -/
theorem cv_two (f : Nat → Int) (u v : Int) : cv f (pc [u, v]) = Lin u v f := by
  funext k
  -- out of the sum's terms two are left
  have main : ∀ n, MF f (pc [u, v]) n k = (if k < n then f k * u else 0) + (if 0 < k ∧ k - 1 < n then f (k - 1) * v else 0) := by
    intro n
    induction n with
    | zero => simp [MF]
    | succ n ih =>
      show MF f (pc [u, v]) n k + (if n ≤ k then f n * pc [u, v] (k - n) else 0) = _
      rw [ih]
      have hp : n ≤ k → pc [u, v] (k - n) = if k = n then u else if k = n + 1 then v else 0 := by
        intro hk
        by_cases h1 : k = n
        · rw [if_pos h1, h1, Nat.sub_self]; rfl
        · rw [if_neg h1]
          by_cases h2 : k = n + 1
          · rw [if_pos h2, h2, show n + 1 - n = 1 by omega]; rfl
          · rw [if_neg h2]; exact getD_out (by simp; omega)
      grind
  unfold cv
  rw [main, if_pos (by omega)]
  show _ = u * f k + v * sh f k
  unfold sh
  by_cases h0 : k = 0
  · rw [if_neg (by omega), if_pos h0, Int.mul_comm]; simp
  · rw [if_pos ⟨by omega, by omega⟩, if_neg h0, Int.mul_comm, Int.mul_comm (f (k - 1))]
/-! sgprod -/
/-- The reference's product. -/
def prL (p q : List Int) : List Int := (List.range (p.length + q.length - 1)).map (Mc p q p.length)
theorem prL_cv {p q : List Int} (hp : p ≠ []) (hq : q ≠ []) (k : Nat) : (prL p q).getD k 0 = cv (pc p) (pc q) k := by
  unfold prL
  rw [getD_range]
  by_cases h : k < p.length + q.length - 1
  · rw [if_pos h, Mc_cv]
  · rw [if_neg h, ← Mc_cv]
    have h1 : 0 < p.length := List.length_pos_iff.2 hp
    have h2 : 0 < q.length := List.length_pos_iff.2 hq
    have : ∀ i, Mc p q i k = 0 := by
      intro i
      induction i with
      | zero => rfl
      | succ i ih =>
        show Mc p q i k + (if i ≤ k then p.getD i 0 * q.getD (k - i) 0 else 0) = 0
        rw [ih]
        by_cases hi : i < p.length
        · rw [getD_out (l := q) (by omega)]; split <;> simp
        · rw [getD_out (l := p) (by omega)]; split <;> simp
    exact (this _).symm
theorem sgProduct_v {p q : List Int} {A B : Nat} (hp0 : p ≠ []) (hq0 : q ≠ []) (hp : ∀ c ∈ p, c.natAbs ≤ A) (hq : ∀ c ∈ q, c.natAbs ≤ B) (hb : (p.length + 1) * (A * B) ≤ 4611686018427387904) (lp : p.length ≤ 1000) (lq : q.length ≤ 1000) : s_sgProduct p q = some (prL p q) := by
  have h1 : 0 < p.length := List.length_pos_iff.2 hp0
  have h2 : 0 < q.length := List.length_pos_iff.2 hq0
  generalize hL : p.length + q.length - 1 = L
  have hw : IntKind.wrap .i64 (IntKind.wrap .i64 ((p.length : Int) + (q.length : Int)) - 1) = (L : Int) := by
    rw [wrap64 (n := (p.length : Int) + (q.length : Int)) (by omega) (by omega), wrap64 (by omega) (by omega)]; omega
  unfold s_sgProduct
  rw [cf (decide_eq_false (by omega)), cf (decide_eq_false (by omega)), hw, ct (decide_eq_true (by omega)), ct (by simp), ct (decide_eq_true (by omega)), Int.toNat_natCast]
  have rows : ∃ outs, s_sgProduct_1005 q (List.replicate L (0 : Int)) p p.length ((0 : Nat) : Int) = s_sgProduct_1005 q outs p p.length (p.length : Int) ∧ outs.length = L ∧ ∀ k, k < L → outs.getD k 0 = Mc p q p.length k := by
    refine inv_loop (n := p.length) (f := fun i (outs : List Int) => s_sgProduct_1005 q outs p p.length (i : Int)) (fun i outs => outs.length = L ∧ ∀ k, k < L → outs.getD k 0 = Mc p q i k) (fun i outs hi ho => ?_) _ ⟨by simp, fun k hk => getD_rep⟩
    obtain ⟨o1, o2⟩ := ho
    have inner : ∃ outs', s_sgProduct_1008 q outs (i : Int) p[i] p p.length (i : Int) q q.length ((0 : Nat) : Int) = s_sgProduct_1008 q outs' (i : Int) p[i] p p.length (i : Int) q q.length (q.length : Int) ∧ outs'.length = L ∧ ∀ k, k < L → outs'.getD k 0 = Mc p q i k + (if i ≤ k ∧ k < i + q.length then p.getD i 0 * q.getD (k - i) 0 else 0) := by
      refine inv_loop (n := q.length) (f := fun j (outs : List Int) => s_sgProduct_1008 q outs (i : Int) p[i] p p.length (i : Int) q q.length (j : Int)) (fun j outs => outs.length = L ∧ ∀ k, k < L → outs.getD k 0 = Mc p q i k + (if i ≤ k ∧ k < i + j then p.getD i 0 * q.getD (k - i) 0 else 0)) (fun j outs hj ho => ?_) _ ⟨o1, fun k hk => by rw [o2 k hk, if_neg (by omega)]; omega⟩
      obtain ⟨t1, t2⟩ := ho
      have hpi : p[i] = p.getD i 0 := by rw [List.getD_eq_getElem?_getD, List.getElem?_eq_getElem hi]; rfl
      have hqj : q[j] = q.getD j 0 := by rw [List.getD_eq_getElem?_getD, List.getElem?_eq_getElem hj]; rfl
      have hlt : i + j < outs.length := by omega
      have hgo := t2 (i + j) (by omega)
      rw [if_neg (by omega), Int.add_zero] at hgo
      have b1 := Mc_bnd hp hq i (i + j)
      have b2 : (p.getD i 0 * q.getD j 0).natAbs ≤ A * B := by
        rw [Int.natAbs_mul]
        exact Nat.mul_le_mul (getD_mem (fun c => c.natAbs ≤ A) (by simp) hp) (getD_mem (fun c => c.natAbs ≤ B) (by simp) hq)
      have b3 : i * (A * B) + A * B ≤ (p.length + 1) * (A * B) := by
        have : i * (A * B) ≤ p.length * (A * B) := Nat.mul_le_mul_right _ (by omega)
        rw [Nat.add_mul, Nat.one_mul]; omega
      have hw : IntKind.wrap .i64 ((i : Int) + (j : Int)) = ((i + j : Nat) : Int) := by rw [wrap64 (by omega) (by omega)]; omega
      refine ⟨outs.set (i + j) (Mc p q i (i + j) + p.getD i 0 * q.getD j 0), ?_, by simp [t1], fun k hk => ?_⟩
      · show s_sgProduct_1008 _ _ _ _ _ _ _ _ _ _ = s_sgProduct_1008 _ _ _ _ _ _ _ _ _ _
        rw [Es_sgProduct_1008, ct (ltt hj), ct (bA hj), hw, ct (bA hlt), ct (by rw [Int.toNat_natCast]; simpa using hlt), ct (bA hlt), ct (by rw [Int.toNat_natCast]; simpa using hlt), gD hj, gD hlt, sc hj (by omega), Int.toNat_natCast]
        have e : outs[i + j] = outs.getD (i + j) 0 := by rw [List.getD_eq_getElem?_getD, List.getElem?_eq_getElem hlt]; rfl
        rw [e, hgo, hqj, hpi, wrap64 (n := p.getD i 0 * q.getD j 0) (by omega) (by omega), wrap64 (by omega) (by omega)]
      · rw [getD_set hlt]
        by_cases hk2 : k = i + j
        · subst hk2
          rw [if_pos rfl, if_pos (by omega), show i + j - i = j by omega]
        · rw [if_neg hk2, t2 k hk]
          by_cases h3 : i ≤ k ∧ k < i + j
          · rw [if_pos h3, if_pos (by omega)]
          · rw [if_neg h3, if_neg (by omega)]
    obtain ⟨outs', e1, e2, e3⟩ := inner
    refine ⟨outs', ?_, e2, fun k hk => ?_⟩
    · show s_sgProduct_1005 _ _ _ _ _ = s_sgProduct_1005 _ _ _ _ _
      rw [Es_sgProduct_1005, ct (ltt hi), ct (bA hi), gD hi]
      refine Eq.trans e1 ?_
      rw [Es_sgProduct_1008, cf ltf, sc hi (by omega)]
    · rw [e3 k hk]
      show _ = Mc p q i k + _
      by_cases h3 : i ≤ k
      · rw [if_pos h3]
        by_cases h4 : k < i + q.length
        · rw [if_pos ⟨h3, h4⟩]
        · rw [if_neg (by omega), getD_out (l := q) (by omega)]; simp
      · rw [if_neg h3, if_neg (by omega)]
  obtain ⟨outs, e1, e2, e3⟩ := rows
  refine Eq.trans (Eq.trans (show _ = s_sgProduct_1005 q (List.replicate L (0 : Int)) p p.length ((0 : Nat) : Int) from rfl) e1) ?_
  rw [Es_sgProduct_1005, cf ltf]
  refine congrArg some (ext_getD (by simp [prL, e2, hL]) fun k hk => ?_)
  rw [e3 k (by omega)]; unfold prL; rw [getD_range, if_pos (by omega)]
/-! derive -/
/-- The derivative of the family, with five coefficients. -/
def der (p q : List Int) (i f : Nat) : List Int := (List.range 5).map fun k => ((k + 1 : Nat) : Int) * (fam p q i f).getD (k + 1) 0
theorem der_getD {p q : List Int} {i f : Nat} (k : Nat) : (der p q i f).getD k 0 = ((k + 1 : Nat) : Int) * (fam p q i f).getD (k + 1) 0 := by
  unfold der
  rw [getD_range]
  by_cases h : k < 5
  · rw [if_pos h]
  · rw [if_neg h, getD_out (l := fam p q i f) (by unfold fam; rw [List.length_map, List.length_range]; omega)]; simp
theorem der_bnd {p q : List Int} {i f : Nat} (h : ∀ c ∈ fam p q i f, c.natAbs ≤ 32000) : ∀ c ∈ der p q i f, c.natAbs ≤ 160000 := by
  intro c hc
  unfold der at hc
  obtain ⟨k, hk, rfl⟩ := List.mem_map.1 hc
  have hk := List.mem_range.1 hk
  have : ((fam p q i f).getD (k + 1) 0).natAbs ≤ 32000 := getD_mem (fun c => c.natAbs ≤ 32000) (by simp) h
  rw [Int.natAbs_mul, Int.natAbs_natCast]
  exact Nat.le_trans (Nat.mul_le_mul (show k + 1 ≤ 5 by omega) this) (by decide)
/-! sgderive -/
theorem sgDerive_v {p q : List Int} {i f : Nat} (h : ∀ c ∈ fam p q i f, c.natAbs ≤ 32000) : s_sgDerive (fam p q i f) = some (der p q i f) := by
  have h6 : (fam p q i f).length = 6 := by unfold fam; rw [List.length_map, List.length_range]
  unfold s_sgDerive
  obtain ⟨outs, e1, e2, e3⟩ := inv_loop (n := (fam p q i f).length) (f := fun j (outs : List Int) => s_sgDerive_1003 outs (fam p q i f) (fam p q i f).length (j : Int)) (fun j outs => outs.length = j - 1 ∧ ∀ k, k < j - 1 → outs.getD k 0 = ((k + 1 : Nat) : Int) * (fam p q i f).getD (k + 1) 0) (fun j outs hj ho => by
    obtain ⟨o1, o2⟩ := ho
    have hg : (fam p q i f)[j] = (fam p q i f).getD j 0 := by rw [List.getD_eq_getElem?_getD, List.getElem?_eq_getElem hj]; rfl
    have hb : ((fam p q i f).getD j 0).natAbs ≤ 32000 := getD_mem (fun c => c.natAbs ≤ 32000) (by simp) h
    by_cases h0 : j = 0
    · subst h0
      refine ⟨outs, ?_, o1, fun k hk => by omega⟩
      show s_sgDerive_1003 _ _ _ _ = s_sgDerive_1003 _ _ _ _
      rw [Es_sgDerive_1003, ct (ltt hj), ct (bA hj), cf (by decide), sc hj (by omega)]
    · have hm : ((j : Int) * (fam p q i f).getD j 0).natAbs ≤ 6 * 32000 := by
        rw [Int.natAbs_mul, Int.natAbs_natCast]; exact Nat.mul_le_mul (by omega) hb
      refine ⟨outs ++ [(j : Int) * (fam p q i f).getD j 0], ?_, by simp [o1]; omega, fun k hk => ?_⟩
      · show s_sgDerive_1003 _ _ _ _ = s_sgDerive_1003 _ _ _ _
        rw [Es_sgDerive_1003, ct (ltt hj), ct (bA hj), ct (decide_eq_true (by omega)), gD hj, hg, wrap64 (n := (j : Int) * (fam p q i f).getD j 0) (by omega) (by omega), ct (by simp [o1]; omega), sc hj (by omega)]
      · by_cases hk2 : k < outs.length
        · rw [List.getD_eq_getElem?_getD, List.getElem?_append_left hk2, ← List.getD_eq_getElem?_getD, o2 k (by omega)]
        · have : k = outs.length := by omega
          subst this
          rw [List.getD_eq_getElem?_getD, List.getElem?_append_right (Nat.le_refl _), o1, show j - 1 + 1 = j by omega]
          simp) [] ⟨rfl, fun k hk => by omega⟩
  refine e1.trans ?_
  show s_sgDerive_1003 _ _ _ _ = _
  rw [Es_sgDerive_1003, cf ltf]
  rw [h6] at e2 e3
  refine congrArg some (ext_getD (by simp [der, e2]) fun k hk => ?_)
  rw [e3 k (by omega), der_getD]
end Go.Proofs.YtnndolcjljhhcaaE
