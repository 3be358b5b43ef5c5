/- Plain lemmas on what the printed functions come to. -/
import Derived.Test.YtbaeikcfchiiaaaWI
import Derived.Test.YtbaeikcfchiiaaaWQ
set_option maxRecDepth 100000
set_option linter.unusedVariables false
set_option linter.unusedSimpArgs false
namespace Go.Proofs.YtbaeikcfchiiaaaE
/-! findstep -/
theorem l1Least_v (a b : Int) : s_l1Least a b = some (min a b) := by
  unfold s_l1Least
  simp only [Bool.cond_decide]
  split
  · rw [show min a b = a by omega]
  · rw [show min a b = b by omega]
theorem sumOf_v {N K M L : Int} (ha : dOk N K = true) (hb : dOk M L = true) : i_sumOf N K M L = some (dmk (max K.toNat L.toNat) (upS N K M L)) := by
  obtain ⟨a1, a2, _⟩ := dOk_iff.1 ha
  obtain ⟨b1, b2, _⟩ := dOk_iff.1 hb
  unfold i_sumOf
  refine wideSum_v ha hb _ _ fun s h l hh hl hv => ?_
  show (i_wide_fit s (h : Int) (l : Int) _).bind _ = _
  rw [kmax a1.1 b1.1, bsome (fit_v (by omega) hh hl), hv]
theorem sum5 (l h : Int) : dmk (max (red 5 l).2.toNat (red 5 h).2.toNat) (upS (red 5 l).1 (red 5 l).2 (red 5 h).1 (red 5 h).2) = dmk 5 (l + h) := by
  obtain ⟨r, a1, a2, a3, _⟩ := red_spec 5 l
  obtain ⟨t, b1, b2, b3, _⟩ := red_spec 5 h
  unfold upS
  rw [a1, b1, Int.toNat_natCast, Int.toNat_natCast]
  have := @dmk_scale (max r t) (5 - max r t) ((red 5 l).1 * 2 ^ (max r t - r) + (red 5 h).1 * 2 ^ (max r t - t))
  rw [← this, show max r t + (5 - max r t) = 5 by omega, Int.add_mul, Int.mul_assoc, Int.mul_assoc, ← Int.pow_add, ← Int.pow_add, show max r t - r + (5 - max r t) = 5 - r by omega, show max r t - t + (5 - max r t) = 5 - t by omega, ← a3, ← b3]
theorem red_neg : ∀ (k : Nat) (n : Int), red k (-n) = (-(red k n).1, (red k n).2)
  | 0, n => rfl
  | k + 1, n => by
    by_cases h : n % 2 = 0
    · show (if (-n) % 2 = 0 then red k ((-n) / 2) else _) = (-(if n % 2 = 0 then red k (n / 2) else _).1, (if n % 2 = 0 then red k (n / 2) else _).2)
      rw [if_pos h, if_pos (by omega), show (-n) / 2 = -(n / 2) by omega, red_neg k]
    · show (if (-n) % 2 = 0 then red k ((-n) / 2) else (-n, _)) = (-(if n % 2 = 0 then red k (n / 2) else (n, _)).1, (if n % 2 = 0 then red k (n / 2) else (n, _)).2)
      rw [if_neg h, if_neg (by omega)]
theorem ok5w {x : Int} (h : x.natAbs ≤ 1000) : dOk (red 5 x).1 (red 5 x).2 = true := red_ok (by omega) (by omega)
theorem low5 {y : Int} (h : y.natAbs ≤ 1000) : i_greater (red 5 y).1 (red 5 y).2 (-8) 0 = some (red 5 (max (-256) y)) := by
  have := greater_v (a := red 5 y) (b := (-8, 0)) (ok5w h) (by decide)
  refine this.trans ?_
  congr 1
  unfold gt2
  rw [red_v24 (show 5 ≤ 24 by decide)]
  have e : v24 (((-8, 0) : Int × Int)).1 (((-8, 0) : Int × Int)).2 = -134217728 := by decide
  rw [e]
  have e2 : (2 : Int) ^ (24 - 5) = 524288 := by decide
  rw [e2]
  by_cases h' : y * 524288 < -134217728
  · rw [ct (decide_eq_true h'), show max (-256) y = -256 by omega]; decide
  · rw [cf (decide_eq_false h'), show max (-256) y = y by omega]
theorem high5 {y : Int} (h : y.natAbs ≤ 1000) : i_lesser (red 5 y).1 (red 5 y).2 8 0 = some (red 5 (min 256 y)) := by
  have := lesser_v (a := red 5 y) (b := (8, 0)) (ok5w h) (by decide)
  refine this.trans ?_
  congr 1
  unfold ls2
  rw [red_v24 (show 5 ≤ 24 by decide)]
  have e : v24 (((8, 0) : Int × Int)).1 (((8, 0) : Int × Int)).2 = 134217728 := by decide
  rw [e]
  have e2 : (2 : Int) ^ (24 - 5) = 524288 := by decide
  rw [e2]
  by_cases h' : 134217728 < y * 524288
  · rw [ct (decide_eq_true h'), show min 256 y = 256 by omega]; decide
  · rw [cf (decide_eq_false h'), show min 256 y = y by omega]
theorem fitOf5 {l h : Int} (h1 : l.natAbs ≤ 256) (h2 : h.natAbs ≤ 256) : ∃ k t : Nat, (red 5 l).2 = k ∧ (red 5 h).2 = t ∧ Fit (red 5 l).1 k (red 5 h).1 t := by
  obtain ⟨r, a1, a2, a3, _⟩ := red_spec 5 l
  obtain ⟨t, b1, b2, b3, _⟩ := red_spec 5 h
  have bnd : ∀ {N x : Int} {k T : Nat}, k ≤ T → T ≤ 5 → x = N * 2 ^ (5 - k) → x.natAbs ≤ 256 → (N * 2 ^ (T - k)).natAbs ≤ 256 := by
    intro N x k T hk hT e hx
    have e2 : x = N * 2 ^ (T - k) * 2 ^ (5 - T) := by rw [e, Int.mul_assoc, ← Int.pow_add]; congr 2; omega
    have : (N * 2 ^ (T - k)).natAbs ≤ x.natAbs := by
      rw [e2, Int.natAbs_mul (N * 2 ^ (T - k))]
      exact Nat.le_mul_of_pos_right _ (Int.natAbs_pos.2 (Int.ne_of_gt (Int.pow_pos (by decide))))
    omega
  exact ⟨r, t, a1, b1, a2, b2, Nat.le_trans (red_abs 5 l) h1, Nat.le_trans (red_abs 5 h) h2, bnd (by omega) (by omega) a3 h1, bnd (by omega) (by omega) b3 h2⟩
def hol5 (p q : List Int) (l h : Int) (i f : Nat) : Bool := hol p q (red 5 l).1 (red 5 l).2.toNat (red 5 h).1 (red 5 h).2.toNat i f
theorem faHolds5 {p q : List Int} {l h : Int} {i f : Nat} (hp : smOk p = true) (hq : smOk q = true) (hf : f ≤ 4) (hi : i + 1 ≤ 2 ^ f) (h1 : l.natAbs ≤ 256) (h2 : h.natAbs ≤ 256) :
    s_faHolds p q (red 5 l).1 (red 5 l).2 (red 5 h).1 (red 5 h).2 (i : Int) (f : Int) = some (hol5 p q l h i f) := by
  obtain ⟨k, t, e1, e2, F⟩ := fitOf5 h1 h2
  unfold hol5
  rw [e1, e2, faHolds_v hp hq hf hi F, Int.toNat_natCast, Int.toNat_natCast]
theorem stepHolds5 {p q : List Int} {l h : Int} {i f : Nat} (hp : smOk p = true) (hq : smOk q = true) (hf : f ≤ 4) (hi : i + 1 ≤ 2 ^ f) (h1 : l.natAbs ≤ 256) (h2 : h.natAbs ≤ 256) :
    i_stepHolds p q (red 5 l).1 (red 5 l).2 (red 5 h).1 (red 5 h).2 (i : Int) (f : Int) = some (hol5 p q l h i f) := by
  obtain ⟨k, t, e1, e2, F⟩ := fitOf5 h1 h2
  unfold hol5
  rw [e1, e2, stepHolds_v hp hq hf hi F, Int.toNat_natCast, Int.toNat_natCast]
theorem bxNumber5 {x : Int} (h : x.natAbs ≤ 256) : s_bxNumber x 5 = some (red 5 x) := by
  unfold s_bxNumber
  have := dyMake_v (k := 5) (n := x) (by omega) (by omega)
  have this : s_dyMake x 5 = some (dmk 5 x) := this
  rw [bsome this, dmk_ok (by omega) (by omega)]
/-- The state of the program's loop: the interval that was asked for before. -/
def Prev (k : Nat) (l h l' h' : Int) : Prop := (k = 0 ∧ l' = l ∧ h' = h) ∨ (∃ j, k = j + 1 ∧ l = max (-256) (l' - 2 ^ j) ∧ h = min 256 (h' + 2 ^ j))
theorem find_loop {p q : List Int} {i f : Nat} (hp : smOk p = true) (hq : smOk q = true) (hf : f ≤ 4) (hi : i + 1 ≤ 2 ^ f) : ∀ (m k : Nat) (l h l' h' : Int) (t0 t1 t2 t3 u0 u1 u2 u3 : Int), k + m = 7 → l.natAbs ≤ 256 → h.natAbs ≤ 256 → l'.natAbs ≤ 256 → h'.natAbs ≤ 256 → Prev k l h l' h' →
    ∃ r : Iv × Bool, s_faFind_1005 p q (i : Int) (f : Int) t0 t1 t2 t3 l h 256 (k : Int) = some r ∧ i_findStep_1002 p q (i : Int) (f : Int) (red 5 l').1 (red 5 l').2 (red 5 h').1 (red 5 h').2 u0 u1 u2 u3 (k : Int) = some r
  | 0, k, l, h, l', h', t0, t1, t2, t3, u0, u1, u2, u3, hk, _, _, _, _, _ => by
    rw [Es_faFind_1005, Ei_findStep_1002, cf (decide_eq_false (by omega)), cf (decide_eq_false (by omega))]
    exact ⟨(((0, 0), 0, 0), false), rfl, rfl⟩
  | m + 1, k, l, h, l', h', t0, t1, t2, t3, u0, u1, u2, u3, hk, b1, b2, b3, b4, hP => by
    have hp2 : (2 : Int) ^ k ≤ 2 ^ 6 := p2m (by omega)
    have hp0 : (0 : Int) < 2 ^ k := p2i k
    have hp6 : (2 : Int) ^ 6 = 64 := by decide
    have hdy : s_dyPower (k : Int) = some (2 ^ k) := dyPower_v (by omega) (by omega)
    rw [Es_faFind_1005, ct (decide_eq_true (by omega)), bsome (bxNumber5 b1), bsome (bxNumber5 b2), bsome (faHolds5 hp hq hf hi b1 b2), bsome hdy, show IntKind.wrap .i64 (0 - 256) = -256 from by decide, wrap64 (n := l - 2 ^ k) (by omega) (by omega), bsome (l1Most_v ..), bsome hdy, wrap64 (n := h + 2 ^ k) (by omega) (by omega), bsome (l1Least_v ..), wrap64 (n := (k : Int) + 1) (by omega) (by omega), show (k : Int) + 1 = ((k + 1 : Nat) : Int) by omega]
    have nxt := fun u0 u1 u2 u3 => find_loop hp hq hf hi m (k + 1) (max (-256) (l - 2 ^ k)) (min 256 (h + 2 ^ k)) l h t0 t1 t2 t3 u0 u1 u2 u3 (by omega) (by omega) (by omega) b1 b2 (.inr ⟨k, rfl, rfl, rfl⟩)
    rw [Ei_findStep_1002, ct (decide_eq_true (show (k : Int) < 7 by omega)), wrap64 (n := (k : Int) + 1) (by omega) (by omega), show (k : Int) + 1 = ((k + 1 : Nat) : Int) by omega]
    rcases hP with ⟨rfl, rfl, rfl⟩ | ⟨j, rfl, e1, e2⟩
    · rw [cf (c := decide (0 < ((0 : Nat) : Int))) (by decide), bsome (stepHolds5 hp hq hf hi b1 b2)]
      cases hol5 p q l' h' i f with
      | true => exact ⟨_, rfl, rfl⟩
      | false => rw [cf rfl, cf rfl]; exact nxt u0 u1 u2 u3
    · have hj : (2 : Int) ^ j ≤ 2 ^ 5 := p2m (by omega)
      have hj0 : (0 : Int) < 2 ^ j := p2i j
      have hj5 : (2 : Int) ^ 5 = 32 := by decide
      have hsh : IntKind.wrap .i64 (1 * 2 ^ min (Int.toNat ((j : Nat) : Int)) (IntKind.bits .i64)) = 2 ^ j := by
        rw [Int.toNat_natCast, show IntKind.bits .i64 = 64 from rfl, Nat.min_eq_left (by omega), Int.one_mul]
        exact wrap64 (by omega) (by omega)
      have hng : (!decide ((j : Int) < 0)) = true := by simp
      rw [ct (decide_eq_true (show (0 : Int) < ((j + 1 : Nat) : Int) by omega)), wrap64 (n := ((j + 1 : Nat) : Int) - 1) (by omega) (by omega), show ((j + 1 : Nat) : Int) - 1 = (j : Int) by omega, ct hng, hsh, bsome (wideOf_v (by omega) (by omega))]
      have hfit := fit_v (s := decide ((2 : Int) ^ j < 0)) (h := 0) (l := ((2 : Int) ^ j).natAbs) (k := 5) (by omega) (by decide) (by omega)
      have hwv : wv (decide ((2 : Int) ^ j < 0)) 0 ((2 : Int) ^ j).natAbs = 2 ^ j := by
        unfold wv
        rw [decide_eq_false (by omega)]
        simp only [Bool.false_eq_true, if_false]
        omega
      rw [hwv, dmk_ok (by decide) (by omega)] at hfit
      have hfit : i_wide_fit (decide ((2 : Int) ^ j < 0)) 0 (((2 : Int) ^ j).natAbs : Int) 5 = some (red 5 (2 ^ j), true) := hfit
      have hb := ok5w (x := (2 : Int) ^ j) (by omega)
      have hb' := ok5w (x := -(2 : Int) ^ j) (by omega)
      have hneg : IntKind.wrap .i64 (0 - (red 5 ((2 : Int) ^ j)).1) = (red 5 (-(2 : Int) ^ j)).1 := by
        have := red_abs 5 ((2 : Int) ^ j)
        rw [red_neg, wrap64 (by omega) (by omega)]
        omega
      have hnk : (red 5 ((2 : Int) ^ j)).2 = (red 5 (-(2 : Int) ^ j)).2 := by rw [red_neg]
      have s1 := sumOf_v (ok5 b3) hb'
      have s2 := sumOf_v (ok5 b4) hb
      rw [sum5, dmk_ok (by decide) (by omega)] at s1 s2
      rw [bsome hfit]
      simp only
      rw [hneg]
      rw [show i_sumOf (red 5 l').1 (red 5 l').2 (red 5 (-(2 : Int) ^ j)).1 (red 5 ((2 : Int) ^ j)).2 = some (red 5 (l' + -(2 : Int) ^ j), true) from by rw [hnk]; exact s1, Option.bind_some, bsome s2]
      simp only
      rw [bsome (low5 (by omega)), bsome (high5 (by omega)), show l' + -(2 : Int) ^ j = l' - 2 ^ j by omega, ← e1, ← e2, bsome (stepHolds5 hp hq hf hi b1 b2)]
      cases hol5 p q l h i f with
      | true => exact ⟨_, rfl, rfl⟩
      | false => rw [cf rfl, cf rfl]; exact nxt u0 u1 u2 u3
/-! mainFindStep -/
theorem main_FnExactFindStep {p q : List Int} {x : Iv} {i f : Int} (hp : p.length ≤ 1000000) (hq : q.length ≤ 1000000) (_ : okD (.pair (.pair (.int .i64) (.int .i64)) (.pair (.int .i64) (.int .i64))) x) (hi : okD (.int .i64) i) (_ : okD (.int .i64) f) :
    ∃ w, s_FindStep p q x.1.1 x.1.2 x.2.1 x.2.2 i f = some w ∧ i_FindStep p q x.1.1 x.1.2 x.2.1 x.2.2 i f = some w := by
  obtain ⟨⟨N, K⟩, M, L⟩ := x
  have hi := okI hi
  unfold s_FindStep i_FindStep s_faStep
  simp only
  rw [bsome (isFamily_v hp hq), bsome (faAsked_v hp hq)]
  by_cases hF : faOk p q f = true
  rotate_left
  · have hF := Bool.eq_false_iff.2 hF
    rw [hF]; exact ⟨_, rfl, rfl⟩
  have hF' := hF
  unfold faOk at hF'
  simp only [Bool.and_eq_true, decide_eq_true_eq] at hF'
  obtain ⟨h1, h2, h3, h4⟩ := hF'
  obtain ⟨f, rfl⟩ := Int.eq_ofNat_of_zero_le h3
  have hf : f ≤ 4 := by omega
  have hf16 : (2 : Int) ^ f ≤ 16 := by
    have : (2 : Int) ^ f ≤ 2 ^ 4 := by exact_mod_cast Nat.pow_le_pow_right (by decide) hf
    exact this
  have hf0 : (0 : Int) < 2 ^ f := Int.pow_pos (by decide)
  have hdy : s_dyPower (f : Int) = some (2 ^ f) := dyPower_v h3 (by omega)
  rw [hF, ct rfl, cnt, bsome hdy, bret, wrap64 (n := (2 : Int) ^ f - 1) (by omega) (by omega), bsome (l1In_v ..), bsome (isFit_v ..)]
  cases hx : fitOk N K M L with
  | false =>
    rw [cnf]
    by_cases hin : 0 ≤ i ∧ i ≤ 2 ^ f - 1
    · rw [cf (by simp; omega), bsome (deFit_v ..), hx]; exact ⟨_, rfl, rfl⟩
    · rw [ct (by simp; omega)]; exact ⟨_, rfl, rfl⟩
  | true =>
    rw [cnt, bsome (isMoment_v hf)]
    by_cases hin : 0 ≤ i ∧ i ≤ 2 ^ f - 1
    · rw [cf (by simp; omega), bsome (deFit_v ..), hx, cnt, wrap64 (n := i + 1) (by omega) (by omega), cf (by simp; omega), cf (by simp; omega)]
      obtain ⟨l, t, g1, g2, g3, e1, e2⟩ := fit5 hx
      obtain ⟨i, rfl⟩ := Int.eq_ofNat_of_zero_le hin.1
      have hi1 : i + 1 ≤ 2 ^ f := by
        have h9 : (i : Int) + 1 ≤ 2 ^ f := by omega
        exact_mod_cast h9
      have eN : N = (red 5 l).1 := by rw [e1]
      have eK : K = (red 5 l).2 := by rw [e1]
      have eM : M = (red 5 t).1 := by rw [e2]
      have eL : L = (red 5 t).2 := by rw [e2]
      have dy5 : ∀ {x : Int}, x.natAbs ≤ 256 → s_dyAt (red 5 x).1 (red 5 x).2 5 = some (x, true) := by
        intro x hx
        obtain ⟨r, a1, a2, a3, _⟩ := red_spec 5 x
        have hb := Nat.mul_le_mul (Nat.le_trans (red_abs 5 x) hx) (Nat.pow_le_pow_right (show 0 < 2 by decide) (show 5 - r ≤ 5 by omega))
        have := dyAt_v (N := (red 5 x).1) (K := (red 5 x).2) (k := 5) (by omega) (by omega) (by omega) (by rw [a1, Int.toNat_natCast]; exact Nat.le_trans hb (by decide))
        rw [a1, Int.toNat_natCast, ← a3, ← a1] at this
        exact this
      rw [eN, eK, eM, eL]
      unfold s_faFind i_findStep
      rw [bsome (dy5 g2), bsome (dy5 g3)]
      simp only
      rw [show IntKind.wrap .i64 (8 * IntKind.wrap .i64 (1 * 2 ^ min (Int.toNat (IntKind.wrap .u64 5)) (IntKind.bits .i64))) = 256 from by decide]
      obtain ⟨r, r1, r2⟩ := find_loop h1 h2 hf hi1 7 0 l t l t 0 0 0 0 0 0 0 0 (by omega) g2 g3 g2 g3 (.inl ⟨rfl, rfl, rfl⟩)
      exact ⟨_, bsome r1, bsome r2⟩
    · rw [ct (by simp; omega)]
      by_cases hmx : i = 9223372036854775807
      · rw [hmx, show IntKind.wrap .i64 (9223372036854775807 + 1) = -9223372036854775808 from by decide, ct (by simp)]; exact ⟨_, rfl, rfl⟩
      · rw [wrap64 (n := i + 1) (by omega) (by omega)]
        by_cases h0 : i = -1
        · subst h0; rw [cf (by simp; omega), ct (by decide)]; exact ⟨_, rfl, rfl⟩
        · rw [ct (by simp; omega)]; exact ⟨_, rfl, rfl⟩
end Go.Proofs.YtbaeikcfchiiaaaE
