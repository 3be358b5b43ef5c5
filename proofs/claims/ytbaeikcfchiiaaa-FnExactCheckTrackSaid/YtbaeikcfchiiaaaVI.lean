/- Plain lemmas on what the printed functions come to. -/
import Derived.Test.YtbaeikcfchiiaaaVG
set_option maxRecDepth 100000
set_option linter.unusedVariables false
set_option linter.unusedSimpArgs false
namespace Go.Proofs.YtbaeikcfchiiaaaE
/-! cpart -/
/-- The greater and the lesser of two numbers. -/
def gt2 (a b : Int × Int) : Int × Int := bif decide (v24 a.1 a.2 < v24 b.1 b.2) then b else a
def ls2 (a b : Int × Int) : Int × Int := bif decide (v24 b.1 b.2 < v24 a.1 a.2) then b else a
theorem sign_pos {n : Int} : 0 < Int.sign n ↔ 0 < n := by
  rcases Int.lt_trichotomy n 0 with h | h | h
  · rw [Int.sign_eq_neg_one_of_neg h]; omega
  · subst h; simp
  · rw [Int.sign_eq_one_of_pos h]; omega
theorem greater_v {a b : Int × Int} (ha : dOk a.1 a.2 = true) (hb : dOk b.1 b.2 = true) : i_greater a.1 a.2 b.1 b.2 = some (gt2 a b) := by
  unfold i_greater gt2
  rw [bsome (compareD_v hb ha)]
  by_cases h : v24 a.1 a.2 < v24 b.1 b.2
  · rw [ct (decide_eq_true (sign_pos.2 (by omega))), ct (decide_eq_true h)]
  · rw [cf (decide_eq_false (by rw [sign_pos]; omega)), cf (decide_eq_false h)]
theorem lesser_v {a b : Int × Int} (ha : dOk a.1 a.2 = true) (hb : dOk b.1 b.2 = true) : i_lesser a.1 a.2 b.1 b.2 = some (ls2 a b) := by
  unfold i_lesser ls2
  rw [bsome (compareD_v hb ha)]
  by_cases h : v24 b.1 b.2 < v24 a.1 a.2
  · rw [ct (decide_eq_true (sign_lt.2 (by omega))), ct (decide_eq_true h)]
  · rw [cf (decide_eq_false (by rw [sign_lt]; omega)), cf (decide_eq_false h)]
theorem gt2_ok {a b : Int × Int} (ha : dOk a.1 a.2 = true) (hb : dOk b.1 b.2 = true) : dOk (gt2 a b).1 (gt2 a b).2 = true := by
  unfold gt2; cases decide (v24 a.1 a.2 < v24 b.1 b.2) <;> assumption
theorem ls2_ok {a b : Int × Int} (ha : dOk a.1 a.2 = true) (hb : dOk b.1 b.2 = true) : dOk (ls2 a b).1 (ls2 a b).2 = true := by
  unfold ls2; cases decide (v24 b.1 b.2 < v24 a.1 a.2) <;> assumption
abbrev Iv := (Int × Int) × (Int × Int)
/-- What two intervals have in common. -/
def comm (x y : Iv) : Iv × Bool := bif decide (v24 (ls2 x.2 y.2).1 (ls2 x.2 y.2).2 < v24 (gt2 x.1 y.1).1 (gt2 x.1 y.1).2) then (((0, 0), (0, 0)), false) else ((gt2 x.1 y.1, ls2 x.2 y.2), true)
def ivOk (x : Iv) : Prop := dOk x.1.1 x.1.2 = true ∧ dOk x.2.1 x.2.2 = true
theorem commonPart_v {x y : Iv} (hx : ivOk x) (hy : ivOk y) : i_commonPart x.1.1 x.1.2 x.2.1 x.2.2 y.1.1 y.1.2 y.2.1 y.2.2 = some (comm x y) := by
  unfold i_commonPart comm
  rw [bsome (greater_v hx.1 hy.1), bsome (lesser_v hx.2 hy.2), bsome (compareD_v (gt2_ok hx.1 hy.1) (ls2_ok hx.2 hy.2))]
  by_cases h : v24 (ls2 x.2 y.2).1 (ls2 x.2 y.2).2 < v24 (gt2 x.1 y.1).1 (gt2 x.1 y.1).2
  · rw [ct (decide_eq_true (sign_pos.2 (by omega))), ct (decide_eq_true h)]
  · rw [cf (decide_eq_false (by rw [sign_pos]; omega)), cf (decide_eq_false h)]
theorem ivEnds2_v {a b : Int × Int} (ha : dOk a.1 a.2 = true) (hb : dOk b.1 b.2 = true) : s_ivEnds [a, b] = some (ls2 a b, gt2 a b) := by
  have s0 : IntKind.wrap .i64 (0 + 1) = 1 := by decide
  have s1 : IntKind.wrap .i64 (1 + 1) = 2 := by decide
  have b0 : boundA 0 [a, b].length = true := rfl
  have b1 : boundA 1 [a, b].length = true := rfl
  have l0 : decide ((0 : Int) < (([a, b].length : Nat) : Int)) = true := rfl
  have l1 : decide ((1 : Int) < (([a, b].length : Nat) : Int)) = true := rfl
  have l2 : decide ((2 : Int) < (2 : Int)) = false := rfl
  have z : ∀ n : Int, Int.sign (n - n) = 0 := fun n => by rw [Int.sub_self]; rfl
  unfold s_ivEnds
  rw [ct b0, ct b0, Es_ivEnds_1003, ct l0, ct b0]
  simp only [show List.getD [a, b] (Int.toNat 0) (0, 0) = a from rfl]
  rw [bsome (dyCmp_v ha ha), z, cf (by decide), bsome (dyCmp_v ha ha), z, cf (by decide), s0, Es_ivEnds_1003, ct l1, ct b1]
  simp only [show List.getD [a, b] (Int.toNat 1) (0, 0) = b from rfl]
  rw [bsome (dyCmp_v hb ha)]
  unfold ls2 gt2
  have e2 : ∀ t0 t1 t2 t3 o0 o1 o2 o3, s_ivEnds_1003 t0 t1 t2 t3 o0 o1 o2 o3 [a, b] 2 2 = some ((o0, o1), o2, o3) := by
    intro t0 t1 t2 t3 o0 o1 o2 o3
    rw [Es_ivEnds_1003, cf l2]
  by_cases h : v24 b.1 b.2 < v24 a.1 a.2
  · rw [ct (decide_eq_true (sign_lt.2 (by omega))), bsome (dyCmp_v ha hb), cf (decide_eq_false (by rw [sign_lt]; omega)), s1, ct (decide_eq_true h), cf (decide_eq_false (by omega))]
    exact e2 ..
  · rw [cf (decide_eq_false (by rw [sign_lt]; omega)), bsome (dyCmp_v ha hb), cf (decide_eq_false h)]
    by_cases h' : v24 a.1 a.2 < v24 b.1 b.2
    · rw [ct (decide_eq_true (sign_lt.2 (by omega))), s1, ct (decide_eq_true h')]; exact e2 ..
    · rw [cf (decide_eq_false (by rw [sign_lt]; omega)), s1, cf (decide_eq_false h')]; exact e2 ..
theorem ivCommon_v {x y : Iv} (hx : ivOk x) (hy : ivOk y) : s_ivCommon x.1.1 x.1.2 x.2.1 x.2.2 y.1.1 y.1.2 y.2.1 y.2.2 = some (comm x y) := by
  unfold s_ivCommon comm
  rw [bsome (ivEnds2_v hx.1 hy.1), bsome (ivEnds2_v hx.2 hy.2), bsome (dyCmp_v (gt2_ok hx.1 hy.1) (ls2_ok hx.2 hy.2))]
  by_cases h : v24 (ls2 x.2 y.2).1 (ls2 x.2 y.2).2 < v24 (gt2 x.1 y.1).1 (gt2 x.1 y.1).2
  · rw [ct (decide_eq_true (sign_pos.2 (by omega))), ct (decide_eq_true h)]
  · rw [cf (decide_eq_false (by rw [sign_pos]; omega)), cf (decide_eq_false h)]
/-! oki -/
theorem okI {n : Int} (h : okD (.int .i64) n) : -9223372036854775808 ≤ n ∧ n ≤ 9223372036854775807 := by
  have h : (Lit.int .i64 n).wf = true := h
  simp [Lit.wf, IntKind.min, IntKind.max, IntKind.signed, IntKind.bits] at h
  exact h
/-! stepholds -/
theorem fsg_bnd {p q : List Int} {N : Int} {K i f : Nat} : fsg p q N K i f = -1 ∨ fsg p q N K i f = 0 ∨ fsg p q N K i f = 1 := by
  unfold fsg
  rcases Int.lt_trichotomy (hv N K (fam p q i f)) 0 with h | h | h
  · exact Or.inl (Int.sign_eq_neg_one_of_neg h)
  · rw [h]; exact Or.inr (Or.inl rfl)
  · exact Or.inr (Or.inr (Int.sign_eq_one_of_pos h))
theorem fbo_bnd {p q : List Int} {N : Int} {K i k f : Nat} : fbo p q N K i k f = -1 ∨ fbo p q N K i k f = 0 ∨ fbo p q N K i k f = 1 := by
  unfold fbo
  split
  · exact Or.inr (Or.inl rfl)
  · exact fsg_bnd
/-- Whether a step holds. -/
def hol (p q : List Int) (N : Int) (K : Nat) (M : Int) (L i f : Nat) : Bool := decide (fbo p q N K i (i + 1) f * fbo p q M L i (i + 1) f < 0) && !decide (slp p q (N * 2 ^ (max K L - K)) (M * 2 ^ (max K L - L)) (2 ^ max K L) i f = 0)
theorem fbo_prod {p q : List Int} {N M : Int} {K L i f : Nat} : IntKind.wrap .i64 (fbo p q N K i (i + 1) f * fbo p q M L i (i + 1) f) = fbo p q N K i (i + 1) f * fbo p q M L i (i + 1) f := by
  rcases fbo_bnd (p := p) (q := q) (N := N) (K := K) (i := i) (k := i + 1) (f := f) with h | h | h <;> rcases fbo_bnd (p := p) (q := q) (N := M) (K := L) (i := i) (k := i + 1) (f := f) with g | g | g <;> rw [h, g] <;> decide
theorem faHolds_v {p q : List Int} {N M : Int} {K L i f : Nat} (hp : smOk p = true) (hq : smOk q = true) (hf : f ≤ 4) (hi : i + 1 ≤ 2 ^ f) (F : Fit N K M L) :
    s_faHolds p q N (K : Int) M (L : Int) (i : Int) (f : Int) = some (hol p q N K M L i f) := by
  have hf16 : 2 ^ f ≤ 16 := Nat.le_trans (Nat.pow_le_pow_right (by decide) hf) (by decide)
  have e : IntKind.wrap .i64 ((i : Int) + 1) = ((i + 1 : Nat) : Int) := by rw [wrap64 (by omega) (by omega)]; rfl
  unfold s_faHolds
  rw [e, bsome (faBoth_v hp hq hf (by omega) hi F.n F.k), bsome (faBoth_v hp hq hf (by omega) hi F.m F.l), fbo_prod]
  unfold hol
  cases decide (fbo p q N K i (i + 1) f * fbo p q M L i (i + 1) f < 0) with
  | false => rfl
  | true => rw [ct rfl, bsome (faSlope_v hp hq hf hi F)]; rfl
theorem stepHolds_v {p q : List Int} {N M : Int} {K L i f : Nat} (hp : smOk p = true) (hq : smOk q = true) (hf : f ≤ 4) (hi : i + 1 ≤ 2 ^ f) (F : Fit N K M L) :
    i_stepHolds p q N (K : Int) M (L : Int) (i : Int) (f : Int) = some (hol p q N K M L i f) := by
  have hf16 : 2 ^ f ≤ 16 := Nat.le_trans (Nat.pow_le_pow_right (by decide) hf) (by decide)
  have e : IntKind.wrap .i64 ((i : Int) + 1) = ((i + 1 : Nat) : Int) := by rw [wrap64 (by omega) (by omega)]; rfl
  have n1 := F.n
  have m1 := F.m
  have k1 := F.k
  have l1 := F.l
  unfold i_stepHolds
  rw [e, bsome (familySign_v hp hq hf (by omega) hi (by omega) (by omega)), bsome (familySign_v hp hq hf (by omega) hi (by omega) (by omega)), fbo_prod]
  unfold hol
  cases decide (fbo p q N K i (i + 1) f * fbo p q M L i (i + 1) f < 0) with
  | false => rfl
  | true => rw [ct rfl, bsome (slopeSign_v hp hq hf hi F)]; rfl
/-! fitof -/
theorem fit_of {N K M L : Int} (h : fitOk N K M L = true) : ∃ k l : Nat, K = k ∧ L = l ∧ Fit N k M l := by
  unfold fitOk at h
  simp only [Bool.and_eq_true, decide_eq_true_eq] at h
  obtain ⟨⟨h1, h2⟩, ⟨h3, h4⟩, h5, h6, h7⟩ := h
  have a1 := (dOk_iff.1 h1).1
  have b1 := (dOk_iff.1 h2).1
  obtain ⟨k, rfl⟩ := Int.eq_ofNat_of_zero_le a1.1
  obtain ⟨l, rfl⟩ := Int.eq_ofNat_of_zero_le b1.1
  have bnd : ∀ {N : Int} {k T : Nat}, k ≤ T → T ≤ 5 → -134217728 ≤ v24 N (k : Int) → v24 N (k : Int) ≤ 134217728 → (N * 2 ^ (T - k)).natAbs ≤ 256 := by
    intro N k T hk hT g1 g2
    unfold v24 at g1 g2
    rw [Int.toNat_natCast] at g1 g2
    have e : N * 2 ^ (24 - k) = N * 2 ^ (T - k) * 2 ^ (24 - T) := by rw [Int.mul_assoc, ← Int.pow_add]; congr 2; omega
    rw [e] at g1 g2
    generalize N * 2 ^ (T - k) = x at g1 g2 ⊢
    have hp : (524288 : Int) ≤ 2 ^ (24 - T) := by
      have : (2 : Int) ^ 19 ≤ 2 ^ (24 - T) := by exact_mod_cast Nat.pow_le_pow_right (by decide) (show 19 ≤ 24 - T by omega)
      exact this
    by_cases hn : 0 ≤ x
    · have := Int.mul_le_mul_of_nonneg_left hp hn
      omega
    · have := Int.mul_le_mul_of_nonpos_left (show x ≤ 0 by omega) hp
      omega
  have n0 := bnd (N := N) (k := k) (T := k) (Nat.le_refl _) (by omega) h5 (by omega)
  have m0 := bnd (N := M) (k := l) (T := l) (Nat.le_refl _) (by omega) (by omega) h7
  rw [Nat.sub_self, Int.pow_zero, Int.mul_one] at n0 m0
  exact ⟨k, l, rfl, rfl, by omega, by omega, n0, m0, bnd (by omega) (by omega) h5 (by omega), bnd (by omega) (by omega) (by omega) h7⟩
/-! checktrack -/
def tAt (t : List Iv) (j : Nat) : Iv := t.getD j ((0, 0), 0, 0)
theorem tAt_v (l : List Iv) (i : Nat) : List.getD l (Int.toNat (i : Int)) ((0, 0), 0, 0) = tAt l i := by unfold tAt; rw [Int.toNat_natCast]
/-- Different signs at the ends. -/
def crs (p q : List Int) (x : Iv) (i f : Nat) : Bool := decide (fsg p q x.1.1 x.1.2.toNat i f * fsg p q x.2.1 x.2.2.toNat i f < 0)
def tFit (x : Iv) : Bool := fitOk x.1.1 x.1.2 x.2.1 x.2.2
def tStep (p q : List Int) (t : List Iv) (f i : Nat) : Bool :=
  tFit (tAt t i) && (hol p q (tAt t i).1.1 (tAt t i).1.2.toNat (tAt t i).2.1 (tAt t i).2.2.toNat i f && (decide (i = 0) || ((comm (tAt t (i - 1)) (tAt t i)).2 && crs p q (comm (tAt t (i - 1)) (tAt t i)).1 i f)))
/-- An end that may be asked for. -/
def endOk (a : Int × Int) : Prop := ∃ k : Nat, a.2 = (k : Int) ∧ k ≤ 5 ∧ a.1.natAbs ≤ 256
theorem gt2_P {P : Int × Int → Prop} {a b : Int × Int} (ha : P a) (hb : P b) : P (gt2 a b) := by
  unfold gt2; cases decide (v24 a.1 a.2 < v24 b.1 b.2) <;> assumption
theorem ls2_P {P : Int × Int → Prop} {a b : Int × Int} (ha : P a) (hb : P b) : P (ls2 a b) := by
  unfold ls2; cases decide (v24 b.1 b.2 < v24 a.1 a.2) <;> assumption
theorem tFit_of {x : Iv} (h : tFit x = true) : ivOk x ∧ endOk x.1 ∧ endOk x.2 ∧ ∃ k l : Nat, x.1.2 = k ∧ x.2.2 = l ∧ Fit x.1.1 k x.2.1 l := by
  obtain ⟨k, l, e1, e2, F⟩ := fit_of h
  have h' := h
  unfold tFit fitOk at h'
  simp only [Bool.and_eq_true] at h'
  exact ⟨⟨h'.1.1, h'.1.2⟩, ⟨k, e1, F.k, F.n⟩, ⟨l, e2, F.l, F.m⟩, k, l, e1, e2, F⟩
theorem comm_ends {x y : Iv} (hx : endOk x.1 ∧ endOk x.2) (hy : endOk y.1 ∧ endOk y.2) (h : (comm x y).2 = true) : endOk (comm x y).1.1 ∧ endOk (comm x y).1.2 := by
  unfold comm at h ⊢
  cases hc : decide (v24 (ls2 x.2 y.2).1 (ls2 x.2 y.2).2 < v24 (gt2 x.1 y.1).1 (gt2 x.1 y.1).2) with
  | true => rw [hc] at h; cases h
  | false => exact ⟨gt2_P hx.1 hy.1, ls2_P hx.2 hy.2⟩
theorem fsg_prod {p q : List Int} {N M : Int} {K L i f : Nat} : IntKind.wrap .i64 (fsg p q N K i f * fsg p q M L i f) = fsg p q N K i f * fsg p q M L i f := by
  rcases fsg_bnd (p := p) (q := q) (N := N) (K := K) (i := i) (f := f) with h | h | h <;> rcases fsg_bnd (p := p) (q := q) (N := M) (K := L) (i := i) (f := f) with g | g | g <;> rw [h, g] <;> decide
theorem faCross_v {p q : List Int} {x : Iv} {i f : Nat} (hp : smOk p = true) (hq : smOk q = true) (hf : f ≤ 4) (hi : i ≤ 2 ^ f) (hx : endOk x.1 ∧ endOk x.2) :
    s_faCross p q x.1.1 x.1.2 x.2.1 x.2.2 (i : Int) (f : Int) = some (crs p q x i f) := by
  obtain ⟨⟨k, e1, k5, n1⟩, l, e2, l5, n2⟩ := hx
  unfold s_faCross crs
  rw [e1, e2, bsome (faSign_v hp hq hf hi n1 k5), bsome (faSign_v hp hq hf hi n2 l5), fsg_prod, Int.toNat_natCast, Int.toNat_natCast]
theorem crs_impl {p q : List Int} {x : Iv} {i f : Nat} (hp : smOk p = true) (hq : smOk q = true) (hf : f ≤ 4) (hi : i ≤ 2 ^ f) (hx : endOk x.1 ∧ endOk x.2) {β : Type} (G : Bool → Option β) :
    (i_signAt (trim (fam p q i f)) x.1.1 x.1.2).bind (fun a => (i_signAt (trim (fam p q i f)) x.2.1 x.2.2).bind fun b => G (decide (0 ≤ IntKind.wrap .i64 (a * b)))) = G (!crs p q x i f) := by
  obtain ⟨⟨k, e1, k5, n1⟩, l, e2, l5, n2⟩ := hx
  unfold crs
  rw [e1, e2, bsome (signAt_fam hp hq hf hi (by omega) (by omega)), bsome (signAt_fam hp hq hf hi (by omega) (by omega)), fsg_prod, Int.toNat_natCast, Int.toNat_natCast]
  congr 1
  generalize fsg p q x.1.1 k i f * fsg p q x.2.1 l i f = z
  by_cases h : z < 0
  · rw [decide_eq_true h, decide_eq_false (by omega)]; rfl
  · rw [decide_eq_false h, decide_eq_true (by omega)]; rfl
theorem tFit_prev {p q : List Int} {t : List Iv} {f i : Nat} (h : ∀ j, j < i → tStep p q t f j = true) (h0 : 0 < i) : tFit (tAt t (i - 1)) = true := by
  have := h (i - 1) (by omega)
  unfold tStep at this
  rw [Bool.and_eq_true] at this
  exact this.1
theorem faTrack_v {p q : List Int} {t : List Iv} {f : Nat} (hp : smOk p = true) (hq : smOk q = true) (hf : f ≤ 4) (hl : t.length ≤ 16) :
    s_faTrack p q t (f : Int) = some (decide (t.length = 2 ^ f) && (List.range t.length).all (tStep p q t f)) := by
  have hf16 : 2 ^ f ≤ 16 := Nat.le_trans (Nat.pow_le_pow_right (by decide) hf) (by decide)
  unfold s_faTrack
  have hd : s_dyPower (f : Int) = some (2 ^ f) := dyPower_v (by omega) (by omega)
  rw [bsome hd]
  by_cases hn : t.length = 2 ^ f
  · rw [cf (by rw [pow_nat, hn, decide_eq_true rfl]; rfl), decide_eq_true hn, Bool.true_and]
    refine (all_loop (f := fun i => s_faTrack_1004 p q t (f : Int) t t.length (i : Int)) (n := t.length) (ok := tStep p q t f) (e := some true) (fun _ => ?_) fun i hi hprev => ?_).trans ?_
    · show s_faTrack_1004 _ _ _ _ _ _ _ = _
      rw [Es_faTrack_1004, cf ltf]
    · show s_faTrack_1004 _ _ _ _ _ _ _ = if _ then s_faTrack_1004 _ _ _ _ _ _ _ else _
      have hi1 : i + 1 ≤ 2 ^ f := by omega
      rw [Es_faTrack_1004, ct (ltt hi), ct (bA hi), tAt_v, bsome (deFit_v ..), sc hi (by omega)]
      unfold tStep
      rw [show fitOk (tAt t i).1.1 (tAt t i).1.2 (tAt t i).2.1 (tAt t i).2.2 = tFit (tAt t i) from rfl]
      cases hx : tFit (tAt t i) with
      | false => rfl
      | true =>
        obtain ⟨o1, o2, o3, k, l, e1, e2, F⟩ := tFit_of hx
        rw [cnt, e1, e2, bsome (faHolds_v hp hq hf hi1 F), Int.toNat_natCast, Int.toNat_natCast]
        cases hol p q (tAt t i).1.1 k (tAt t i).2.1 l i f with
        | false => rfl
        | true =>
          rw [cnt]
          by_cases h0 : i = 0
          · subst h0; rw [ct (by decide)]; rfl
          · have hp0 : 0 < i := by omega
            obtain ⟨u1, u2, u3, _⟩ := tFit_of (tFit_prev hprev hp0)
            rw [cf (by simp; omega), pd hi hp0 (by omega), ct (bA (by omega)), tAt_v, ← e1, ← e2, bsome (ivCommon_v u1 o1)]
            cases hc : (comm (tAt t (i - 1)) (tAt t i)).2 with
            | false => simp [h0]
            | true =>
              rw [cnt, bsome (faCross_v hp hq hf (by omega) (comm_ends ⟨u2, u3⟩ ⟨o2, o3⟩ hc))]
              cases crs p q (comm (tAt t (i - 1)) (tAt t i)).1 i f <;> simp [h0]
    · cases (List.range t.length).all _ <;> rfl
  · have hne : ¬ ((t.length : Int) = ((2 ^ f : Nat) : Int)) := fun h => hn (Int.ofNat.inj h)
    rw [ct (by rw [pow_nat, decide_eq_false hne]; rfl), decide_eq_false hn]; rfl
theorem checkTrack_v {p q : List Int} {t : List Iv} {f : Nat} (hp : smOk p = true) (hq : smOk q = true) (hf : f ≤ 4) (hl : t.length ≤ 16) :
    i_checkTrack p q t (f : Int) = some (decide (t.length = 2 ^ f) && (List.range t.length).all (tStep p q t f)) := by
  have hf16 : 2 ^ f ≤ 16 := Nat.le_trans (Nat.pow_le_pow_right (by decide) hf) (by decide)
  unfold i_checkTrack
  have hsh : IntKind.wrap .i64 (1 * 2 ^ min (Int.toNat (f : Int)) (IntKind.bits .i64)) = ((2 ^ f : Nat) : Int) := by
    rw [Int.toNat_natCast, show IntKind.bits .i64 = 64 from rfl, Nat.min_eq_left (by omega), Int.one_mul, pow_nat]
    generalize 2 ^ f = M at hf16
    exact wrap64 (by omega) (by omega)
  rw [ct (by simp), hsh]
  by_cases hn : t.length = 2 ^ f
  · rw [cf (by rw [hn, decide_eq_true rfl]; rfl), decide_eq_true hn, Bool.true_and]
    refine (all_loop (f := fun i => i_checkTrack_1004 p q t (f : Int) t t.length (i : Int)) (n := t.length) (ok := tStep p q t f) (e := some true) (fun _ => ?_) fun i hi hprev => ?_).trans ?_
    · show i_checkTrack_1004 _ _ _ _ _ _ _ = _
      rw [Ei_checkTrack_1004, cf ltf]
    · show i_checkTrack_1004 _ _ _ _ _ _ _ = if _ then i_checkTrack_1004 _ _ _ _ _ _ _ else _
      have hi1 : i + 1 ≤ 2 ^ f := by omega
      rw [Ei_checkTrack_1004, ct (ltt hi), ct (bA hi), tAt_v, bsome (isFit_v ..), sc hi (by omega)]
      unfold tStep
      rw [show fitOk (tAt t i).1.1 (tAt t i).1.2 (tAt t i).2.1 (tAt t i).2.2 = tFit (tAt t i) from rfl]
      cases hx : tFit (tAt t i) with
      | false => rfl
      | true =>
        obtain ⟨o1, o2, o3, k, l, e1, e2, F⟩ := tFit_of hx
        rw [cnt, e1, e2, bsome (stepHolds_v hp hq hf hi1 F), Int.toNat_natCast, Int.toNat_natCast]
        cases hol p q (tAt t i).1.1 k (tAt t i).2.1 l i f with
        | false => rfl
        | true =>
          rw [cnt]
          by_cases h0 : i = 0
          · subst h0; rw [ct (by decide)]; rfl
          · have hp0 : 0 < i := by omega
            obtain ⟨u1, u2, u3, _⟩ := tFit_of (tFit_prev hprev hp0)
            rw [cf (by simp; omega), pd hi hp0 (by omega), ct (bA (by omega)), tAt_v, ← e1, ← e2, bsome (commonPart_v u1 o1), bsome (familyAt_v hp hq hf (by omega))]
            cases hc : (comm (tAt t (i - 1)) (tAt t i)).2 with
            | false => simp [h0]
            | true =>
              rw [cnt, crs_impl hp hq hf (by omega) (comm_ends ⟨u2, u3⟩ ⟨o2, o3⟩ hc) (fun b => bif b then some false else i_checkTrack_1004 p q t (f : Int) t t.length ((i + 1 : Nat) : Int))]
              cases crs p q (comm (tAt t (i - 1)) (tAt t i)).1 i f <;> simp [h0]
    · cases (List.range t.length).all _ <;> rfl
  · have hne : ¬ ((t.length : Int) = ((2 ^ f : Nat) : Int)) := fun h => hn (Int.ofNat.inj h)
    rw [ct (by rw [decide_eq_false hne]; rfl), decide_eq_false hn]; rfl
/-! mainCheckTrack -/
theorem main_FnExactCheckTrack {p q : List Int} {x : List Iv} {f : Int} (hp : p.length ≤ 1000000) (hq : q.length ≤ 1000000) (hx : x.length ≤ 1000000) (_ : okD (.int .i64) f) :
    ∃ w, s_CheckTrack p q x f = some w ∧ i_CheckTrack p q x f = some w := by
  unfold s_CheckTrack i_CheckTrack
  rw [bsome (isFamily_v hp hq), bsome (faAsked_v hp hq)]
  by_cases hF : faOk p q f = true
  rotate_left
  · have hF := Bool.eq_false_iff.2 hF
    rw [hF]; exact ⟨_, rfl, rfl⟩
  have hF' := hF
  unfold faOk at hF'
  simp only [Bool.and_eq_true, decide_eq_true_eq] at hF'
  obtain ⟨h1, h2, h3, h4⟩ := hF'
  obtain ⟨f, rfl⟩ := Int.eq_ofNat_of_zero_le h3
  rw [hF, cnt, cnt]
  by_cases hl : x.length ≤ 16
  · have hc : decide ((16 : Int) < (x.length : Int)) = false := by simp; omega
    rw [cf hc, cf hc]
    exact ⟨_, bsome (faTrack_v (f := f) h1 h2 (by omega) hl), bsome (checkTrack_v (f := f) h1 h2 (by omega) hl)⟩
  · have hc : decide ((16 : Int) < (x.length : Int)) = true := by simp; omega
    rw [ct hc, ct hc]; exact ⟨_, rfl, rfl⟩
end Go.Proofs.YtbaeikcfchiiaaaE
