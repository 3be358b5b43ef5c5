/- Plain lemmas on what the printed functions come to. -/
import Derived.Test.YtbaeikcfchiiaaaWG
set_option maxRecDepth 100000
set_option linter.unusedVariables false
set_option linter.unusedSimpArgs false
namespace Go.Proofs.YtbaeikcfchiiaaaE
/-! cross -/
/-- Different signs at the ends. -/
def crs (p q : List Int) (x : Iv) (i f : Nat) : Bool := decide (fsg p q x.1.1 x.1.2.toNat i f * fsg p q x.2.1 x.2.2.toNat i f < 0)
/-- An end that may be asked for. -/
def endOk (a : Int × Int) : Prop := ∃ k : Nat, a.2 = (k : Int) ∧ k ≤ 5 ∧ a.1.natAbs ≤ 256
theorem gt2_P {P : Int × Int → Prop} {a b : Int × Int} (ha : P a) (hb : P b) : P (gt2 a b) := by
  unfold gt2; cases decide (v24 a.1 a.2 < v24 b.1 b.2) <;> assumption
theorem ls2_P {P : Int × Int → Prop} {a b : Int × Int} (ha : P a) (hb : P b) : P (ls2 a b) := by
  unfold ls2; cases decide (v24 b.1 b.2 < v24 a.1 a.2) <;> assumption
theorem fsg_prod {p q : List Int} {N M : Int} {K L i f : Nat} : IntKind.wrap .i64 (fsg p q N K i f * fsg p q M L i f) = fsg p q N K i f * fsg p q M L i f := by
  rcases fsg_bnd (p := p) (q := q) (N := N) (K := K) (i := i) (f := f) with h | h | h <;> rcases fsg_bnd (p := p) (q := q) (N := M) (K := L) (i := i) (f := f) with g | g | g <;> rw [h, g] <;> decide
theorem faCross_v {p q : List Int} {x : Iv} {i f : Nat} (hp : smOk p = true) (hq : smOk q = true) (hf : f ≤ 4) (hi : i ≤ 2 ^ f) (hx : endOk x.1 ∧ endOk x.2) :
    s_faCross p q x.1.1 x.1.2 x.2.1 x.2.2 (i : Int) (f : Int) = some (crs p q x i f) := by
  obtain ⟨⟨k, e1, k5, n1⟩, l, e2, l5, n2⟩ := hx
  unfold s_faCross crs
  rw [e1, e2, bsome (faSign_v hp hq hf hi n1 k5), bsome (faSign_v hp hq hf hi n2 l5), fsg_prod, Int.toNat_natCast, Int.toNat_natCast]
theorem crs_impl {p q : List Int} {x : Iv} {i f : Nat} (hp : smOk p = true) (hq : smOk q = true) (hf : f ≤ 4) (hi : i ≤ 2 ^ f) (hx : endOk x.1 ∧ endOk x.2) {β : Type} (G : Bool → Option β) :
    (i_signAt (trim (fam p q i f)) x.1.1 x.1.2).bind (fun a => (i_signAt (trim (fam p q i f)) x.2.1 x.2.2).bind fun b => G (decide (0 ≤ IntKind.wrap .i64 (a * b)))) = G (!crs p q x i f) := by
  obtain ⟨⟨k, e1, k5, n1⟩, l, e2, l5, n2⟩ := hx
  unfold crs
  rw [e1, e2, bsome (signAt_fam hp hq hf hi (by omega) (by omega)), bsome (signAt_fam hp hq hf hi (by omega) (by omega)), fsg_prod, Int.toNat_natCast, Int.toNat_natCast]
  congr 1
  generalize fsg p q x.1.1 k i f * fsg p q x.2.1 l i f = z
  by_cases h : z < 0
  · rw [decide_eq_true h, decide_eq_false (by omega)]; rfl
  · rw [decide_eq_false h, decide_eq_true (by omega)]; rfl
/-! narrow -/
/-- Two ends over 32. -/
abbrev i5 (l h : Int) : Iv := (red 5 l, red 5 h)
theorem end5 {x : Int} (h : x.natAbs ≤ 256) : endOk (red 5 x) := by
  obtain ⟨r, h1, h2, _, _⟩ := red_spec 5 x
  exact ⟨r, h1, h2, Nat.le_trans (red_abs 5 x) h⟩
def sg5 (p q : List Int) (i f : Nat) (x : Int) : Int := fsg p q (red 5 x).1 (red 5 x).2.toNat i f
theorem ok5 {x : Int} (h : x.natAbs ≤ 256) : dOk (red 5 x).1 (red 5 x).2 = true := red_ok (by omega) (by omega)
theorem mid5 (l h : Int) : dmk (max (red 5 l).2.toNat (red 5 h).2.toNat + 1) (upS (red 5 l).1 (red 5 l).2 (red 5 h).1 (red 5 h).2) = dmk 6 (l + h) := by
  obtain ⟨r, a1, a2, a3, _⟩ := red_spec 5 l
  obtain ⟨t, b1, b2, b3, _⟩ := red_spec 5 h
  unfold upS
  rw [a1, b1, Int.toNat_natCast, Int.toNat_natCast]
  have := @dmk_scale (max r t + 1) (5 - max r t) ((red 5 l).1 * 2 ^ (max r t - r) + (red 5 h).1 * 2 ^ (max r t - t))
  rw [← this, show max r t + 1 + (5 - max r t) = 6 by omega, Int.add_mul, Int.mul_assoc, Int.mul_assoc, ← Int.pow_add, ← Int.pow_add, show max r t - r + (5 - max r t) = 5 - r by omega, show max r t - t + (5 - max r t) = 5 - t by omega, ← a3, ← b3]
theorem red6_odd {x : Int} (h : x % 2 ≠ 0) : red 6 x = (x, 6) := red_form (.inr h)
theorem red6_even {x : Int} (h : x % 2 = 0) : red 6 x = red 5 (x / 2) := by
  show (if x % 2 = 0 then red 5 (x / 2) else _) = _
  rw [if_pos h]
theorem fit5 {N K M L : Int} (h : fitOk N K M L = true) : ∃ l t : Int, l < t ∧ l.natAbs ≤ 256 ∧ t.natAbs ≤ 256 ∧ red 5 l = (N, K) ∧ red 5 t = (M, L) := by
  unfold fitOk at h
  simp only [Bool.and_eq_true, decide_eq_true_eq] at h
  obtain ⟨⟨h1, h2⟩, ⟨h3, h4⟩, h5, h6, h7⟩ := h
  have a1 := (dOk_iff.1 h1).1
  have b1 := (dOk_iff.1 h2).1
  have e1 : v24 N K = N * 2 ^ (5 - K.toNat) * 524288 := by
    unfold v24
    rw [show 24 - K.toNat = (5 - K.toNat) + 19 by omega, Int.pow_add, ← Int.mul_assoc]; rfl
  have e2 : v24 M L = M * 2 ^ (5 - L.toNat) * 524288 := by
    unfold v24
    rw [show 24 - L.toNat = (5 - L.toNat) + 19 by omega, Int.pow_add, ← Int.mul_assoc]; rfl
  refine ⟨N * 2 ^ (5 - K.toNat), M * 2 ^ (5 - L.toNat), ?_, ?_, ?_, red_dOk h1 h3, red_dOk h2 h4⟩ <;> omega
theorem sg5_bnd {p q : List Int} {i f : Nat} {x : Int} : sg5 p q i f x = -1 ∨ sg5 p q i f x = 0 ∨ sg5 p q i f x = 1 := fsg_bnd
theorem signAt5 {p q : List Int} {i f : Nat} {x : Int} (hp : smOk p = true) (hq : smOk q = true) (hf : f ≤ 4) (hi : i ≤ 2 ^ f) (hx : x.natAbs ≤ 256) : i_signAt (trim (fam p q i f)) (red 5 x).1 (red 5 x).2 = some (sg5 p q i f x) := by
  obtain ⟨k, e1, k5, n1⟩ := end5 hx
  unfold sg5
  rw [e1, signAt_fam hp hq hf hi (by omega) (by omega), Int.toNat_natCast]
theorem faSign5 {p q : List Int} {i f : Nat} {x : Int} (hp : smOk p = true) (hq : smOk q = true) (hf : f ≤ 4) (hi : i ≤ 2 ^ f) (hx : x.natAbs ≤ 256) : s_faSign p q (red 5 x).1 (red 5 x).2 (i : Int) (f : Int) = some (sg5 p q i f x) := by
  obtain ⟨k, e1, k5, n1⟩ := end5 hx
  unfold sg5
  rw [e1, faSign_v hp hq hf hi n1 k5, Int.toNat_natCast]
theorem crs5 {p q : List Int} {i f : Nat} {l h : Int} : crs p q (i5 l h) i f = decide (sg5 p q i f l * sg5 p q i f h < 0) := rfl
theorem sgn3 {a b c : Int} (ha : a = -1 ∨ a = 0 ∨ a = 1) (hb : b = -1 ∨ b = 0 ∨ b = 1) (hc : c = -1 ∨ c = 0 ∨ c = 1) (hz : ¬ c = 0) (hs : ¬ a * c < 0) (h : a * b < 0) : c = a ∧ c * b < 0 := by
  rcases ha with rfl | rfl | rfl <;> rcases hb with rfl | rfl | rfl <;> rcases hc with rfl | rfl | rfl <;> first | exact ⟨rfl, by decide⟩ | exact absurd rfl hz | exact absurd (by decide) hs | exact absurd h (by decide)
theorem sgn2 {a c : Int} (ha : a = -1 ∨ a = 0 ∨ a = 1) (hs : a * c < 0) : ¬ c = a := by
  rintro rfl
  rcases ha with rfl | rfl | rfl <;> exact absurd hs (by decide)
theorem narrow_loop {p q : List Int} {i f : Nat} (hp : smOk p = true) (hq : smOk q = true) (hf : f ≤ 4) (hi : i ≤ 2 ^ f) : ∀ (n : Nat) (l h : Int) (t0 t1 t2 t3 u0 u1 u2 u3 : Int), h - l ≤ n → l < h → l.natAbs ≤ 256 → h.natAbs ≤ 256 → sg5 p q i f l * sg5 p q i f h < 0 →
    ∃ r : Iv, s_faNarrow_1001 p q (i : Int) (f : Int) (red 5 l).1 (red 5 l).2 (red 5 h).1 (red 5 h).2 t0 t1 t2 t3 = some r ∧ i_narrowAt_1003 (trim (fam p q i f)) (red 5 l).1 (red 5 l).2 (red 5 h).1 (red 5 h).2 u0 u1 u2 u3 = some (r, true)
  | 0, l, h, _, _, _, _, _, _, _, _, h1, h2, _, _, _ => by omega
  | n + 1, l, h, t0, t1, t2, t3, u0, u1, u2, u3, h1, h2, h3, h4, h5 => by
    have hm : (l + h).natAbs ≤ 512 := by omega
    have b1 := Nat.le_trans (red_abs 5 l) h3
    have b2 := Nat.le_trans (red_abs 5 h) h4
    rw [Es_faNarrow_1001, Ei_narrowAt_1003, bsome (dyHalf_v (ok5 h3) (ok5 h4) (by omega) (by omega)), bsome (middleOf_v (ok5 h3) (ok5 h4)), mid5, dmk_ok (by decide) (by omega)]
    simp only
    by_cases he : (l + h) % 2 = 0
    · rw [red6_even he]
      have hc : ((l + h) / 2).natAbs ≤ 256 := by omega
      generalize hcc : (l + h) / 2 = c at hc ⊢
      have hk : ¬ (5 < (red 5 c).2) := by
        obtain ⟨k, e1, k5, _⟩ := end5 hc
        omega
      rw [bsome (signAt5 hp hq hf hi hc), cf (decide_eq_false hk), cf (decide_eq_false hk), bsome (faSign5 hp hq hf hi hc)]
      by_cases hz : sg5 p q i f c = 0
      · rw [ct (decide_eq_true hz), ct (decide_eq_true hz)]
        exact ⟨i5 l h, rfl, rfl⟩
      · rw [cf (decide_eq_false hz), cf (decide_eq_false hz), bsome (signAt5 hp hq hf hi h3)]
        have hcr := faCross_v (x := i5 l c) hp hq hf hi ⟨end5 h3, end5 hc⟩
        rw [crs5] at hcr
        rw [bsome hcr]
        have k1 := @sg5_bnd p q i f l
        have k2 := @sg5_bnd p q i f c
        have k3 := @sg5_bnd p q i f h
        by_cases hs : sg5 p q i f l * sg5 p q i f c < 0
        · rw [ct (decide_eq_true hs), cf (decide_eq_false (sgn2 k1 hs))]
          exact narrow_loop hp hq hf hi n l c _ _ _ _ _ _ _ _ (by omega) (by omega) h3 hc hs
        · obtain ⟨q1, q2⟩ := sgn3 k1 k3 k2 hz hs h5
          rw [cf (decide_eq_false hs), ct (decide_eq_true q1)]
          exact narrow_loop hp hq hf hi n c h _ _ _ _ _ _ _ _ (by omega) (by omega) hc h4 q2
    · rw [red6_odd he]
      obtain ⟨s, hs⟩ : ∃ s, i_signAt (trim (fam p q i f)) (l + h) 6 = some s := ⟨_, signAt_fam (K := 6) hp hq hf hi (by omega) (by omega)⟩
      have h6 : decide (5 < ((l + h, (6 : Int)) : Int × Int).snd) = true := rfl
      rw [bsome hs, ct h6, ct h6]
      exact ⟨i5 l h, rfl, rfl⟩
/-! ismom -/
theorem isMoment_v {i : Int} {f : Nat} (hf : f ≤ 4) : i_isMoment i (f : Int) = some (decide (0 ≤ i ∧ i ≤ 2 ^ f)) := by
  unfold i_isMoment
  rw [ct (by simp), p2f hf, bret, inside_v]
/-! mainNarrowAt -/
theorem main_FnExactNarrowAt {p q : List Int} {x : Iv} {i f : Int} (hp : p.length ≤ 1000000) (hq : q.length ≤ 1000000) (_ : okD (.pair (.pair (.int .i64) (.int .i64)) (.pair (.int .i64) (.int .i64))) x) (_ : okD (.int .i64) i) (_ : okD (.int .i64) f) :
    ∃ w, s_NarrowAt p q x.1.1 x.1.2 x.2.1 x.2.2 i f = some w ∧ i_NarrowAt p q x.1.1 x.1.2 x.2.1 x.2.2 i f = some w := by
  obtain ⟨⟨N, K⟩, M, L⟩ := x
  unfold s_NarrowAt i_NarrowAt s_faMoment
  simp only
  rw [bsome (isFamily_v hp hq), bsome (faAsked_v hp hq)]
  by_cases hF : faOk p q f = true
  rotate_left
  · have hF := Bool.eq_false_iff.2 hF
    rw [hF]; exact ⟨_, rfl, rfl⟩
  have hF' := hF
  unfold faOk at hF'
  simp only [Bool.and_eq_true, decide_eq_true_eq] at hF'
  obtain ⟨h1, h2, h3, h4⟩ := hF'
  obtain ⟨f, rfl⟩ := Int.eq_ofNat_of_zero_le h3
  have hf : f ≤ 4 := by omega
  have hdy : s_dyPower (f : Int) = some (2 ^ f) := dyPower_v h3 (by omega)
  rw [hF, ct rfl, cnt, bsome hdy, bret, bsome (l1In_v ..), bsome (isFit_v ..)]
  by_cases hi : 0 ≤ i ∧ i ≤ 2 ^ f
  rotate_left
  · rw [ct (by simp; omega)]
    cases fitOk N K M L with
    | false => exact ⟨_, rfl, rfl⟩
    | true => rw [cnt, bsome (isMoment_v hf), ct (by simp; omega)]; exact ⟨_, rfl, rfl⟩
  rw [cf (by simp; omega), bsome (deFit_v ..)]
  cases hx : fitOk N K M L with
  | false => exact ⟨_, rfl, rfl⟩
  | true =>
    obtain ⟨l, t, g1, g2, g3, e1, e2⟩ := fit5 hx
    obtain ⟨i, rfl⟩ := Int.eq_ofNat_of_zero_le hi.1
    have hi' : i ≤ 2 ^ f := by have := hi.2; exact_mod_cast this
    have eN : N = (red 5 l).1 := by rw [e1]
    have eK : K = (red 5 l).2 := by rw [e1]
    have eM : M = (red 5 t).1 := by rw [e2]
    have eL : L = (red 5 t).2 := by rw [e2]
    rw [eN, eK, eM, eL, cnt, cnt, bsome (isMoment_v hf), cf (by simp; omega), bsome (familyAt_v h1 h2 hf hi')]
    have hcr := faCross_v (x := i5 l t) h1 h2 hf hi' ⟨end5 g2, end5 g3⟩
    rw [bsome hcr]
    unfold i_narrowAt
    have hci := crs_impl (x := i5 l t) h1 h2 hf hi' ⟨end5 g2, end5 g3⟩ (fun b => bif b then some ((((0 : Int), (0 : Int)), (0 : Int), (0 : Int)), false) else i_narrowAt_1003 (trim (fam p q i f)) (red 5 l).1 (red 5 l).2 (red 5 t).1 (red 5 t).2 0 0 0 0)
    cases hc : crs p q (i5 l t) i f with
    | false =>
      rw [hc] at hci
      exact ⟨_, rfl, bsome hci⟩
    | true =>
      rw [hc] at hci
      have h5 : sg5 p q i f l * sg5 p q i f t < 0 := by rw [crs5] at hc; exact of_decide_eq_true hc
      obtain ⟨r, r1, r2⟩ := narrow_loop h1 h2 hf hi' 512 l t 0 0 0 0 0 0 0 0 (by omega) g1 g2 g3 h5
      rw [cnt]
      unfold s_faNarrow
      refine ⟨_, bsome r1, bsome (hci.trans r2)⟩
end Go.Proofs.YtbaeikcfchiiaaaE
