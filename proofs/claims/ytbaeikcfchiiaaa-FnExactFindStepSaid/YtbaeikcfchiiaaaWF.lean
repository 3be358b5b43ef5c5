/- Plain lemmas on what the printed functions come to. -/
import Derived.Test.YtbaeikcfchiiaaaWE
set_option maxRecDepth 100000
set_option linter.unusedVariables false
set_option linter.unusedSimpArgs false
namespace Go.Proofs.YtbaeikcfchiiaaaE
/-! slope -/
/-- The sign of the slope in a step. -/
def slp (p q : List Int) (lo hi P : Int) (i f : Nat) : Int := sgAll (ovL (der p q i f) lo hi P ++ ovL (der p q (i + 1) f) lo hi P)
theorem der_len {p q : List Int} {i f : Nat} : (der p q i f).length = 5 := by simp [der]
theorem deriveSingle_v {p q : List Int} {i f : Nat} (h : ∀ c ∈ fam p q i f, c.natAbs ≤ 32000) : ∃ r m, i_deriveSingle (trim (fam p q i f)) = some r ∧ r.length ≤ 5 ∧ der p q i f = r ++ List.replicate m 0 := by
  have h6 : (fam p q i f).length = 6 := by unfold fam; rw [List.length_map, List.length_range]
  generalize hF : trim (fam p q i f) = F
  have hFl : F.length ≤ 6 := by rw [← hF, ← h6]; exact trim_len _
  have hFg : ∀ k, F.getD k 0 = (fam p q i f).getD k 0 := fun k => by rw [← hF, trim_getD]
  have fin : ∀ outs : List Int, outs.length ≤ 5 → (∀ k, k < 5 → outs.getD k 0 = (der p q i f).getD k 0) → ∃ m, der p q i f = trim outs ++ List.replicate m 0 := by
    intro outs ho hk
    obtain ⟨m, hm⟩ := trim_dec _ outs rfl
    refine ⟨5 - (trim outs).length, ?_⟩
    have hl := trim_len outs
    refine ext_getD (by rw [der_len]; simp; omega) fun k hk' => ?_
    rw [getD_app0, trim_getD, hk k (by rw [der_len] at hk'; exact hk')]
  have loop : ∀ (m j : Nat) (outs : List Int), j + m = max F.length 1 → 1 ≤ j → outs.length = j - 1 → (∀ k, k < j - 1 → outs.getD k 0 = ((k + 1 : Nat) : Int) * F.getD (k + 1) 0) → ∃ outs' : List Int, i_deriveSingle_1003 F outs (j : Int) = i_stripped outs' ∧ outs'.length ≤ 5 ∧ (∀ k, k < 5 → outs'.getD k 0 = ((k + 1 : Nat) : Int) * F.getD (k + 1) 0) := by
    intro m
    induction m with
    | zero =>
      intro j outs hj h1 ho hk
      refine ⟨outs, ?_, by omega, fun k hk5 => ?_⟩
      · rw [Ei_deriveSingle_1003, cf (decide_eq_false (by omega)), bret]
      · by_cases h : k < j - 1
        · exact hk k h
        · rw [getD_out (l := outs) (by omega), getD_out (l := F) (by omega)]; simp
    | succ m ih =>
      intro j outs hj h1 ho hk
      have hjF : j < F.length := by omega
      have hg : F[j] = F.getD j 0 := by rw [List.getD_eq_getElem?_getD, List.getElem?_eq_getElem hjF]; rfl
      have hb : (F.getD j 0).natAbs ≤ 32000 := by rw [hFg]; exact getD_mem (fun c => c.natAbs ≤ 32000) (by simp) h
      have hm : ((j : Int) * F.getD j 0).natAbs ≤ 6 * 32000 := by
        rw [Int.natAbs_mul, Int.natAbs_natCast]; exact Nat.mul_le_mul (by omega) hb
      obtain ⟨outs', e1, e2, e3⟩ := ih (j + 1) (outs ++ [(j : Int) * F.getD j 0]) (by omega) (by omega) (by simp [ho]; omega) (fun k hk' => by
        by_cases hk2 : k < outs.length
        · rw [List.getD_eq_getElem?_getD, List.getElem?_append_left hk2, ← List.getD_eq_getElem?_getD, hk k (by omega)]
        · have : k = outs.length := by omega
          subst this
          rw [List.getD_eq_getElem?_getD, List.getElem?_append_right (Nat.le_refl _), ho, show j - 1 + 1 = j by omega]
          simp)
      refine ⟨outs', ?_, e2, e3⟩
      rw [Ei_deriveSingle_1003, ct (ltt hjF), ct (bA hjF), gD hjF, hg, wrap64 (n := (j : Int) * F.getD j 0) (by omega) (by omega), ct (by simp [ho]; omega), sc hjF (by omega)]
      exact e1
  obtain ⟨outs, e1, e2, e3⟩ := loop (max F.length 1 - 1) 1 [] (by omega) (by omega) rfl (fun k hk => by omega)
  obtain ⟨m, hm⟩ := fin outs e2 (fun k hk => by rw [e3 k hk, der_getD, hFg])
  refine ⟨trim outs, m, ?_, Nat.le_trans (trim_len outs) e2, hm⟩
  unfold i_deriveSingle
  exact Eq.trans e1 (stripped_v (by omega))
theorem pad5 {p q : List Int} {i f a b c e : Int} {al : List Int} {mo : Int} : ∀ (m : Nat) (r : List Int), r.length + m = 5 → i_slopeSign_1006 p q i f a b c e al mo r = i_slopeSign_1006 p q i f a b c e al mo (r ++ List.replicate m 0)
  | 0, r, h => by simp
  | m + 1, r, h => by
    rw [Ei_slopeSign_1006, ct (decide_eq_true (by omega)), ct (by simp; omega), pad5 m (r ++ [0]) (by simp; omega), List.append_assoc]
    rfl
structure Fit (N : Int) (K : Nat) (M : Int) (L : Nat) : Prop where
  k : K ≤ 5
  l : L ≤ 5
  n : N.natAbs ≤ 256
  m : M.natAbs ≤ 256
  lo : (N * 2 ^ (max K L - K)).natAbs ≤ 256
  hi : (M * 2 ^ (max K L - L)).natAbs ≤ 256
theorem slopeSign_v {p q : List Int} {N M : Int} {K L i f : Nat} (hp : smOk p = true) (hq : smOk q = true) (hf : f ≤ 4) (hi : i + 1 ≤ 2 ^ f) (F : Fit N K M L) :
    i_slopeSign p q N (K : Int) M (L : Int) (i : Int) (f : Int) = some (slp p q (N * 2 ^ (max K L - K)) (M * 2 ^ (max K L - L)) (2 ^ max K L) i f) := by
  obtain ⟨_, _, p3, _⟩ := smOk_bnd hp
  obtain ⟨_, _, q3, _⟩ := smOk_bnd hq
  have hf16 : 2 ^ f ≤ 16 := Nat.le_trans (Nat.pow_le_pow_right (by decide) hf) (by decide)
  have step : ∀ (mo : Nat) (al : List Int), mo ≤ i + 1 → al.length ≤ 10 → i_slopeSign_1003 p q (i : Int) (f : Int) N (K : Int) M (L : Int) al (mo : Int) = i_slopeSign_1003 p q (i : Int) (f : Int) N (K : Int) M (L : Int) (al ++ ovL (der p q mo f) (N * 2 ^ (max K L - K)) (M * 2 ^ (max K L - L)) (2 ^ max K L)) ((mo + 1 : Nat) : Int) := by
    intro mo al hmo hal
    have hb := fam_bnd p3 q3 hf (show mo ≤ 2 ^ f by omega)
    obtain ⟨r, m, d1, d2, d3⟩ := deriveSingle_v hb
    have hlen : r.length + m = 5 := by have := congrArg List.length d3; rw [der_len] at this; simp at this; omega
    have hol : (ovL (der p q mo f) (N * 2 ^ (max K L - K)) (M * 2 ^ (max K L - L)) (2 ^ max K L)).length = 5 := by simp [ovL]
    rw [Ei_slopeSign_1003, wrap64 (n := (i : Int) + 1) (by omega) (by omega), ct (decide_eq_true (by omega)), bsome (familyAt_v hp hq hf (by omega)), bsome d1, pad5 m r hlen, ← d3, Ei_slopeSign_1006, der_len, cf (by decide),
      bsome (overInterval_v der_len (der_bnd hb) F.k F.l F.lo F.hi), ct (decide_eq_true (by rw [hol]; omega)), wrap64 (n := (mo : Int) + 1) (by omega) (by omega)]
    rfl
  have hol : ∀ d : List Int, (ovL d (N * 2 ^ (max K L - K)) (M * 2 ^ (max K L - L)) (2 ^ max K L)).length = 5 := fun d => by simp [ovL]
  unfold i_slopeSign
  rw [step i [] (by omega) (by simp), step (i + 1) _ (by omega) (by rw [List.nil_append, hol]; omega), Ei_slopeSign_1003, wrap64 (n := (i : Int) + 1) (by omega) (by omega), cf (decide_eq_false (by omega)), bret, List.nil_append]
  refine commonSign_v (fun e => ?_) (by rw [List.length_append, hol, hol]; omega)
  have := congrArg List.length e
  rw [List.length_append, hol, hol] at this
  cases this
theorem faSlope_v {p q : List Int} {N M : Int} {K L i f : Nat} (hp : smOk p = true) (hq : smOk q = true) (hf : f ≤ 4) (hi : i + 1 ≤ 2 ^ f) (F : Fit N K M L) :
    s_faSlope p q N (K : Int) M (L : Int) (i : Int) (f : Int) = some (slp p q (N * 2 ^ (max K L - K)) (M * 2 ^ (max K L - L)) (2 ^ max K L) i f) := by
  obtain ⟨_, _, p3, _⟩ := smOk_bnd hp
  obtain ⟨_, _, q3, _⟩ := smOk_bnd hq
  have hf16 : 2 ^ f ≤ 16 := Nat.le_trans (Nat.pow_le_pow_right (by decide) hf) (by decide)
  have b1 := fam_bnd p3 q3 hf (show i ≤ 2 ^ f by omega)
  have b2 := fam_bnd p3 q3 hf hi
  have hol : ∀ d : List Int, (ovL d (N * 2 ^ (max K L - K)) (M * 2 ^ (max K L - L)) (2 ^ max K L)).length = 5 := fun d => by simp [ovL]
  have hfa : s_faAt p q (IntKind.wrap .i64 ((i : Int) + 1)) (f : Int) = some (fam p q (i + 1) f) := by
    rw [wrap64 (by omega) (by omega)]; exact faAt_v hp hq hf hi
  unfold s_faSlope
  rw [bsome (faAt_v hp hq hf (by omega)), bsome (sgDerive_v b1), bsome (deOver_v der_len (der_bnd b1) F.k F.l F.lo F.hi F.n F.m), bsome hfa, bsome (sgDerive_v b2), bsome (deOver_v der_len (der_bnd b2) F.k F.l F.lo F.hi F.n F.m), ct (decide_eq_true (by rw [hol, hol]; omega)), bret]
  refine beSign_v (fun e => ?_) (by rw [List.length_append, hol, hol]; omega)
  have := congrArg List.length e
  rw [List.length_append, hol, hol] at this
  cases this
end Go.Proofs.YtbaeikcfchiiaaaE
