/- Plain lemmas on what the printed functions come to. -/
import Derived.Test.YtbaeikcfchiiaaaVF
set_option maxRecDepth 100000
set_option linter.unusedVariables false
set_option linter.unusedSimpArgs false
namespace Go.Proofs.YtbaeikcfchiiaaaE
/-! famsgn -/
/-- The sign of the family at a number and a moment. -/
def fsg (p q : List Int) (N : Int) (K i f : Nat) : Int := Int.sign (hv N K (fam p q i f))
def fbo (p q : List Int) (N : Int) (K i k f : Nat) : Int := if fsg p q N K k f ≠ fsg p q N K i f then 0 else fsg p q N K i f
theorem signAt_fam {p q : List Int} {N : Int} {K i f : Nat} (hp : smOk p = true) (hq : smOk q = true) (hf : f ≤ 4) (hi : i ≤ 2 ^ f) (hN : N.natAbs ≤ 4294967295) (hK : K ≤ 24) : i_signAt (trim (fam p q i f)) N (K : Int) = some (fsg p q N K i f) := by
  obtain ⟨_, _, p3, _⟩ := smOk_bnd hp
  obtain ⟨_, _, q3, _⟩ := smOk_bnd hq
  have hb := fam_bnd p3 q3 hf hi
  obtain ⟨m, hm⟩ := trim_dec _ (fam p q i f) rfl
  have hl := trim_len (fam p q i f)
  have h6 : (fam p q i f).length = 6 := by unfold fam; rw [List.length_map, List.length_range]
  rw [signAt_v (by omega) (fun c hc => by
    have : c ∈ fam p q i f := by rw [hm]; exact List.mem_append_left _ hc
    have := hb c this
    omega) hN hK]
  unfold fsg
  conv => rhs; rw [hm]
  rw [hv_zeros]
theorem familySign_v {p q : List Int} {N : Int} {K i k f : Nat} (hp : smOk p = true) (hq : smOk q = true) (hf : f ≤ 4) (hi : i ≤ 2 ^ f) (hk : k ≤ 2 ^ f) (hN : N.natAbs ≤ 4294967295) (hK : K ≤ 24) : i_familySign p q N (K : Int) (i : Int) (k : Int) (f : Int) = some (fbo p q N K i k f) := by
  unfold i_familySign fbo
  rw [bsome (familyAt_v hp hq hf hi), bsome (signAt_fam hp hq hf hi hN hK), bsome (familyAt_v hp hq hf hk), bsome (signAt_fam hp hq hf hk hN hK)]
  by_cases h : fsg p q N K k f = fsg p q N K i f
  · rw [cf (by simp [h]), if_neg (by simp [h])]
  · rw [ct (by simp [h]), if_pos h]
/-! faboth -/
theorem faSign_v {p q : List Int} {N : Int} {K i f : Nat} (hp : smOk p = true) (hq : smOk q = true) (hf : f ≤ 4) (hi : i ≤ 2 ^ f) (hN : N.natAbs ≤ 256) (hK : K ≤ 5) : s_faSign p q N (K : Int) (i : Int) (f : Int) = some (fsg p q N K i f) := by
  obtain ⟨_, _, p3, _⟩ := smOk_bnd hp
  obtain ⟨_, _, q3, _⟩ := smOk_bnd hq
  unfold s_faSign
  have h6 : (fam p q i f).length = 6 := by unfold fam; rw [List.length_map, List.length_range]
  rw [bsome (faAt_v hp hq hf hi), bret, sgSign_v (by omega) (fam_bnd p3 q3 hf hi) hN hK]
  rfl
theorem faBoth_v {p q : List Int} {N : Int} {K i k f : Nat} (hp : smOk p = true) (hq : smOk q = true) (hf : f ≤ 4) (hi : i ≤ 2 ^ f) (hk : k ≤ 2 ^ f) (hN : N.natAbs ≤ 256) (hK : K ≤ 5) : s_faBoth p q N (K : Int) (i : Int) (k : Int) (f : Int) = some (fbo p q N K i k f) := by
  unfold s_faBoth fbo
  rw [bsome (faSign_v hp hq hf hi hN hK), bsome (faSign_v hp hq hf hk hN hK)]
  by_cases h : fsg p q N K k f = fsg p q N K i f
  · rw [cf (by simp [h]), if_neg (by simp [h])]
  · rw [ct (by simp [h]), if_pos h]
end Go.Proofs.YtbaeikcfchiiaaaE
