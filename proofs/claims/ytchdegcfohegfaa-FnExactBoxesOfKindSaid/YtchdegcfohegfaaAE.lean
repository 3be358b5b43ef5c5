/- Plain lemmas on what the printed functions come to. -/
import Derived.Test.YtchdegcfohegfaaAD
set_option maxRecDepth 100000
set_option linter.unusedVariables false
set_option linter.unusedSimpArgs false
namespace Go.Proofs.YtchdegcfohegfaaE
/-! halves -/
def dbl (x : Int) : Int := IntKind.wrap .i64 (2 * x)
theorem scaled1_v {l : List Int} (hl : l.length ≤ 1000000) : i_scaled l 1 = some (l.map dbl) := by
  have hw : ∀ x : Int, IntKind.wrap .i64 (x * 2 ^ min (Int.toNat 1) (IntKind.bits .i64)) = dbl x := by
    intro x
    unfold dbl
    rw [show (2 : Int) ^ min (Int.toNat 1) (IntKind.bits .i64) = 2 from by decide, Int.mul_comm]
  have main : ∀ m i : Nat, i + m = l.length → i_scaled_1003 1 ((l.take i).map dbl) l (l.length : Int) (i : Int) = some (l.map dbl) := by
    intro m
    induction m with
    | zero =>
      intro i hi
      obtain rfl : i = l.length := by omega
      rw [Ei_scaled_1003, cf ltf, List.take_length]
    | succ m ih =>
      intro i hi
      have h1 : i < l.length := by omega
      rw [Ei_scaled_1003, ct (ltt h1), ct (bA h1), ct (by decide), ct (decide_eq_true (by simp; omega)), gD h1, hw, sc h1 (by omega)]
      have := ih (i + 1) (by omega)
      rw [List.take_succ_eq_append_getElem h1, List.map_append] at this
      exact this
  unfold i_scaled
  exact main l.length 0 (by omega)
theorem bxFine_v {K : Int} {lo hi : List Int} (he : hi.length = lo.length) (hl : lo.length ≤ 1000000) : s_bxFine K lo hi = some (lo.map dbl, hi.map dbl) := by
  have main : ∀ m i : Nat, i + m = lo.length → s_bxFine_1003 K lo hi ((lo.take i).map dbl) ((hi.take i).map dbl) lo (lo.length : Int) (i : Int) = some (lo.map dbl, hi.map dbl) := by
    intro m
    induction m with
    | zero =>
      intro i hi'
      obtain rfl : i = lo.length := by omega
      rw [Es_bxFine_1003, cf ltf, List.take_length, ← he, List.take_length]
    | succ m ih =>
      intro i hi'
      have h1 : i < lo.length := by omega
      have h2 : i < hi.length := by omega
      rw [Es_bxFine_1003, ct (ltt h1), ct (bA h1), ct (decide_eq_true (by simp; omega)), ct (bA h2), ct (decide_eq_true (by simp; omega)), gD h1, gD h2, sc h1 (by omega)]
      have := ih (i + 1) (by omega)
      rw [List.take_succ_eq_append_getElem h1, List.map_append, List.take_succ_eq_append_getElem h2, List.map_append] at this
      exact this
  unfold s_bxFine
  exact main lo.length 0 (by omega)
/-- Both halves of a box, if they are valid. -/
def midS (b : Bx) (i : Nat) : Int := IntKind.wrap .i64 (b.2.1.getD i 0 + b.2.2.getD i 0)
def hfA (b : Bx) (i : Nat) : Bx × Bool := bmk (b.1.toNat + 1) (b.2.1.map dbl) ((b.2.2.map dbl).set i (midS b i))
def hfB (b : Bx) (i : Nat) : Bx × Bool := bmk (b.1.toNat + 1) ((b.2.1.map dbl).set i (midS b i)) (b.2.2.map dbl)
def hlv (b : Bx) (i : Nat) : List Bx × Bool := bif (hfA b i).2 && (hfB b i).2 then ([(hfA b i).1, (hfB b i).1], true) else ([], false)
theorem bOk_parts {K : Int} {lo hi : List Int} (h : bOk K lo hi = true) : 0 ≤ K ∧ K ≤ 8 ∧ 1 ≤ lo.length ∧ lo.length ≤ 3 ∧ hi.length = lo.length := by
  unfold bOk at h
  simp only [Bool.and_eq_true, decide_eq_true_eq] at h
  omega
theorem halves_v {b : Bx} {i : Nat} (hb : bOkB b = true) (hi : i < b.2.1.length) : i_Box_halves b (i : Int) = some (hlv b i) := by
  obtain ⟨K, lo, hh⟩ := b
  obtain ⟨h1, h2, h3, h4, h5⟩ := bOk_parts hb
  obtain ⟨k, rfl⟩ := Int.eq_ofNat_of_zero_le h1
  have h3 : 1 ≤ lo.length := h3
  have h4 : lo.length ≤ 3 := h4
  have h5 : hh.length = lo.length := h5
  have hi : i < lo.length := hi
  have hi2 : i < hh.length := by omega
  have p1 : i < (hh.map dbl).length := by rw [List.length_map]; exact hi2
  have p2 : i < (lo.map dbl).length := by rw [List.length_map]; exact hi
  unfold i_Box_halves
  simp only
  rw [bsome (scaled1_v (by omega)), bsome (scaled1_v (by omega)), ct (bA hi), ct (bA hi2), bsome (cloneInt_v (by rw [List.length_map]; omega)), bsome (cloneInt_v (by rw [List.length_map]; omega)), ct (bA p1), ct (nblt p1), ct (bA p2), ct (nblt p2), wrap64 (n := (k : Int) + 1) (by omega) (by omega), show (k : Int) + 1 = ((k + 1 : Nat) : Int) by omega]
  rw [bsome (boxOf_v (by omega) (by rw [List.length_map]; omega) (by simp; omega)), bsome (boxOf_v (by omega) (by simp; omega) (by rw [List.length_map]; omega)), Int.toNat_natCast]
  unfold hlv hfA hfB midS
  simp only [Int.toNat_natCast]
  generalize bmk (k + 1) (lo.map dbl) _ = A
  generalize bmk (k + 1) (List.set (lo.map dbl) i _) _ = B
  obtain ⟨A, a⟩ := A
  obtain ⟨B, b⟩ := B
  cases a <;> cases b <;> rfl
theorem bxHalves_v {b : Bx} {i : Nat} (hb : bOkB b = true) (hi : i < b.2.1.length) : s_bxHalves b.1 b.2.1 b.2.2 (i : Int) = some (hlv b i) := by
  obtain ⟨K, lo, hh⟩ := b
  obtain ⟨h1, h2, h3, h4, h5⟩ := bOk_parts hb
  obtain ⟨k, rfl⟩ := Int.eq_ofNat_of_zero_le h1
  have h3 : 1 ≤ lo.length := h3
  have h4 : lo.length ≤ 3 := h4
  have h5 : hh.length = lo.length := h5
  have hi : i < lo.length := hi
  have hi2 : i < hh.length := by omega
  have p1 : i < (hh.map dbl).length := by rw [List.length_map]; exact hi2
  have p2 : i < (lo.map dbl).length := by rw [List.length_map]; exact hi
  unfold s_bxHalves
  simp only
  rw [bsome (bxFine_v h5 (by omega)), ct (bA hi), ct (bA hi2)]
  simp only
  rw [bsome (l1Own_v (by rw [List.length_map]; omega)), bsome (l1Own_v (by rw [List.length_map]; omega)), ct (bA p2), ct (nblt p2), ct (bA p1), ct (nblt p1), wrap64 (n := (k : Int) + 1) (by omega) (by omega), show (k : Int) + 1 = ((k + 1 : Nat) : Int) by omega]
  rw [bsome (bxMake_v (by omega) (by simp; omega) (by rw [List.length_map]; omega)), bsome (bxMake_v (by omega) (by simp; omega) (by simp; omega)), Int.toNat_natCast]
  unfold hlv hfA hfB midS
  simp only [Int.toNat_natCast]
  generalize bmk (k + 1) (lo.map dbl) _ = A
  generalize bmk (k + 1) (List.set (lo.map dbl) i _) _ = B
  obtain ⟨A, a⟩ := A
  obtain ⟨B, b⟩ := B
  cases a <;> cases b <;> rfl
theorem nrm_len : ∀ (k : Nat) (lo hi : List Int), (nrm k lo hi).2.1.length = lo.length
  | 0, lo, hi => rfl
  | k + 1, lo, hi => by
    rw [nrm]
    cases evn lo hi with
    | true => rw [ct rfl, nrm_len k]; simp
    | false => rfl
theorem bmk_ok {k : Nat} {lo hi : List Int} (h : (bmk k lo hi).2 = true) : bOkB (bmk k lo hi).1 = true ∧ (bmk k lo hi).1.2.1.length = lo.length := by
  unfold bmk at h ⊢
  cases hb : bOkB (nrm k lo hi) with
  | true => exact ⟨hb, nrm_len k lo hi⟩
  | false => rw [hb] at h; cases h
theorem hlv_ok {b : Bx} {i : Nat} (h : (hlv b i).2 = true) : ∃ x y, hlv b i = ([x, y], true) ∧ bOkB x = true ∧ bOkB y = true ∧ x.2.1.length = b.2.1.length ∧ y.2.1.length = b.2.1.length := by
  unfold hlv at h ⊢
  cases ha : (hfA b i).2 with
  | false => rw [ha] at h; cases h
  | true =>
    cases hb : (hfB b i).2 with
    | false => rw [ha, hb] at h; cases h
    | true =>
      obtain ⟨a1, a2⟩ := bmk_ok ha
      obtain ⟨b1, b2⟩ := bmk_ok hb
      refine ⟨_, _, rfl, a1, b1, ?_, ?_⟩
      · exact a2.trans (by simp)
      · exact b2.trans (by simp)
theorem hlv_no {b : Bx} {i : Nat} (h : (hlv b i).2 = false) : hlv b i = ([], false) := by
  unfold hlv at h ⊢
  cases hc : (hfA b i).2 && (hfB b i).2 with
  | false => rfl
  | true => rw [hc] at h; cases h
end Go.Proofs.YtchdegcfohegfaaE
