/- Plain lemmas on what the printed functions come to. -/
import Derived.Test.YtchdegcfohegfaaMJ
set_option maxRecDepth 100000
set_option linter.unusedVariables false
set_option linter.unusedSimpArgs false
namespace Go.Proofs.YtchdegcfohegfaaE
/-! marksA -/
/-! Marks on lists, and whether they are held. -/
theorem mkIntS_l {n : Nat} (hn : n ≤ 1000000) : ∀ (m i : Nat) (k : Int) (p : List Int), i + m = n → n ≤ p.length → 0 ≤ k → k + m ≤ 1000000000000 → ∃ p', w_markIntS_1002 n k (i : Int) p = some (p', k + m)
  | 0, i, k, p, hi, hp, _, _ => by
    rw [Ew_markIntS_1002, show i = n by omega, cf ltf]
    exact ⟨p, by simp⟩
  | m + 1, i, k, p, hi, hp, h0, hk => by
    have hlt : i < n := by omega
    rw [Ew_markIntS_1002, ct (ltt hlt), ct (bA hlt), ct (by simp; omega), ct (by rw [Int.toNat_natCast]; simp; omega), sc hlt (by omega), wrap64 (n := k + 1) (by omega) (by omega)]
    obtain ⟨p', e⟩ := mkIntS_l hn m (i + 1) (k + 1) (List.set p (Int.toNat (i : Int)) k) (by omega) (by simp; omega) (by omega) (by omega)
    exact ⟨p', by rw [e]; congr 2; omega⟩
theorem mkIntS_v {v : List Int} {n : Nat} {k : Int} (hv : n ≤ v.length) (hn : n ≤ 1000000) (h0 : 0 ≤ k) (hk : k + n ≤ 1000000000000) : ∃ p', w_markIntS v n k = some (p', k + n) := mkIntS_l hn n 0 k v (by omega) hv h0 hk
theorem mkBox_v {v : Int × (List Int × Nat) × (List Int × Nat)} {k : Int} (h1 : v.2.1.2 ≤ v.2.1.1.length) (h2 : v.2.2.2 ≤ v.2.2.1.length) (n1 : v.2.1.2 ≤ 1000000) (n2 : v.2.2.2 ≤ 1000000) (h0 : 0 ≤ k) (hk : k ≤ 1000000000) : ∃ p', w_markBox v.2.1.1 v.2.2.1 v.1 v.2.1.2 v.2.2.2 k = some (p', k + v.2.1.2 + v.2.2.2) := by
  obtain ⟨p1, e1⟩ := mkIntS_v (k := k) h1 n1 h0 (by omega)
  obtain ⟨p2, e2⟩ := mkIntS_v (k := k + v.2.1.2) h2 n2 (by omega) (by omega)
  unfold w_markBox
  rw [bsome e1, bsome e2]
  exact ⟨_, rfl⟩
theorem set_two {p : List (Int × Int)} {i : Nat} (hi : i < p.length) (k k' : Int) : List.set (List.set p i (k, (List.getD p i (0, 0)).2)) i ((List.getD (List.set p i (k, (List.getD p i (0, 0)).2)) i (0, 0)).1, k') = List.set p i (k, k') := by
  have : List.getD (List.set p i (k, (List.getD p i (0, 0)).2)) i (0, 0) = (k, (List.getD p i (0, 0)).2) := by
    rw [List.getD_eq_getElem?_getD, List.getElem?_set_self hi]; rfl
  rw [this, List.set_set]
theorem mkNodeS_l {n : Nat} (hn : n ≤ 1000000) : ∀ (m i : Nat) (k : Int) (p : List (Int × Int)), i + m = n → n ≤ p.length → 0 ≤ k → k + 2 * m ≤ 1000000000000 → ∃ p', w_markNodeS_1002 n k (i : Int) p = some (p', k + 2 * m)
  | 0, i, k, p, hi, hp, _, _ => by
    rw [Ew_markNodeS_1002, show i = n by omega, cf ltf]
    exact ⟨p, by simp⟩
  | m + 1, i, k, p, hi, hp, h0, hk => by
    have hlt : i < n := by omega
    have hb : ∀ q : List (Int × Int), n ≤ q.length → Nat.ble n q.length = true ∧ Nat.blt i q.length = true := fun q h => ⟨by simpa using h, by simp; omega⟩
    rw [Ew_markNodeS_1002, Int.toNat_natCast, ct (ltt hlt), ct (bA hlt), ct (hb p hp).1, ct (hb p hp).2, ct (bA hlt), ct (hb _ (by simpa using hp)).1, ct (hb _ (by simpa using hp)).2, set_two (by omega), sc hlt (by omega), wrap64 (n := k + 1) (by omega) (by omega), wrap64 (n := k + 1 + 1) (by omega) (by omega)]
    obtain ⟨p', e⟩ := mkNodeS_l hn m (i + 1) (k + 1 + 1) (List.set p i (k, k + 1)) (by omega) (by simp; omega) (by omega) (by omega)
    exact ⟨p', by rw [e]; congr 2; omega⟩
theorem mkNodeS_v {v : List (Int × Int) × Nat} {k : Int} (hv : v.2 ≤ v.1.length) (hn : v.2 ≤ 1000000) (h0 : 0 ≤ k) (hk : k + 2 * v.2 ≤ 1000000000000) : ∃ p', w_markNodeS v.1 v.2 k = some (p', k + 2 * v.2) := mkNodeS_l hn v.2 0 k v.1 (by omega) hv h0 hk
/-! dmarks0 -/
/-! Marks: numbers that follow each other. -/
def rng (k : Int) (n : Nat) : List Int := (List.range n).map fun (i : Nat) => k + (i : Int)
theorem rng_len (k : Int) (n : Nat) : (rng k n).length = n := by simp [rng]
theorem rng_get {k : Int} {n i : Nat} (h : i < n) : List.getD (rng k n) (Int.toNat (i : Int)) 0 = k + (i : Int) := by
  rw [gD (by rw [rng_len]; exact h)]; simp [rng]
theorem take_set_rng {K : Int} {p : List Int} {i : Nat} (hi : i < p.length) (h : p.take i = rng K i) : (List.set p i (K + (i : Int))).take (i + 1) = rng K (i + 1) := by
  rw [List.take_succ_eq_append_getElem (by simpa using hi), List.take_set_of_le (Nat.le_refl _), List.getElem_set_self, h]
  unfold rng
  rw [List.range_succ, List.map_append]
  rfl
theorem mkI_l {K : Int} (h0 : 0 ≤ K) (hK : K ≤ 1000000000000) : ∀ (m i : Nat) (p : List Int), i + m = p.length → p.length ≤ 1000000 → p.take i = rng K i → w_markIntS_x0_1002 (K + (i : Int)) (i : Int) p = some (rng K p.length, K + (p.length : Int))
  | 0, i, p, hi, hp, ht => by
    rw [Ew_markIntS_x0_1002, show i = p.length by omega, cf ltf]
    rw [show i = p.length by omega, List.take_length] at ht
    rw [← ht]
  | m + 1, i, p, hi, hp, ht => by
    have hlt : i < p.length := by omega
    rw [Ew_markIntS_x0_1002, Int.toNat_natCast, ct (ltt hlt), ct (bA hlt), ct (by simpa using hlt), sc hlt (by omega), wrap64 (n := K + (i : Int) + 1) (by omega) (by omega), show K + (i : Int) + 1 = K + ((i + 1 : Nat) : Int) by omega]
    have := mkI_l h0 hK m (i + 1) (List.set p i (K + (i : Int))) (by simp; omega) (by simpa using hp) (take_set_rng hlt ht)
    rw [List.length_set] at this
    exact this
theorem mkI_v {p : List Int} {K : Int} (h0 : 0 ≤ K) (hK : K ≤ 1000000000000) (hp : p.length ≤ 1000000) : w_markIntS_x0 p K = some (rng K p.length, K + (p.length : Int)) := by
  have := mkI_l h0 hK p.length 0 p (by omega) hp rfl
  rw [show K + ((0 : Nat) : Int) = K by omega] at this
  exact this
theorem hdI_l {K : Int} (h0 : 0 ≤ K) (hK : K ≤ 1000000000000) {n : Nat} (hn : n ≤ 1000000) : ∀ (m i : Nat), i + m = n → w_heldIntS_1002 (rng K n) n (K + (i : Int)) (i : Int) = some (K + (n : Int))
  | 0, i, hi => by rw [Ew_heldIntS_1002, show i = n by omega, cf ltf]
  | m + 1, i, hi => by
    have hlt : i < n := by omega
    rw [Ew_heldIntS_1002, rng_get hlt, ct (ltt hlt), ct (bA hlt), cf (by simp), sc hlt (by omega), wrap64 (n := K + (i : Int) + 1) (by omega) (by omega), show K + (i : Int) + 1 = K + ((i + 1 : Nat) : Int) by omega]
    exact hdI_l h0 hK hn m (i + 1) (by omega)
theorem hdI_v {K : Int} (h0 : 0 ≤ K) (hK : K ≤ 1000000000000) {n : Nat} (hn : n ≤ 1000000) : w_heldIntS (rng K n) (List.length (rng K n)) K = some (K + (n : Int)) := by
  have := hdI_l h0 hK hn n 0 (by omega)
  rw [show K + ((0 : Nat) : Int) = K by omega] at this
  rw [rng_len]
  exact this
theorem gdA {α : Type} {d x : α} {p q : List α} : List.getD (p ++ x :: q) (Int.toNat (p.length : Int)) d = x := by
  rw [gD (by simp)]; simp
theorem stA {α : Type} {x y : α} {p q : List α} : List.set (p ++ x :: q) (Int.toNat (p.length : Int)) y = p ++ y :: q := by
  rw [Int.toNat_natCast, List.set_append_right _ _ (Nat.le_refl _)]; simp
/-! markbox1 -/
/-! Marks on one box of the result. -/
theorem mkB1_v {lo hi : List Int} {K k : Int} (h0 : 0 ≤ k) (hk : k ≤ 1000000) (h1 : lo.length ≤ 3) (h2 : hi.length ≤ 3) : w_markBox_x0 lo hi K k = some ((rng k lo.length, rng (k + (lo.length : Int)) hi.length), k + (lo.length : Int) + (hi.length : Int)) := by
  unfold w_markBox_x0
  rw [bsome (mkI_v h0 (by omega) (by omega)), bsome (mkI_v (by omega) (by omega) (by omega))]
theorem hdB1_v {n m : Nat} {K k : Int} (h0 : 0 ≤ k) (hk : k ≤ 1000000) (h1 : n ≤ 3) (h2 : m ≤ 3) : w_heldBox K (rng k n) (List.length (rng k n)) (rng (k + (n : Int)) m) (List.length (rng (k + (n : Int)) m)) k = some (k + (n : Int) + (m : Int)) := by
  unfold w_heldBox
  rw [bsome (hdI_v h0 (by omega) (by omega)), cf (decide_eq_false (by omega)), bsome (hdI_v (by omega) (by omega) (by omega)), cf (decide_eq_false (by omega))]
end Go.Proofs.YtchdegcfohegfaaE
