/- Plain lemmas on what the printed functions come to. -/
import Derived.Test.YtkahcjnkmbbplaaXI
import Derived.Test.YtkahcjnkmbbplaaXR
set_option maxRecDepth 100000
set_option linter.unusedVariables false
set_option linter.unusedSimpArgs false
namespace Go.Proofs.YtkahcjnkmbbplaaE
/-! marks -/
/-! Marks on lists, and whether they are held. -/
theorem mkIntS_l {n : Nat} (hn : n ≤ 1000000) : ∀ (m i : Nat) (k : Int) (p : List Int), i + m = n → n ≤ p.length → 0 ≤ k → k + m ≤ 1000000000000 → ∃ p', w_markIntS_1002 n k (i : Int) p = some (p', k + m)
  | 0, i, k, p, hi, hp, _, _ => by
    rw [Ew_markIntS_1002, show i = n by omega, cf ltf]
    exact ⟨p, by simp⟩
  | m + 1, i, k, p, hi, hp, h0, hk => by
    have hlt : i < n := by omega
    rw [Ew_markIntS_1002, ct (ltt hlt), ct (bA hlt), ct (by simp; omega), ct (by rw [Int.toNat_natCast]; simp; omega), sc hlt (by omega), wrap64 (n := k + 1) (by omega) (by omega)]
    obtain ⟨p', e⟩ := mkIntS_l hn m (i + 1) (k + 1) (List.set p (Int.toNat (i : Int)) k) (by omega) (by simp; omega) (by omega) (by omega)
    exact ⟨p', by rw [e]; congr 2; omega⟩
theorem mkIntS_v {v : List Int} {n : Nat} {k : Int} (hv : n ≤ v.length) (hn : n ≤ 1000000) (h0 : 0 ≤ k) (hk : k + n ≤ 1000000000000) : ∃ p', w_markIntS v n k = some (p', k + n) := mkIntS_l hn n 0 k v (by omega) hv h0 hk
theorem mkBox_v {v : Int × (List Int × Nat) × (List Int × Nat)} {k : Int} (h1 : v.2.1.2 ≤ v.2.1.1.length) (h2 : v.2.2.2 ≤ v.2.2.1.length) (n1 : v.2.1.2 ≤ 1000000) (n2 : v.2.2.2 ≤ 1000000) (h0 : 0 ≤ k) (hk : k ≤ 1000000000) : ∃ p', w_markBox v.2.1.1 v.2.2.1 v.1 v.2.1.2 v.2.2.2 k = some (p', k + v.2.1.2 + v.2.2.2) := by
  obtain ⟨p1, e1⟩ := mkIntS_v (k := k) h1 n1 h0 (by omega)
  obtain ⟨p2, e2⟩ := mkIntS_v (k := k + v.2.1.2) h2 n2 (by omega) (by omega)
  unfold w_markBox
  rw [bsome e1, bsome e2]
  exact ⟨_, rfl⟩
theorem set_two {p : List (Int × Int)} {i : Nat} (hi : i < p.length) (k k' : Int) : List.set (List.set p i (k, (List.getD p i (0, 0)).2)) i ((List.getD (List.set p i (k, (List.getD p i (0, 0)).2)) i (0, 0)).1, k') = List.set p i (k, k') := by
  have : List.getD (List.set p i (k, (List.getD p i (0, 0)).2)) i (0, 0) = (k, (List.getD p i (0, 0)).2) := by
    rw [List.getD_eq_getElem?_getD, List.getElem?_set_self hi]; rfl
  rw [this, List.set_set]
theorem mkNodeS_l {n : Nat} (hn : n ≤ 1000000) : ∀ (m i : Nat) (k : Int) (p : List (Int × Int)), i + m = n → n ≤ p.length → 0 ≤ k → k + 2 * m ≤ 1000000000000 → ∃ p', w_markNodeS_1002 n k (i : Int) p = some (p', k + 2 * m)
  | 0, i, k, p, hi, hp, _, _ => by
    rw [Ew_markNodeS_1002, show i = n by omega, cf ltf]
    exact ⟨p, by simp⟩
  | m + 1, i, k, p, hi, hp, h0, hk => by
    have hlt : i < n := by omega
    have hb : ∀ q : List (Int × Int), n ≤ q.length → Nat.ble n q.length = true ∧ Nat.blt i q.length = true := fun q h => ⟨by simpa using h, by simp; omega⟩
    rw [Ew_markNodeS_1002, Int.toNat_natCast, ct (ltt hlt), ct (bA hlt), ct (hb p hp).1, ct (hb p hp).2, ct (bA hlt), ct (hb _ (by simpa using hp)).1, ct (hb _ (by simpa using hp)).2, set_two (by omega), sc hlt (by omega), wrap64 (n := k + 1) (by omega) (by omega), wrap64 (n := k + 1 + 1) (by omega) (by omega)]
    obtain ⟨p', e⟩ := mkNodeS_l hn m (i + 1) (k + 1 + 1) (List.set p i (k, k + 1)) (by omega) (by simp; omega) (by omega) (by omega)
    exact ⟨p', by rw [e]; congr 2; omega⟩
theorem mkNodeS_v {v : List (Int × Int) × Nat} {k : Int} (hv : v.2 ≤ v.1.length) (hn : v.2 ≤ 1000000) (h0 : 0 ≤ k) (hk : k + 2 * v.2 ≤ 1000000000000) : ∃ p', w_markNodeS v.1 v.2 k = some (p', k + 2 * v.2) := mkNodeS_l hn v.2 0 k v.1 (by omega) hv h0 hk
/-- Marks on pairs. -/
def mkP (k : Int) (i : Nat) : Int × Int := (k + 2 * i, k + 2 * i + 1)
theorem take_set_map {α : Type} {f : Nat → α} {p : List α} {i : Nat} (hi : i < p.length) (h : p.take i = (List.range i).map f) : (List.set p i (f i)).take (i + 1) = (List.range (i + 1)).map f := by
  rw [List.take_succ_eq_append_getElem (by simpa using hi), List.take_set_of_le (Nat.le_refl _), List.getElem_set_self, h, List.range_succ, List.map_append]
  rfl
theorem mkDyadicS_l {K : Int} (hK : 0 ≤ K ∧ K ≤ 1000000000) : ∀ (m i : Nat) (p : List (Int × Int)), i + m = p.length → p.length ≤ 1000000 → p.take i = (List.range i).map (mkP K) → w_markDyadicS_x0_1002 (K + 2 * (i : Int)) (i : Int) p = some ((List.range p.length).map (mkP K), K + 2 * (p.length : Int))
  | 0, i, p, hi, hp, ht => by
    rw [Ew_markDyadicS_x0_1002, show i = p.length by omega, cf ltf]
    rw [show i = p.length by omega, List.take_length] at ht
    rw [ht]; simp
  | m + 1, i, p, hi, hp, ht => by
    have hlt : i < p.length := by omega
    rw [Ew_markDyadicS_x0_1002, Int.toNat_natCast, ct (ltt hlt), ct (bA hlt), ct (by simpa using hlt), ct (bA (by simpa using hlt)), ct (by simpa using hlt), set_two hlt, sc hlt (by omega), wrap64 (n := K + 2 * (i : Int) + 1) (by omega) (by omega), wrap64 (n := K + 2 * (i : Int) + 1 + 1) (by omega) (by omega), show K + 2 * (i : Int) + 1 + 1 = K + 2 * ((i + 1 : Nat) : Int) by omega]
    have := mkDyadicS_l hK m (i + 1) (List.set p i (mkP K i)) (by simp; omega) (by simpa using hp) (take_set_map hlt ht)
    rw [List.length_set] at this
    exact this
theorem mkDyadicS_v {p : List (Int × Int)} {K : Int} (hK : 0 ≤ K ∧ K ≤ 1000000000) (hp : p.length ≤ 1000000) : w_markDyadicS_x0 p K = some ((List.range p.length).map (mkP K), K + 2 * (p.length : Int)) := by
  have := mkDyadicS_l hK p.length 0 p (by omega) hp rfl
  rw [show K + 2 * ((0 : Nat) : Int) = K by omega] at this
  exact this
theorem hdDyadicS_l {K : Int} (hK : 0 ≤ K ∧ K ≤ 1000000000) {n : Nat} (hn : n ≤ 1000000) : ∀ (m i : Nat), i + m = n → w_heldDyadicS_1002 ((List.range n).map (mkP K)) n (K + 2 * (i : Int)) (i : Int) = some (K + 2 * (n : Int))
  | 0, i, hi => by rw [Ew_heldDyadicS_1002, show i = n by omega, cf ltf]
  | m + 1, i, hi => by
    have hlt : i < n := by omega
    have hl : i < ((List.range n).map (mkP K)).length := by simpa using hlt
    have hg : List.getD ((List.range n).map (mkP K)) (Int.toNat (i : Int)) (0, 0) = mkP K i := by rw [gD hl]; simp
    rw [Ew_heldDyadicS_1002, hg, ct (ltt hlt), ct (bA hlt), cf (by simp [mkP]), ct (bA hlt), wrap64 (n := K + 2 * (i : Int) + 1) (by omega) (by omega), cf (by simp [mkP]), sc hlt (by omega), wrap64 (n := K + 2 * (i : Int) + 1 + 1) (by omega) (by omega), show K + 2 * (i : Int) + 1 + 1 = K + 2 * ((i + 1 : Nat) : Int) by omega]
    exact hdDyadicS_l hK hn m (i + 1) (by omega)
theorem hdDyadicS_v {K : Int} (hK : 0 ≤ K ∧ K ≤ 1000000000) {n : Nat} (hn : n ≤ 1000000) : w_heldDyadicS ((List.range n).map (mkP K)) n K = some (K + 2 * (n : Int)) := by
  have := hdDyadicS_l hK hn n 0 (by omega)
  rw [show K + 2 * ((0 : Nat) : Int) = K by omega] at this
  exact this
theorem hdDyadicS_w {K : Int} (hK : 0 ≤ K ∧ K ≤ 1000000000) {n : Nat} (hn : n ≤ 1000000) : w_heldDyadicS ((List.range n).map (mkP K)) (List.length ((List.range n).map (mkP K))) K = some (K + 2 * (n : Int)) := by
  have : List.length ((List.range n).map (mkP K)) = n := by simp
  rw [this]
  exact hdDyadicS_v hK hn
/-! mainVolumesOf -/
theorem main_FnExactVolumesOf {b : Bx} {l : List Nd} (hb : SzBox 1000000 b) (hl : l.length ≤ 1000000) : ∃ w, s_VolumesOf b.1 b.2.1 b.2.2 l = some w ∧ i_VolumesOf b.1 b.2.1 b.2.2 l = some w ∧ w.1.length ≤ 3 := by
  unfold s_VolumesOf i_VolumesOf
  have hi : i_isBox (b.1, b.2.1, b.2.2) = some (bOkB b) := isBox_v
  rw [bsome (rpAsked_v hl), bsome hi, bsome (isTree_v l hl _)]
  cases ha : asked b l with
  | none =>
    cases hbb : bOkB b with
    | false => exact ⟨_, rfl, rfl, by simp⟩
    | true =>
      cases htt : isT (b.2.1.length : Int) l with
      | false => exact ⟨_, rfl, rfl, by simp⟩
      | true =>
        have hlb : lbx l [b] = none := by
          unfold asked at ha
          rw [hbb, htt] at ha
          exact ha
        have hk : i_kindVolumes (b.1, b.2.1, b.2.2) l = some ([], false) := by
          have hlf : i_leafBoxes (b.1, b.2.1, b.2.2) l = some (lbR [] (lbx l [b])) := leafBoxes_v hl hbb htt
          unfold i_kindVolumes
          rw [bsome hlf, hlb]
          rfl
        refine ⟨([], false), rfl, ?_, by simp⟩
        show (i_kindVolumes (b.1, b.2.1, b.2.2) l).bind _ = _
        rw [bsome hk]
  | some bs =>
    obtain ⟨hbb, htt, _, hbs, hlen, hsum, _⟩ := asked_parts ha
    have hk : i_kindVolumes (b.1, b.2.1, b.2.2) l = _ := kindVolumes_v hl ha
    refine ⟨([red 24 (ksum 1 (lvs l) bs), red 24 (ksum 2 (lvs l) bs), red 24 (ksum 3 (lvs l) bs)], true), ?_, ?_, by simp⟩
    · show s_VolumesOf_1006 l bs [] 1 = _
      have hr := fun kind => rpVolume_v (kind := kind) hl (fun c hc => (hbs c hc).1) hlen hsum
      rw [Es_VolumesOf_1006, ct (by decide), bsome (hr 1), ct (by simp), show IntKind.wrap .i64 (1 + 1) = 2 from rfl,
        Es_VolumesOf_1006, ct (by decide), bsome (hr 2), ct (by simp), show IntKind.wrap .i64 (2 + 1) = 3 from rfl,
        Es_VolumesOf_1006, ct (by decide), bsome (hr 3), ct (by simp), show IntKind.wrap .i64 (3 + 1) = 4 from rfl, Es_VolumesOf_1006, cf (by decide)]
      rfl
    · rw [hbb, htt]
      show (i_kindVolumes (b.1, b.2.1, b.2.2) l).bind _ = _
      rw [bsome hk]
end Go.Proofs.YtkahcjnkmbbplaaE
