/- Plain lemmas on what the printed functions come to. -/
import Derived.Test.YtchdegcfohegfaaAI
import Derived.Test.YtchdegcfohegfaaAQ
set_option maxRecDepth 100000
set_option linter.unusedVariables false
set_option linter.unusedSimpArgs false
namespace Go.Proofs.YtchdegcfohegfaaE
/-! marksA -/
/-! Marks on lists, and whether they are held. -/
theorem mkIntS_l {n : Nat} (hn : n ≤ 1000000) : ∀ (m i : Nat) (k : Int) (p : List Int), i + m = n → n ≤ p.length → 0 ≤ k → k + m ≤ 1000000000000 → ∃ p', w_markIntS_1002 n k (i : Int) p = some (p', k + m)
  | 0, i, k, p, hi, hp, _, _ => by
    rw [Ew_markIntS_1002, show i = n by omega, cf ltf]
    exact ⟨p, by simp⟩
  | m + 1, i, k, p, hi, hp, h0, hk => by
    have hlt : i < n := by omega
    rw [Ew_markIntS_1002, ct (ltt hlt), ct (bA hlt), ct (by simp; omega), ct (by rw [Int.toNat_natCast]; simp; omega), sc hlt (by omega), wrap64 (n := k + 1) (by omega) (by omega)]
    obtain ⟨p', e⟩ := mkIntS_l hn m (i + 1) (k + 1) (List.set p (Int.toNat (i : Int)) k) (by omega) (by simp; omega) (by omega) (by omega)
    exact ⟨p', by rw [e]; congr 2; omega⟩
theorem mkIntS_v {v : List Int} {n : Nat} {k : Int} (hv : n ≤ v.length) (hn : n ≤ 1000000) (h0 : 0 ≤ k) (hk : k + n ≤ 1000000000000) : ∃ p', w_markIntS v n k = some (p', k + n) := mkIntS_l hn n 0 k v (by omega) hv h0 hk
theorem mkBox_v {v : Int × (List Int × Nat) × (List Int × Nat)} {k : Int} (h1 : v.2.1.2 ≤ v.2.1.1.length) (h2 : v.2.2.2 ≤ v.2.2.1.length) (n1 : v.2.1.2 ≤ 1000000) (n2 : v.2.2.2 ≤ 1000000) (h0 : 0 ≤ k) (hk : k ≤ 1000000000) : ∃ p', w_markBox v.2.1.1 v.2.2.1 v.1 v.2.1.2 v.2.2.2 k = some (p', k + v.2.1.2 + v.2.2.2) := by
  obtain ⟨p1, e1⟩ := mkIntS_v (k := k) h1 n1 h0 (by omega)
  obtain ⟨p2, e2⟩ := mkIntS_v (k := k + v.2.1.2) h2 n2 (by omega) (by omega)
  unfold w_markBox
  rw [bsome e1, bsome e2]
  exact ⟨_, rfl⟩
theorem set_two {p : List (Int × Int)} {i : Nat} (hi : i < p.length) (k k' : Int) : List.set (List.set p i (k, (List.getD p i (0, 0)).2)) i ((List.getD (List.set p i (k, (List.getD p i (0, 0)).2)) i (0, 0)).1, k') = List.set p i (k, k') := by
  have : List.getD (List.set p i (k, (List.getD p i (0, 0)).2)) i (0, 0) = (k, (List.getD p i (0, 0)).2) := by
    rw [List.getD_eq_getElem?_getD, List.getElem?_set_self hi]; rfl
  rw [this, List.set_set]
theorem mkNodeS_l {n : Nat} (hn : n ≤ 1000000) : ∀ (m i : Nat) (k : Int) (p : List (Int × Int)), i + m = n → n ≤ p.length → 0 ≤ k → k + 2 * m ≤ 1000000000000 → ∃ p', w_markNodeS_1002 n k (i : Int) p = some (p', k + 2 * m)
  | 0, i, k, p, hi, hp, _, _ => by
    rw [Ew_markNodeS_1002, show i = n by omega, cf ltf]
    exact ⟨p, by simp⟩
  | m + 1, i, k, p, hi, hp, h0, hk => by
    have hlt : i < n := by omega
    have hb : ∀ q : List (Int × Int), n ≤ q.length → Nat.ble n q.length = true ∧ Nat.blt i q.length = true := fun q h => ⟨by simpa using h, by simp; omega⟩
    rw [Ew_markNodeS_1002, Int.toNat_natCast, ct (ltt hlt), ct (bA hlt), ct (hb p hp).1, ct (hb p hp).2, ct (bA hlt), ct (hb _ (by simpa using hp)).1, ct (hb _ (by simpa using hp)).2, set_two (by omega), sc hlt (by omega), wrap64 (n := k + 1) (by omega) (by omega), wrap64 (n := k + 1 + 1) (by omega) (by omega)]
    obtain ⟨p', e⟩ := mkNodeS_l hn m (i + 1) (k + 1 + 1) (List.set p i (k, k + 1)) (by omega) (by simp; omega) (by omega) (by omega)
    exact ⟨p', by rw [e]; congr 2; omega⟩
theorem mkNodeS_v {v : List (Int × Int) × Nat} {k : Int} (hv : v.2 ≤ v.1.length) (hn : v.2 ≤ 1000000) (h0 : 0 ≤ k) (hk : k + 2 * v.2 ≤ 1000000000000) : ∃ p', w_markNodeS v.1 v.2 k = some (p', k + 2 * v.2) := mkNodeS_l hn v.2 0 k v.1 (by omega) hv h0 hk
/-! dmarks -/
/-! Marks on lists of boxes, and whether they are held. -/
def rng (k : Int) (n : Nat) : List Int := (List.range n).map fun (i : Nat) => k + (i : Int)
theorem rng_len (k : Int) (n : Nat) : (rng k n).length = n := by simp [rng]
theorem rng_get {k : Int} {n i : Nat} (h : i < n) : List.getD (rng k n) (Int.toNat (i : Int)) 0 = k + (i : Int) := by
  rw [gD (by rw [rng_len]; exact h)]; simp [rng]
theorem take_set_rng {K : Int} {p : List Int} {i : Nat} (hi : i < p.length) (h : p.take i = rng K i) : (List.set p i (K + (i : Int))).take (i + 1) = rng K (i + 1) := by
  rw [List.take_succ_eq_append_getElem (by simpa using hi), List.take_set_of_le (Nat.le_refl _), List.getElem_set_self, h]
  unfold rng
  rw [List.range_succ, List.map_append]
  rfl
theorem mkI_l {K : Int} (h0 : 0 ≤ K) (hK : K ≤ 1000000000000) : ∀ (m i : Nat) (p : List Int), i + m = p.length → p.length ≤ 1000000 → p.take i = rng K i → w_markIntS_x0_1002 (K + (i : Int)) (i : Int) p = some (rng K p.length, K + (p.length : Int))
  | 0, i, p, hi, hp, ht => by
    rw [Ew_markIntS_x0_1002, show i = p.length by omega, cf ltf]
    rw [show i = p.length by omega, List.take_length] at ht
    rw [← ht]
  | m + 1, i, p, hi, hp, ht => by
    have hlt : i < p.length := by omega
    rw [Ew_markIntS_x0_1002, Int.toNat_natCast, ct (ltt hlt), ct (bA hlt), ct (by simpa using hlt), sc hlt (by omega), wrap64 (n := K + (i : Int) + 1) (by omega) (by omega), show K + (i : Int) + 1 = K + ((i + 1 : Nat) : Int) by omega]
    have := mkI_l h0 hK m (i + 1) (List.set p i (K + (i : Int))) (by simp; omega) (by simpa using hp) (take_set_rng hlt ht)
    rw [List.length_set] at this
    exact this
theorem mkI_v {p : List Int} {K : Int} (h0 : 0 ≤ K) (hK : K ≤ 1000000000000) (hp : p.length ≤ 1000000) : w_markIntS_x0 p K = some (rng K p.length, K + (p.length : Int)) := by
  have := mkI_l h0 hK p.length 0 p (by omega) hp rfl
  rw [show K + ((0 : Nat) : Int) = K by omega] at this
  exact this
theorem hdI_l {K : Int} (h0 : 0 ≤ K) (hK : K ≤ 1000000000000) {n : Nat} (hn : n ≤ 1000000) : ∀ (m i : Nat), i + m = n → w_heldIntS_1002 (rng K n) n (K + (i : Int)) (i : Int) = some (K + (n : Int))
  | 0, i, hi => by rw [Ew_heldIntS_1002, show i = n by omega, cf ltf]
  | m + 1, i, hi => by
    have hlt : i < n := by omega
    rw [Ew_heldIntS_1002, rng_get hlt, ct (ltt hlt), ct (bA hlt), cf (by simp), sc hlt (by omega), wrap64 (n := K + (i : Int) + 1) (by omega) (by omega), show K + (i : Int) + 1 = K + ((i + 1 : Nat) : Int) by omega]
    exact hdI_l h0 hK hn m (i + 1) (by omega)
theorem hdI_v {K : Int} (h0 : 0 ≤ K) (hK : K ≤ 1000000000000) {n : Nat} (hn : n ≤ 1000000) : w_heldIntS (rng K n) (List.length (rng K n)) K = some (K + (n : Int)) := by
  have := hdI_l h0 hK hn n 0 (by omega)
  rw [show K + ((0 : Nat) : Int) = K by omega] at this
  rw [rng_len]
  exact this
theorem gdA {α : Type} {d x : α} {p q : List α} : List.getD (p ++ x :: q) (Int.toNat (p.length : Int)) d = x := by
  rw [gD (by simp)]; simp
theorem stA {α : Type} {x y : α} {p q : List α} : List.set (p ++ x :: q) (Int.toNat (p.length : Int)) y = p ++ y :: q := by
  rw [Int.toNat_natCast, List.set_append_right _ _ (Nat.le_refl _)]; simp
def tot : List Bx → Nat
  | [] => 0
  | b :: bs => 1 + b.2.1.length + b.2.2.length + tot bs
def mkBs : Int → List Bx → List Bx
  | _, [] => []
  | k, b :: bs => (k, rng (k + 1) b.2.1.length, rng (k + 1 + (b.2.1.length : Int)) b.2.2.length) :: mkBs (k + 1 + (b.2.1.length : Int) + (b.2.2.length : Int)) bs
theorem mkBs_len : ∀ (bs : List Bx) (k : Int), (mkBs k bs).length = bs.length
  | [], _ => rfl
  | b :: bs, k => by show (mkBs _ bs).length + 1 = bs.length + 1; rw [mkBs_len bs]
theorem tot_cons (b : Bx) (bs : List Bx) : tot (b :: bs) = 1 + b.2.1.length + b.2.2.length + tot bs := rfl
theorem tot_le {m : Nat} : ∀ {bs : List Bx}, (∀ c ∈ bs, c.2.1.length ≤ m ∧ c.2.2.length ≤ m) → tot bs ≤ (1 + 2 * m) * bs.length
  | [], _ => Nat.zero_le _
  | b :: bs, h => by
    have h1 := h b (List.mem_cons_self ..)
    have h2 := tot_le (fun c hc => h c (List.mem_cons_of_mem _ hc))
    rw [List.length_cons, Nat.mul_succ, tot_cons]
    omega
theorem mkB_l : ∀ (rest done : List Bx) (k : Int), 0 ≤ k → k + tot rest ≤ 1000000000000 → done.length + rest.length ≤ 1000000 → (∀ c ∈ rest, c.2.1.length ≤ 1000000 ∧ c.2.2.length ≤ 1000000) →
    w_markBoxS_1002 k (done.length : Int) (done ++ rest) = some (done ++ mkBs k rest, k + tot rest)
  | [], done, k, _, _, _, _ => by
    rw [Ew_markBoxS_1002, List.append_nil, cf ltf]
    simp [mkBs, tot]
  | b :: rest, done, k, h0, hk, hl, hb => by
    obtain ⟨b1, b2⟩ := hb b (List.mem_cons_self ..)
    rw [tot_cons] at hk ⊢
    have hlen : ∀ x : Bx, done.length < (done ++ x :: rest).length := fun x => by simp
    rw [Ew_markBoxS_1002]
    simp only [stA, gdA]
    rw [ct (ltt (hlen _)), ct (bA (hlen _)), ct (nblt (hlen _)), ct (bA (hlen _)), ct (nblt (hlen _)), wrap64 (n := k + 1) (by omega) (by omega), bsome (mkI_v (by omega) (by omega) b1), ct (bA (hlen _)), ct (nblt (hlen _)), bsome (mkI_v (by omega) (by omega) b2), sc (hlen b) (by simp at hl ⊢; omega)]
    have := mkB_l rest (done ++ [(k, rng (k + 1) b.2.1.length, rng (k + 1 + (b.2.1.length : Int)) b.2.2.length)]) (k + 1 + (b.2.1.length : Int) + (b.2.2.length : Int)) (by omega) (by omega) (by simp at hl ⊢; omega) (fun c hc => hb c (List.mem_cons_of_mem _ hc))
    rw [List.length_append, List.append_assoc] at this
    refine Eq.trans this ?_
    rw [List.append_assoc]
    simp only [mkBs, List.singleton_append]
    congr 2
    omega
theorem mkB_v {bs : List Bx} {k : Int} (h0 : 0 ≤ k) (hk : k + tot bs ≤ 1000000000000) (hl : bs.length ≤ 1000000) (hb : ∀ c ∈ bs, c.2.1.length ≤ 1000000 ∧ c.2.2.length ≤ 1000000) : w_markBoxS bs k = some (mkBs k bs, k + tot bs) := mkB_l bs [] k h0 hk (by simpa using hl) hb
theorem hdB_l : ∀ (rest done : List Bx) (k : Int), 0 ≤ k → k + tot rest ≤ 1000000000000 → done.length + rest.length ≤ 1000000 → (∀ c ∈ rest, c.2.1.length ≤ 1000000 ∧ c.2.2.length ≤ 1000000) →
    w_heldBoxS_1002 (done ++ mkBs k rest) k (done.length : Int) = some (k + tot rest)
  | [], done, k, _, _, _, _ => by
    rw [Ew_heldBoxS_1002]
    simp only [mkBs, List.append_nil]
    rw [cf ltf]
    simp [tot]
  | b :: rest, done, k, h0, hk, hl, hb => by
    obtain ⟨b1, b2⟩ := hb b (List.mem_cons_self ..)
    rw [tot_cons] at hk ⊢
    have hlen : done.length < (done ++ mkBs k (b :: rest)).length := by simp [mkBs]
    have hg : List.getD (done ++ mkBs k (b :: rest)) (Int.toNat (done.length : Int)) (0, [], []) = (k, rng (k + 1) b.2.1.length, rng (k + 1 + (b.2.1.length : Int)) b.2.2.length) := gdA
    have hbig : done.length < 9223372036854775807 := by simp at hl; omega
    rw [Ew_heldBoxS_1002, hg, ct (ltt hlen), ct (bA hlen), cf (by simp), ct (bA hlen), wrap64 (n := k + 1) (by omega) (by omega), bsome (hdI_v (by omega) (by omega) b1), cf (decide_eq_false (by omega)), ct (bA hlen), bsome (hdI_v (by omega) (by omega) b2), cf (decide_eq_false (by omega)), sc (n := done.length + 1) (Nat.lt_succ_self _) (by omega)]
    have := hdB_l rest (done ++ [(k, rng (k + 1) b.2.1.length, rng (k + 1 + (b.2.1.length : Int)) b.2.2.length)]) (k + 1 + (b.2.1.length : Int) + (b.2.2.length : Int)) (by omega) (by omega) (by simp at hl ⊢; omega) (fun c hc => hb c (List.mem_cons_of_mem _ hc))
    rw [List.length_append, List.append_assoc] at this
    refine Eq.trans this ?_
    congr 1
    omega
theorem hdB_v {bs : List Bx} {k : Int} (h0 : 0 ≤ k) (hk : k + tot bs ≤ 1000000000000) (hl : bs.length ≤ 1000000) (hb : ∀ c ∈ bs, c.2.1.length ≤ 1000000 ∧ c.2.2.length ≤ 1000000) : w_heldBoxS (mkBs k bs) k = some (k + tot bs) := hdB_l bs [] k h0 hk (by simpa using hl) hb
theorem eqB_l {bs : List Bx} (hl : bs.length ≤ 1000000) (hb : ∀ c ∈ bs, c.2.1.length ≤ 1000000 ∧ c.2.2.length ≤ 1000000) : ∀ (m i : Nat), i + m = bs.length → w_eqBoxS_1004 bs bs (i : Int) = some true
  | 0, i, hi => by rw [Ew_eqBoxS_1004, show i = bs.length by omega, cf ltf]
  | m + 1, i, hi => by
    have hlt : i < bs.length := by omega
    obtain ⟨b1, b2⟩ := hb bs[i] (List.getElem_mem hlt)
    have he : w_eqBox bs[i].1 bs[i].2.1 bs[i].2.2 bs[i].1 bs[i].2.1 bs[i].2.2 = some true := by
      unfold w_eqBox
      rw [cf (by simp), bsome (q_IntS (show List.length _ ≤ maxLen by simp only [maxLen]; omega)), cnt, bsome (q_IntS (show List.length _ ≤ maxLen by simp only [maxLen]; omega)), cnt]
    rw [Ew_eqBoxS_1004, ct (ltt hlt), ct (bA hlt), ct (bA hlt), gD hlt, bsome he, cnt, sc hlt (by omega)]
    exact eqB_l hl hb m (i + 1) (by omega)
theorem eqB_v {bs : List Bx} (hl : bs.length ≤ 1000000) (hb : ∀ c ∈ bs, c.2.1.length ≤ 1000000 ∧ c.2.2.length ≤ 1000000) : w_eqBoxS bs bs = some true := by
  unfold w_eqBoxS
  rw [cf (by simp)]
  exact eqB_l hl hb bs.length 0 (by omega)
/-- Boxes of a fair size. -/
def FairB (bs : List Bx) : Prop := bs.length ≤ 1000000 ∧ ∀ c ∈ bs, c.2.1.length ≤ 1000000 ∧ c.2.2.length ≤ 1000000 ∧ c.2.1.length ≤ 3 ∧ c.2.2.length ≤ 3
theorem fair_ok {bs : List Bx} {n : Nat} (hl : bs.length ≤ 1000000) (h : ∀ b ∈ bs, bOkB b = true ∧ b.2.1.length = n) : FairB bs := ⟨hl, fun c hc => by
  have := bOk_parts (h c hc).1
  omega⟩
theorem fair_nil : FairB [] := ⟨by simp, fun c hc => by cases hc⟩
/-! mainBoxesOf -/
theorem trBoxes_v {b : Bx} {l : List Nd} (hl : l.length ≤ 1000000) (hb : bOkB b = true) (ht : isT (b.2.1.length : Int) l = true) : s_trBoxes b.1 b.2.1 b.2.2 l = some (lbR [] (lbx l [b])) := by
  obtain ⟨t1, t2, t3⟩ := isT_parts ht
  unfold s_trBoxes
  exact trBoxes_l l b.2.1.length hl l.length 0 [b] [] (by omega) (by simp) (by simp; omega) (by
    intro c hc
    rw [List.mem_singleton.1 hc]
    exact ⟨hb, rfl⟩) t2 t3
theorem main_FnExactBoxesOf {b : Bx} {l : List Nd} (hb : SzBox 1000000 b) (hl : l.length ≤ 1000000) : ∃ w, s_BoxesOf b.1 b.2.1 b.2.2 l = some w ∧ i_BoxesOf b.1 b.2.1 b.2.2 l = some w ∧ FairB w.1 := by
  unfold s_BoxesOf i_BoxesOf
  have hi : i_isBox (b.1, b.2.1, b.2.2) = some (bOkB b) := isBox_v
  rw [bsome bxGood_v, bsome hi]
  cases hbb : bOkB b with
  | false =>
    have : bOk b.1 b.2.1 b.2.2 = false := hbb
    rw [this]
    exact ⟨_, rfl, rfl, fair_nil⟩
  | true =>
    have : bOk b.1 b.2.1 b.2.2 = true := hbb
    rw [this, cnt, cnt, bsome (trGood_v l hl _), bsome (isTree_v l hl _)]
    cases htt : isT (b.2.1.length : Int) l with
    | false => exact ⟨_, rfl, rfl, fair_nil⟩
    | true =>
      have hlf : i_leafBoxes (b.1, b.2.1, b.2.2) l = some (lbR [] (lbx l [b])) := leafBoxes_v hl hbb htt
      rw [cnt, cnt, bsome (trBoxes_v hl hbb htt), bsome hlf]
      refine ⟨_, rfl, rfl, ?_⟩
      cases hlb : lbx l [b] with
      | none => exact fair_nil
      | some bs =>
        have hbs : ∀ c ∈ bs, bOkB c = true ∧ c.2.1.length = b.2.1.length := lbx_ok (st := [b]) (fun c hc => by rw [List.mem_singleton.1 hc]; exact ⟨hbb, rfl⟩) hlb
        exact fair_ok (Nat.le_trans (lbx_len hlb) hl) hbs
end Go.Proofs.YtchdegcfohegfaaE
