/- Plain lemmas on what the printed functions come to. -/
import Derived.Test.YtchdegcfohegfaaMI
import Derived.Test.YtchdegcfohegfaaMQ
set_option maxRecDepth 100000
set_option linter.unusedVariables false
set_option linter.unusedSimpArgs false
namespace Go.Proofs.YtchdegcfohegfaaE
/-! kfil -/
/-! The boxes of a kind. -/
def kfil (kind : Int) : List Nd → List Bx → List Bx
  | n :: ns, b :: bs => if n.1 = kind then b :: kfil kind ns bs else kfil kind ns bs
  | _, _ => []
theorem kfil_mem {kind : Int} : ∀ {ns : List Nd} {bs : List Bx} {c : Bx}, c ∈ kfil kind ns bs → c ∈ bs
  | [], _, _, h => by simp [kfil] at h
  | _ :: _, [], _, h => by simp [kfil] at h
  | n :: ns, b :: bs, c, h => by
    unfold kfil at h
    split at h
    · rcases List.mem_cons.1 h with rfl | h
      · exact List.mem_cons_self ..
      · exact List.mem_cons_of_mem _ (kfil_mem h)
    · exact List.mem_cons_of_mem _ (kfil_mem h)
theorem kfil_len {kind : Int} : ∀ {ns : List Nd} {bs : List Bx}, (kfil kind ns bs).length ≤ bs.length
  | [], _ => by simp [kfil]
  | _ :: _, [] => by simp [kfil]
  | n :: ns, b :: bs => by
    have := kfil_len (kind := kind) (ns := ns) (bs := bs)
    unfold kfil
    split <;> simp <;> omega
theorem kfil_at {kind : Int} {ns : List Nd} {bs : List Bx} {i : Nat} (h : i < ns.length) (h2 : i < bs.length) : kfil kind (ns.drop i) (bs.drop i) = if ns[i].1 = kind then bs[i] :: kfil kind (ns.drop (i + 1)) (bs.drop (i + 1)) else kfil kind (ns.drop (i + 1)) (bs.drop (i + 1)) := by
  rw [List.drop_eq_getElem_cons h, List.drop_eq_getElem_cons h2]
  rfl
theorem boxesOfKind_l {l : List Nd} {bs : List Bx} {kind : Int} (hl : l.length ≤ 1000000) (hlen : bs.length = (lvs l).length) : ∀ (m i bk : Nat) (out : List Bx), i + m = (lvs l).length → bk ≤ i → out.length ≤ i →
    i_boxesOfKind_1004 l kind bk bs out (plc 0 l) ((plc 0 l).length : Int) (i : Int) = some (out ++ kfil kind ((lvs l).drop i) (bs.drop i))
  | 0, i, bk, out, hi, _, _ => by
    have hp := plc_len l 0
    rw [Ei_boxesOfKind_1004, show i = (plc 0 l).length by omega, cf ltf, hp, List.drop_length]
    simp [kfil]
  | m + 1, i, bk, out, hi, hb, ho => by
    have hp := plc_len l 0
    have hll : (lvs l).length ≤ l.length := List.length_filter_le ..
    have h1 : i < (plc 0 l).length := by omega
    have h2 : i < (lvs l).length := by omega
    have h3 : i < bs.length := by omega
    obtain ⟨p, hpl, e1, e2⟩ := plc_at l 0 i h1 h2
    rw [Nat.zero_add] at e1
    rw [Ei_boxesOfKind_1004, gD h1, gD h3, e1, gD hpl, e2, ct (ltt h1), ct (bA h1), ct (nblt h1), ct (bA hpl), sc h1 (by omega), kfil_at h2 h3]
    by_cases h : (lvs l)[i].1 = kind
    · rw [ct (decide_eq_true h), ct (bA h3), ct (nblt h3), ct (by rw [Int.toNat_natCast]; exact leK_iff.2 hb), ct (decide_eq_true (by simp; omega)), if_pos h, Int.toNat_natCast]
      have := boxesOfKind_l (kind := kind) hl hlen m (i + 1) (i + 1) (out ++ [bs[i]]) (by omega) (Nat.le_refl _) (by simp; omega)
      rw [List.append_assoc] at this
      exact this
    · rw [cf (decide_eq_false h), if_neg h]
      exact boxesOfKind_l hl hlen m (i + 1) bk out (by omega) (by omega) (by omega)
theorem boxesOfKind_v {b : Bx} {l : List Nd} {bs : List Bx} {kind : Int} (hl : l.length ≤ 1000000) (ha : asked b l = some bs) : i_boxesOfKind b l kind = some (kfil kind (lvs l) bs) := by
  obtain ⟨hbb, htt, hlb, hbs, hlen⟩ := asked_of ha
  unfold i_boxesOfKind
  rw [bsome (leafBoxes_v hl hbb htt), hlb, bsome (leafPlaces_v hl)]
  exact boxesOfKind_l hl hlen (lvs l).length 0 0 [] (by omega) (Nat.le_refl _) (by simp)
theorem kfil_fair {b : Bx} {l : List Nd} {bs : List Bx} {kind : Int} (hl : l.length ≤ 1000000) (ha : asked b l = some bs) : ∀ c ∈ kfil kind (lvs l) bs, bOkB c = true ∧ c.2.1.length = b.2.1.length := by
  obtain ⟨hbb, htt, hlb, hbs, hlen⟩ := asked_of ha
  exact fun c hc => hbs c (kfil_mem hc)
/-! largest -/
/-! The greatest of some boxes, the first of several. -/
def bst : Option Bx → List Bx → Option Bx
  | o, [] => o
  | none, b :: bs => bst (some b) bs
  | some c, b :: bs => bst (if vv c < vv b then some b else some c) bs
def resO : Option Bx → Bx × Bool
  | none => ((0, [], []), false)
  | some b => (b, true)
def Cur (bs : List Bx) (best : Int) (o : Option Bx) : Prop := (best = -1 ∧ o = none) ∨ ∃ (j : Nat) (h : j < bs.length), best = (j : Int) ∧ o = some bs[j]
theorem sgn_gt (a b : Int) : decide (0 < Int.sign (a - b)) = decide (b < a) := by
  by_cases h : b < a
  · rw [Int.sign_eq_one_of_pos (by omega)]; simp [h]
  · by_cases h2 : a = b
    · subst h2; simp
    · rw [Int.sign_eq_neg_one_of_neg (by omega)]; simp [h]
theorem bst_mem : ∀ (L : List Bx) (o : Option Bx) (c : Bx), bst o L = some c → o = some c ∨ c ∈ L
  | [], o, c, h => .inl (by simpa [bst] using h)
  | b :: L, none, c, h => by
    rcases bst_mem L (some b) c h with h1 | h1
    · cases h1; exact .inr (List.mem_cons_self ..)
    · exact .inr (List.mem_cons_of_mem _ h1)
  | b :: L, some d, c, h => by
    unfold bst at h
    split at h
    · rcases bst_mem L (some b) c h with h1 | h1
      · cases h1; exact .inr (List.mem_cons_self ..)
      · exact .inr (List.mem_cons_of_mem _ h1)
    · rcases bst_mem L (some d) c h with h1 | h1
      · exact .inl h1
      · exact .inr (List.mem_cons_of_mem _ h1)
theorem sLargest_l {ns : List Nd} {bs : List Bx} {z : Int} (hl : ns.length ≤ 1000000) (hlen : bs.length = ns.length) (hb : ∀ c ∈ bs, bOkB c = true) : ∀ (m i : Nat) (best : Int) (o : Option Bx), i + m = ns.length → Cur bs best o →
    s_LargestOpen_1006 z bs best ns (ns.length : Int) (i : Int) = some (resO (bst o (kfil 3 (ns.drop i) (bs.drop i))))
  | 0, i, best, o, hi, hc => by
    rw [Es_LargestOpen_1006, show i = ns.length by omega, cf ltf, List.drop_length]
    rcases hc with ⟨rfl, rfl⟩ | ⟨j, hj, rfl, rfl⟩
    · rw [ct (by decide)]; rfl
    · rw [cf (decide_eq_false (by omega)), ct (bA hj), ct (nblt hj), gD hj]
      simp [kfil, bst, resO]
  | m + 1, i, best, o, hi, hc => by
    have h2 : i < ns.length := by omega
    have h3 : i < bs.length := by omega
    have hbi := hb _ (List.getElem_mem h3)
    rw [Es_LargestOpen_1006, gD h2, ct (ltt h2), ct (bA h2), ct (nblt h2), sc h2 (by omega), kfil_at h2 h3]
    by_cases h : ns[i].1 = 3
    · rw [ct (decide_eq_true h), if_pos h]
      rcases hc with ⟨rfl, rfl⟩ | ⟨j, hj, rfl, rfl⟩
      · rw [ct (by decide)]
        exact sLargest_l hl hlen hb m (i + 1) (i : Int) (some bs[i]) (by omega) (.inr ⟨i, h3, rfl, rfl⟩)
      · have hbj := hb _ (List.getElem_mem hj)
        rw [cf (decide_eq_false (by omega)), gD h3, gD hj, ct (bA h3), ct (nblt h3), bsome (bxVolume_v hbi), ct (bA hj), ct (nblt hj), bsome (bxVolume_v hbj), bsome (dyCmp_v (vp_ok hbi) (vp_ok hbj)), sgn_gt]
        show (bif decide (vv bs[j] < vv bs[i]) then _ else _) = _
        simp only [bst]
        by_cases hv : vv bs[j] < vv bs[i]
        · rw [ct (decide_eq_true hv), if_pos hv]
          exact sLargest_l hl hlen hb m (i + 1) (i : Int) (some bs[i]) (by omega) (.inr ⟨i, h3, rfl, rfl⟩)
        · rw [cf (decide_eq_false hv), if_neg hv]
          exact sLargest_l hl hlen hb m (i + 1) (j : Int) (some bs[j]) (by omega) (.inr ⟨j, hj, rfl, rfl⟩)
    · rw [cf (decide_eq_false h), if_neg h]
      exact sLargest_l hl hlen hb m (i + 1) best o (by omega) hc
theorem iLargest_l {bs : List Bx} {z : Int} (hl : bs.length ≤ 1000000) (hb : ∀ c ∈ bs, bOkB c = true) : ∀ (m i : Nat) (best : Int) (o : Option Bx), i + m = bs.length → Cur bs best o →
    i_LargestOpen_1006 z bs best (bs.length : Int) (i : Int) = some (resO (bst o (bs.drop i)))
  | 0, i, best, o, hi, hc => by
    rw [Ei_LargestOpen_1006, show i = bs.length by omega, cf ltf, List.drop_length]
    rcases hc with ⟨rfl, rfl⟩ | ⟨j, hj, rfl, rfl⟩
    · rw [ct (by decide)]; rfl
    · rw [cf (decide_eq_false (by omega)), ct (bA hj), ct (nblt hj), gD hj]
      simp [bst, resO]
  | m + 1, i, best, o, hi, hc => by
    have h3 : i < bs.length := by omega
    have hbi := hb _ (List.getElem_mem h3)
    rw [Ei_LargestOpen_1006, ct (ltt h3), sc h3 (by omega), List.drop_eq_getElem_cons h3]
    rcases hc with ⟨rfl, rfl⟩ | ⟨j, hj, rfl, rfl⟩
    · rw [ct (by decide)]
      exact iLargest_l hl hb m (i + 1) (i : Int) (some bs[i]) (by omega) (.inr ⟨i, h3, rfl, rfl⟩)
    · have hbj := hb _ (List.getElem_mem hj)
      rw [cf (decide_eq_false (by omega)), gD h3, gD hj, ct (bA h3), ct (nblt h3), bsome (boxVolume_v hbi), ct (bA hj), ct (nblt hj), bsome (boxVolume_v hbj), bsome (compareD_v (vp_ok hbi) (vp_ok hbj)), sgn_gt]
      show (bif decide (vv bs[j] < vv bs[i]) then _ else _) = _
      simp only [bst]
      by_cases hv : vv bs[j] < vv bs[i]
      · rw [ct (decide_eq_true hv), if_pos hv]
        exact iLargest_l hl hb m (i + 1) (i : Int) (some bs[i]) (by omega) (.inr ⟨i, h3, rfl, rfl⟩)
      · rw [cf (decide_eq_false hv), if_neg hv]
        exact iLargest_l hl hb m (i + 1) (j : Int) (some bs[j]) (by omega) (.inr ⟨j, hj, rfl, rfl⟩)
theorem main_FnExactLargestOpen {b : Bx} {l : List Nd} (hb : SzBox 1000000 b) (hl : l.length ≤ 1000000) : ∃ w, s_LargestOpen b.1 b.2.1 b.2.2 l = some w ∧ i_LargestOpen b.1 b.2.1 b.2.2 l = some w ∧ w.1.2.1.length ≤ 3 ∧ w.1.2.2.length ≤ 3 := by
  unfold s_LargestOpen i_LargestOpen
  have hf : i_treeFits (b.1, b.2.1, b.2.2) l = some (asked b l).isSome := treeFits_v hl
  rw [bsome (rpAsked_v hl), bsome hf]
  cases ha : asked b l with
  | none => exact ⟨_, rfl, rfl, by simp, by simp⟩
  | some bs =>
    obtain ⟨hbb, htt, hlb, hbs, hlen⟩ := asked_of ha
    have hbk : i_boxesOfKind (b.1, b.2.1, b.2.2) l 3 = some (kfil 3 (lvs l) bs) := boxesOfKind_v hl ha
    have hll : (lvs l).length ≤ l.length := List.length_filter_le ..
    have hkl := kfil_len (kind := 3) (ns := lvs l) (bs := bs)
    refine ⟨resO (bst none (kfil 3 (lvs l) bs)), ?_, ?_, ?_⟩
    · show (s_rpLeaves l).bind _ = _
      rw [bsome (rpLeaves_v hl)]
      exact sLargest_l (by omega) hlen (fun c hc => (hbs c hc).1) (lvs l).length 0 (-1) none (by omega) (.inl ⟨rfl, rfl⟩)
    · show (i_boxesOfKind (b.1, b.2.1, b.2.2) l 3).bind _ = _
      rw [bsome hbk]
      exact iLargest_l (by omega) (fun c hc => (kfil_fair hl ha c hc).1) (kfil 3 (lvs l) bs).length 0 (-1) none (by omega) (.inl ⟨rfl, rfl⟩)
    · cases hr : bst none (kfil 3 (lvs l) bs) with
      | none => exact ⟨by simp [resO], by simp [resO]⟩
      | some c =>
        rcases bst_mem _ _ _ hr with h | h
        · cases h
        · have := bOk_parts (kfil_fair hl ha c h).1
          simp only [resO]
          omega
end Go.Proofs.YtchdegcfohegfaaE
