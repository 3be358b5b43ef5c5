/- Plain lemmas on what the printed functions come to. -/
import Derived.Test.YtchdegcfohegfaaAJ
set_option maxRecDepth 100000
set_option linter.unusedVariables false
set_option linter.unusedSimpArgs false
namespace Go.Proofs.YtchdegcfohegfaaE
/-! kfil -/
/-! The boxes of a kind. -/
def kfil (kind : Int) : List Nd → List Bx → List Bx
  | n :: ns, b :: bs => if n.1 = kind then b :: kfil kind ns bs else kfil kind ns bs
  | _, _ => []
theorem kfil_mem {kind : Int} : ∀ {ns : List Nd} {bs : List Bx} {c : Bx}, c ∈ kfil kind ns bs → c ∈ bs
  | [], _, _, h => by simp [kfil] at h
  | _ :: _, [], _, h => by simp [kfil] at h
  | n :: ns, b :: bs, c, h => by
    unfold kfil at h
    split at h
    · rcases List.mem_cons.1 h with rfl | h
      · exact List.mem_cons_self ..
      · exact List.mem_cons_of_mem _ (kfil_mem h)
    · exact List.mem_cons_of_mem _ (kfil_mem h)
theorem kfil_len {kind : Int} : ∀ {ns : List Nd} {bs : List Bx}, (kfil kind ns bs).length ≤ bs.length
  | [], _ => by simp [kfil]
  | _ :: _, [] => by simp [kfil]
  | n :: ns, b :: bs => by
    have := kfil_len (kind := kind) (ns := ns) (bs := bs)
    unfold kfil
    split <;> simp <;> omega
theorem kfil_at {kind : Int} {ns : List Nd} {bs : List Bx} {i : Nat} (h : i < ns.length) (h2 : i < bs.length) : kfil kind (ns.drop i) (bs.drop i) = if ns[i].1 = kind then bs[i] :: kfil kind (ns.drop (i + 1)) (bs.drop (i + 1)) else kfil kind (ns.drop (i + 1)) (bs.drop (i + 1)) := by
  rw [List.drop_eq_getElem_cons h, List.drop_eq_getElem_cons h2]
  rfl
theorem boxesOfKind_l {l : List Nd} {bs : List Bx} {kind : Int} (hl : l.length ≤ 1000000) (hlen : bs.length = (lvs l).length) : ∀ (m i bk : Nat) (out : List Bx), i + m = (lvs l).length → bk ≤ i → out.length ≤ i →
    i_boxesOfKind_1004 l kind bk bs out (plc 0 l) ((plc 0 l).length : Int) (i : Int) = some (out ++ kfil kind ((lvs l).drop i) (bs.drop i))
  | 0, i, bk, out, hi, _, _ => by
    have hp := plc_len l 0
    rw [Ei_boxesOfKind_1004, show i = (plc 0 l).length by omega, cf ltf, hp, List.drop_length]
    simp [kfil]
  | m + 1, i, bk, out, hi, hb, ho => by
    have hp := plc_len l 0
    have hll : (lvs l).length ≤ l.length := List.length_filter_le ..
    have h1 : i < (plc 0 l).length := by omega
    have h2 : i < (lvs l).length := by omega
    have h3 : i < bs.length := by omega
    obtain ⟨p, hpl, e1, e2⟩ := plc_at l 0 i h1 h2
    rw [Nat.zero_add] at e1
    rw [Ei_boxesOfKind_1004, gD h1, gD h3, e1, gD hpl, e2, ct (ltt h1), ct (bA h1), ct (nblt h1), ct (bA hpl), sc h1 (by omega), kfil_at h2 h3]
    by_cases h : (lvs l)[i].1 = kind
    · rw [ct (decide_eq_true h), ct (bA h3), ct (nblt h3), ct (by rw [Int.toNat_natCast]; exact leK_iff.2 hb), ct (decide_eq_true (by simp; omega)), if_pos h, Int.toNat_natCast]
      have := boxesOfKind_l (kind := kind) hl hlen m (i + 1) (i + 1) (out ++ [bs[i]]) (by omega) (Nat.le_refl _) (by simp; omega)
      rw [List.append_assoc] at this
      exact this
    · rw [cf (decide_eq_false h), if_neg h]
      exact boxesOfKind_l hl hlen m (i + 1) bk out (by omega) (by omega) (by omega)
theorem boxesOfKind_v {b : Bx} {l : List Nd} {bs : List Bx} {kind : Int} (hl : l.length ≤ 1000000) (ha : asked b l = some bs) : i_boxesOfKind b l kind = some (kfil kind (lvs l) bs) := by
  obtain ⟨hbb, htt, hlb, hbs, hlen⟩ := asked_of ha
  unfold i_boxesOfKind
  rw [bsome (leafBoxes_v hl hbb htt), hlb, bsome (leafPlaces_v hl)]
  exact boxesOfKind_l hl hlen (lvs l).length 0 0 [] (by omega) (Nat.le_refl _) (by simp)
theorem kfil_fair {b : Bx} {l : List Nd} {bs : List Bx} {kind : Int} (hl : l.length ≤ 1000000) (ha : asked b l = some bs) : ∀ c ∈ kfil kind (lvs l) bs, bOkB c = true ∧ c.2.1.length = b.2.1.length := by
  obtain ⟨hbb, htt, hlb, hbs, hlen⟩ := asked_of ha
  exact fun c hc => hbs c (kfil_mem hc)
/-! mainBoxesOfKind -/
theorem sBoxesOfKind_l {ns : List Nd} {bs : List Bx} {kind : Int} (hl : ns.length ≤ 1000000) (hlen : bs.length = ns.length) : ∀ (m i : Nat) (out : List Bx), i + m = ns.length → out.length ≤ i →
    s_BoxesOfKind_1006 kind bs out ns (ns.length : Int) (i : Int) = some (out ++ kfil kind (ns.drop i) (bs.drop i), true)
  | 0, i, out, hi, _ => by
    rw [Es_BoxesOfKind_1006, show i = ns.length by omega, cf ltf, List.drop_length]
    simp [kfil]
  | m + 1, i, out, hi, ho => by
    have h2 : i < ns.length := by omega
    have h3 : i < bs.length := by omega
    rw [Es_BoxesOfKind_1006, gD h2, gD h3, ct (ltt h2), ct (bA h2), ct (nblt h2), sc h2 (by omega), kfil_at h2 h3]
    by_cases h : ns[i].1 = kind
    · rw [ct (decide_eq_true h), ct (bA h3), ct (nblt h3), ct (decide_eq_true (by simp; omega)), if_pos h]
      have := sBoxesOfKind_l (kind := kind) hl hlen m (i + 1) (out ++ [bs[i]]) (by omega) (by simp; omega)
      rw [List.append_assoc] at this
      exact this
    · rw [cf (decide_eq_false h), if_neg h]
      exact sBoxesOfKind_l hl hlen m (i + 1) out (by omega) (by omega)
theorem main_FnExactBoxesOfKind {b : Bx} {l : List Nd} {kind : Int} (hb : SzBox 1000000 b) (hl : l.length ≤ 1000000) : ∃ w, s_BoxesOfKind b.1 b.2.1 b.2.2 l kind = some w ∧ i_BoxesOfKind b.1 b.2.1 b.2.2 l kind = some w ∧ FairB w.1 := by
  unfold s_BoxesOfKind i_BoxesOfKind
  have hf : i_treeFits (b.1, b.2.1, b.2.2) l = some (asked b l).isSome := treeFits_v hl
  rw [bsome (rpAsked_v hl), bsome hf]
  cases ha : asked b l with
  | none => exact ⟨_, rfl, rfl, fair_nil⟩
  | some bs =>
    obtain ⟨hbb, htt, hlb, hbs, hlen⟩ := asked_of ha
    have hk : ∃ q, s_rpKind kind = some q ∧ i_isLeafKind kind = some q := by
      unfold s_rpKind i_isLeafKind
      refine ⟨decide (1 ≤ kind ∧ kind ≤ 3), ?_, ?_⟩
      · rw [bret]; exact l1In_v ..
      · rw [bret]; exact inside_v ..
    obtain ⟨q, k1, k2⟩ := hk
    have hbk : i_boxesOfKind (b.1, b.2.1, b.2.2) l kind = some (kfil kind (lvs l) bs) := boxesOfKind_v hl ha
    have hll : (lvs l).length ≤ l.length := List.length_filter_le ..
    show ∃ w, (s_rpKind kind).bind _ = some w ∧ (i_isLeafKind kind).bind _ = some w ∧ _
    rw [bsome k1, bsome k2]
    cases q with
    | false => exact ⟨_, rfl, rfl, fair_nil⟩
    | true =>
      rw [cnt, cnt, bsome (rpLeaves_v hl), bsome hbk]
      refine ⟨(kfil kind (lvs l) bs, true), sBoxesOfKind_l (kind := kind) (by omega) hlen (lvs l).length 0 [] (by omega) (by simp), rfl, fair_ok (n := b.2.1.length) ?_ (kfil_fair hl ha)⟩
      have := kfil_len (kind := kind) (ns := lvs l) (bs := bs)
      show (kfil kind (lvs l) bs).length ≤ 1000000
      omega
end Go.Proofs.YtchdegcfohegfaaE
