/- Plain lemmas on what the printed functions come to. -/
import Derived.Test.YtchdegcfohegfaaAL
import Derived.Test.YtchdegcfohegfaaAK
set_option maxRecDepth 100000
set_option linter.unusedVariables false
set_option linter.unusedSimpArgs false
namespace Go.Proofs.YtchdegcfohegfaaE
/-! dmarks2 -/
/-! Marks on lists of lists of numbers. -/
def totS : List (List Int) → Nat
  | [] => 0
  | b :: bs => b.length + totS bs
def mkSS : Int → List (List Int) → List (List Int)
  | _, [] => []
  | k, b :: bs => rng k b.length :: mkSS (k + (b.length : Int)) bs
def FairS (xs : List (List Int)) : Prop := xs.length ≤ 1000000 ∧ ∀ c ∈ xs, c.length ≤ 2
theorem totS_cons (b : List Int) (bs : List (List Int)) : totS (b :: bs) = b.length + totS bs := rfl
theorem totS_le : ∀ {bs : List (List Int)}, (∀ c ∈ bs, c.length ≤ 2) → totS bs ≤ 2 * bs.length
  | [], _ => Nat.zero_le _
  | b :: bs, h => by
    have h1 := h b (List.mem_cons_self ..)
    have h2 := totS_le (fun c hc => h c (List.mem_cons_of_mem _ hc))
    rw [List.length_cons, Nat.mul_succ, totS_cons]
    omega
theorem mkS_l : ∀ (rest done : List (List Int)) (k : Int), 0 ≤ k → k + totS rest ≤ 1000000000000 → done.length + rest.length ≤ 1000000 → (∀ c ∈ rest, c.length ≤ 2) →
    w_markIntSS_1002 k (done.length : Int) (done ++ rest) = some (done ++ mkSS k rest, k + totS rest)
  | [], done, k, _, _, _, _ => by
    rw [Ew_markIntSS_1002, List.append_nil, cf ltf]
    simp [mkSS, totS]
  | b :: rest, done, k, h0, hk, hl, hb => by
    have b1 := hb b (List.mem_cons_self ..)
    rw [totS_cons] at hk ⊢
    have hlen : ∀ x : List Int, done.length < (done ++ x :: rest).length := fun x => by simp
    rw [Ew_markIntSS_1002]
    simp only [stA, gdA]
    rw [ct (ltt (hlen _)), ct (bA (hlen _)), ct (nblt (hlen _)), bsome (mkI_v (by omega) (by omega) (by omega)), sc (hlen b) (by simp at hl ⊢; omega)]
    simp only [stA]
    have := mkS_l rest (done ++ [rng k b.length]) (k + (b.length : Int)) (by omega) (by omega) (by simp at hl ⊢; omega) (fun c hc => hb c (List.mem_cons_of_mem _ hc))
    rw [List.length_append, List.append_assoc] at this
    refine Eq.trans this ?_
    rw [List.append_assoc]
    simp only [mkSS, List.singleton_append]
    congr 2
    omega
theorem mkS_v {bs : List (List Int)} {k : Int} (h0 : 0 ≤ k) (hk : k + totS bs ≤ 1000000000000) (h : FairS bs) : w_markIntSS bs k = some (mkSS k bs, k + totS bs) := mkS_l bs [] k h0 hk (by simpa using h.1) h.2
theorem hdS_l : ∀ (rest done : List (List Int)) (k : Int), 0 ≤ k → k + totS rest ≤ 1000000000000 → done.length + rest.length ≤ 1000000 → (∀ c ∈ rest, c.length ≤ 2) →
    w_heldIntSS_1002 (done ++ mkSS k rest) k (done.length : Int) = some (k + totS rest)
  | [], done, k, _, _, _, _ => by
    rw [Ew_heldIntSS_1002]
    simp only [mkSS, List.append_nil]
    rw [cf ltf]
    simp [totS]
  | b :: rest, done, k, h0, hk, hl, hb => by
    have b1 := hb b (List.mem_cons_self ..)
    rw [totS_cons] at hk ⊢
    have hlen : done.length < (done ++ mkSS k (b :: rest)).length := by simp [mkSS]
    have hg : List.getD (done ++ mkSS k (b :: rest)) (Int.toNat (done.length : Int)) [] = rng k b.length := gdA
    have hbig : done.length < 9223372036854775807 := by simp at hl; omega
    rw [Ew_heldIntSS_1002, hg, ct (ltt hlen), ct (bA hlen), bsome (hdI_v (by omega) (by omega) (by omega)), cf (decide_eq_false (by omega)), sc (n := done.length + 1) (Nat.lt_succ_self _) (by omega)]
    have := hdS_l rest (done ++ [rng k b.length]) (k + (b.length : Int)) (by omega) (by omega) (by simp at hl ⊢; omega) (fun c hc => hb c (List.mem_cons_of_mem _ hc))
    rw [List.length_append, List.append_assoc] at this
    refine Eq.trans this ?_
    congr 1
    omega
theorem hdS_v {bs : List (List Int)} {k : Int} (h0 : 0 ≤ k) (hk : k + totS bs ≤ 1000000000000) (h : FairS bs) : w_heldIntSS (mkSS k bs) k = some (k + totS bs) := hdS_l bs [] k h0 hk (by simpa using h.1) h.2
theorem eqS_l {bs : List (List Int)} (h : FairS bs) : ∀ (m i : Nat), i + m = bs.length → w_eqIntSS_1004 bs bs (i : Int) = some true
  | 0, i, hi => by rw [Ew_eqIntSS_1004, show i = bs.length by omega, cf ltf]
  | m + 1, i, hi => by
    have hl := h.1
    have hlt : i < bs.length := by omega
    have b1 := h.2 bs[i] (List.getElem_mem hlt)
    rw [Ew_eqIntSS_1004, ct (ltt hlt), ct (bA hlt), ct (bA hlt), gD hlt, bsome (q_IntS (show List.length _ ≤ maxLen by simp only [maxLen]; omega)), cnt, sc hlt (by omega)]
    exact eqS_l h m (i + 1) (by omega)
theorem eqS_v {bs : List (List Int)} (h : FairS bs) : w_eqIntSS bs bs = some true := by
  unfold w_eqIntSS
  rw [cf (by simp)]
  exact eqS_l h bs.length 0 (by omega)
/-! mainTouchingHolds -/
theorem gdB {xs : List Bx} {i : Nat} {d : Bx} (h : i < xs.length) : xs.getD i d = xs[i] := by
  rw [List.getD_eq_getElem?_getD, List.getElem?_eq_getElem h]; rfl
theorem fairS_app {out : List (List Int)} {a y : Int} (h : FairS out) (hl : out.length + 1 ≤ 1000000) : FairS (out ++ [[a, y]]) :=
  ⟨by simpa using hl, fun c hc => by
    rcases List.mem_append.1 hc with hc | hc
    · exact h.2 c hc
    · rw [List.mem_singleton.1 hc]; simp⟩
theorem touching_in {l : List Nd} {bs : List Bx} {s : Nat} (hl : l.length ≤ 1000000) (hn : (lvs l).length ≤ 1000) (hlen : bs.length = (lvs l).length) (hb : ∀ c ∈ bs, bOkB c = true ∧ c.2.1.length = s) {a : Nat} (ha : a < (lvs l).length)
    (hout : ∀ out : List (List Int), FairS out → out.length ≤ (a + 1) * 1000 → ∃ w, s_TouchingHolds_1007 bs (lvs l) out ((lvs l).length : Int) ((a + 1 : Nat) : Int) = some w ∧ i_TouchingHolds_1007 l bs (plc 0 l) out (bs.length : Int) ((a + 1 : Nat) : Int) = some w ∧ FairS w.1) :
    ∀ (m y : Nat) (out : List (List Int)), y + m = (lvs l).length → FairS out → out.length ≤ a * 1000 + y → ∃ w, s_TouchingHolds_1010 bs (lvs l) out (a : Int) (lvs l)[a].1 (lvs l)[a].2 (y : Int) ((lvs l).length : Int) (a : Int) = some w ∧
      i_TouchingHolds_1010 l bs (plc 0 l) out (a : Int) (y : Int) (bs.length : Int) (a : Int) = some w ∧ FairS w.1
  | 0, y, out, hy, hf, ho => by
    rw [Es_TouchingHolds_1010, Ei_TouchingHolds_1010, show y = (lvs l).length by omega, hlen, cf ltf, cf ltf, sc ha (by omega), ← hlen]
    rw [hlen]
    have := hout out hf (by omega)
    rw [hlen] at this
    exact this
  | m + 1, y, out, hy, hf, ho => by
    have hp := plc_len l 0
    have hy1 : y < (lvs l).length := by omega
    have ha2 : a < (plc 0 l).length := by omega
    have hy2 : y < (plc 0 l).length := by omega
    have ha3 : a < bs.length := by omega
    have hy3 : y < bs.length := by omega
    obtain ⟨p, hpl, e1, e2⟩ := plc_at l 0 a ha2 ha
    obtain ⟨q, hql, f1, f2⟩ := plc_at l 0 y hy2 hy1
    rw [Nat.zero_add] at e1 f1
    obtain ⟨g1, g2⟩ := hb _ (List.getElem_mem ha3)
    obtain ⟨k1, k2⟩ := hb _ (List.getElem_mem hy3)
    have ih := touching_in hl hn hlen hb ha hout m (y + 1)
    have hyb : decide ((y : Int) < (bs.length : Int)) = true := ltt hy3
    rw [Es_TouchingHolds_1010, Ei_TouchingHolds_1010, ct (ltt hy1), ct hyb, ct (bA ha2), ct (nblt ha2), gD ha2, e1, ct (bA hpl), gD hpl, e2, sc hy1 (by omega)]
    by_cases hk : (lvs l)[a].1 = 2
    · rw [ct (decide_eq_true hk), ct (decide_eq_true hk), ct (bA hy1), ct (nblt hy1), gD hy1, ct (bA hy2), ct (nblt hy2), gD hy2, f1, ct (bA hql), gD hql, f2]
      by_cases hj : (lvs l)[y].1 = 2
      · have ht := rpTouch_v g1 k1 (by omega)
        have ht2 := doTouch_v g1 k1 (by omega)
        rw [ct (decide_eq_true hj), ct (decide_eq_true hj), ct (bA ha3), ct (nblt ha3), ct (bA hy3), ct (nblt hy3), ct (bA ha3), ct (bA hy3), ct (nblt ha3), ct (nblt hy3), gD ha3, gD hy3, bsome ht, bsome ht2]
        cases tchB bs[a] bs[y] with
        | true =>
          have h1 := hf.1
          have hs : decide ((List.length out + List.length [[(a : Int), (y : Int)]]) * 24 ≤ 140737488355328) = true := decide_eq_true (by simp; omega)
          rw [ct rfl, ct rfl, ct hs, ct hs]
          exact ih (out ++ [[(a : Int), (y : Int)]]) (by omega) (fairS_app hf (by
            have : a * 1000 ≤ 999 * 1000 := Nat.mul_le_mul_right _ (by omega)
            omega)) (by simp; omega)
        | false =>
          rw [cf rfl, cf rfl]
          exact ih out (by omega) hf (by omega)
      · rw [cf (decide_eq_false hj), cf (decide_eq_false hj)]
        exact ih out (by omega) hf (by omega)
    · rw [cf (decide_eq_false hk), cf (decide_eq_false hk)]
      exact ih out (by omega) hf (by omega)
theorem touching_out {l : List Nd} {bs : List Bx} {s : Nat} (hl : l.length ≤ 1000000) (hn : (lvs l).length ≤ 1000) (hlen : bs.length = (lvs l).length) (hb : ∀ c ∈ bs, bOkB c = true ∧ c.2.1.length = s) :
    ∀ (m a : Nat) (out : List (List Int)), a + m = (lvs l).length → FairS out → out.length ≤ a * 1000 → ∃ w, s_TouchingHolds_1007 bs (lvs l) out ((lvs l).length : Int) (a : Int) = some w ∧ i_TouchingHolds_1007 l bs (plc 0 l) out (bs.length : Int) (a : Int) = some w ∧ FairS w.1
  | 0, a, out, ha, hf, ho => by
    rw [Es_TouchingHolds_1007, Ei_TouchingHolds_1007, show a = (lvs l).length by omega, hlen, cf ltf, cf ltf]
    exact ⟨_, rfl, rfl, hf⟩
  | m + 1, a, out, ha, hf, ho => by
    have h1 : a < (lvs l).length := by omega
    have h2 : decide ((a : Int) < (bs.length : Int)) = true := ltt (by omega)
    rw [Es_TouchingHolds_1007, Ei_TouchingHolds_1007, ct (ltt h1), ct (bA h1), ct (nblt h1), gD h1, ct h2, sc h1 (by omega)]
    exact touching_in hl hn hlen hb h1 (fun out hf ho => touching_out hl hn hlen hb m (a + 1) out (by omega) hf ho) ((lvs l).length - (a + 1)) (a + 1) out (by omega) hf (by omega)
theorem main_FnExactTouchingHolds {b : Bx} {l : List Nd} (hb : SzBox 1000000 b) (hl : l.length ≤ 1000000) : ∃ w, s_TouchingHolds b.1 b.2.1 b.2.2 l = some w ∧ i_TouchingHolds b.1 b.2.1 b.2.2 l = some w ∧ FairS w.1 := by
  unfold s_TouchingHolds i_TouchingHolds
  have hf : i_treeFits (b.1, b.2.1, b.2.2) l = some (asked b l).isSome := treeFits_v hl
  rw [bsome (rpAsked_v hl), bsome hf]
  have fn : FairS [] := ⟨by simp, fun c hc => by cases hc⟩
  cases ha : asked b l with
  | none => exact ⟨_, rfl, rfl, fn⟩
  | some bs =>
    obtain ⟨hbb, htt, hlb, hbs, hlen⟩ := asked_of ha
    have hll : (lvs l).length ≤ l.length := List.length_filter_le ..
    have h200 := (isT_parts htt).1
    have hlf : i_leafBoxes (b.1, b.2.1, b.2.2) l = some (lbR [] (lbx l [b])) := leafBoxes_v hl hbb htt
    rw [hlb] at hlf
    obtain ⟨w, w1, w2, w3⟩ := touching_out hl (by omega) hlen hbs (lvs l).length 0 [] (by omega) fn (by simp)
    refine ⟨w, ?_, ?_, w3⟩
    · show (s_rpLeaves l).bind _ = _
      rw [bsome (rpLeaves_v hl)]
      exact w1
    · show (i_leafBoxes (b.1, b.2.1, b.2.2) l).bind _ = _
      rw [bsome hlf, bsome (leafPlaces_v hl)]
      exact w2
end Go.Proofs.YtchdegcfohegfaaE
