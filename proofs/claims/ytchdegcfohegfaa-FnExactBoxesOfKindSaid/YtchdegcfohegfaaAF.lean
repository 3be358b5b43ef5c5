/- Plain lemmas on what the printed functions come to. -/
import Derived.Test.YtchdegcfohegfaaAE
set_option maxRecDepth 100000
set_option linter.unusedVariables false
set_option linter.unusedSimpArgs false
namespace Go.Proofs.YtchdegcfohegfaaE
/-! leafbx -/
/-- The boxes of the leaves; the stack's top is ahead. -/
def lbx : List Nd → List Bx → Option (List Bx)
  | [], _ => some []
  | _ :: _, [] => some []
  | n :: l, x :: st => if n.1 = 0 then (match hlv x n.2.toNat with | ([a, b], true) => lbx l (a :: b :: st) | _ => none) else (lbx l st).map (x :: ·)
def lbR (out : List Bx) (r : Option (List Bx)) : List Bx × Bool := match r with | some bs => (out ++ bs, true) | none => ([], false)
theorem lbR_cons {out : List Bx} {x : Bx} {r : Option (List Bx)} : lbR (out ++ [x]) r = lbR out (r.map (x :: ·)) := by
  cases r with
  | none => rfl
  | some bs => unfold lbR; simp
theorem vN_halve {s : Int} {n : Nd} (h : vN s n = true) (h0 : n.1 = 0) : 0 ≤ n.2 ∧ n.2 ≤ s - 1 := by
  unfold vN at h
  rw [if_pos h0] at h
  exact of_decide_eq_true h
theorem trBoxes_l (l : List Nd) (s : Nat) (hl : l.length ≤ 1000000) : ∀ (m i : Nat) (op out : List Bx), i + m = l.length → out.length ≤ i → op.length + m ≤ 4000000 → (∀ b ∈ op, bOkB b = true ∧ b.2.1.length = s) → (∀ n ∈ l.drop i, vN s n = true) → ctn (l.drop i) op.length = some [] →
    s_trBoxes_1004 out op l (l.length : Int) (i : Int) = some (lbR out (lbx (l.drop i) op.reverse)) := by
  intro m
  induction m with
  | zero =>
    intro i op out hi ho hop hb hv hc
    obtain rfl : i = l.length := by omega
    rw [Es_trBoxes_1004, cf ltf, List.drop_length]
    show some (out, true) = some (out ++ [], true)
    rw [List.append_nil]
  | succ m ih =>
    intro i op out hi ho hop hb hv hc
    have hlt : i < l.length := by omega
    rw [drop_at l i hlt] at hc hv ⊢
    have hne : op ≠ [] := by
      rintro rfl
      simp [ctn] at hc
      omega
    obtain ⟨q, top, rfl⟩ := top_of hne
    have hql : (q ++ [top]).length = q.length + 1 := by simp
    obtain ⟨e1, e2, e3, e4, e5, e6⟩ := stk q top ((0, [], []) : Bx) (by omega)
    obtain ⟨hb1, hb2⟩ := hb top (by simp)
    have hvi := hv l[i] (List.mem_cons_self ..)
    rw [hql] at hc
    simp only [ctn] at hc
    have hrev : (q ++ [top]).reverse = top :: q.reverse := by simp
    rw [hrev]
    have hlb : top.2.1.length ≤ 3 ∧ top.2.2.length ≤ 3 := by have := bOk_parts hb1; omega
    rw [Es_trBoxes_1004, ct (ltt hlt), ct (bA hlt), e1, ct e2, ct e3, ct e4, e5, e6, sc hlt (by omega), gD hlt, bsome (l1Own_v (by omega)), bsome (l1Own_v (by omega)), ct (decide_eq_true (by simp; omega))]
    by_cases h0 : l[i].1 = 0
    · rw [if_pos h0] at hc
      obtain ⟨g1, g2⟩ := vN_halve hvi h0
      obtain ⟨j, hj⟩ := Int.eq_ofNat_of_zero_le g1
      have hjl : j < top.2.1.length := by omega
      rw [cf (by simp [h0]), hj, bsome (bxHalves_v hb1 hjl)]
      simp only [lbx]
      rw [if_pos h0, hj, Int.toNat_natCast]
      cases hh : (hlv top j).2 with
      | false => rw [hlv_no hh]; rfl
      | true =>
        obtain ⟨x, y, e, o1, o2, o3, o4⟩ := hlv_ok hh
        have := ih (i + 1) (q ++ [y, x]) out (by omega) (by omega) (by simp at hop ⊢; omega) (by
          intro b hbm
          simp only [List.mem_append, List.mem_cons, List.not_mem_nil, or_false] at hbm
          rcases hbm with hbm | rfl | rfl
          · exact hb b (by simp [hbm])
          · exact ⟨o2, by omega⟩
          · exact ⟨o1, by omega⟩) (fun n hn => hv n (List.mem_cons_of_mem _ hn)) (by simpa using hc)
        rw [e]
        have hz : decide ((q.length + ([y, x] : List Bx).length) * 56 ≤ 140737488355328) = true := decide_eq_true (by simp at hop ⊢; omega)
        simp only
        refine (ct hz).trans (Eq.trans this ?_)
        simp
    · rw [if_neg h0] at hc
      rw [ct (by simp [h0])]
      simp only [lbx]
      rw [if_neg h0, ← lbR_cons]
      exact ih (i + 1) q (out ++ [top]) (by omega) (by simp; omega) (by simp at hop; omega) (fun b hbm => hb b (by simp [hbm])) (fun n hn => hv n (List.mem_cons_of_mem _ hn)) hc
theorem copyBoxes_v {l : List Bx} (hl : l.length ≤ 1000000) (h : ∀ b ∈ l, bOkB b = true) : i_copyBoxes l = some l := by
  have main : ∀ m i : Nat, i + m = l.length → i_copyBoxes_1003 (l.take i) l (l.length : Int) (i : Int) = some l := by
    intro m
    induction m with
    | zero =>
      intro i hi
      obtain rfl : i = l.length := by omega
      rw [Ei_copyBoxes_1003, cf ltf, List.take_length]
    | succ m ih =>
      intro i hi
      have h1 : i < l.length := by omega
      have hb := bOk_parts (h l[i] (List.getElem_mem h1))
      rw [Ei_copyBoxes_1003, ct (ltt h1), ct (bA h1), gD h1, bsome (cloneInt_v (by omega)), bsome (cloneInt_v (by omega)), ct (decide_eq_true (by simp; omega)), sc h1 (by omega)]
      have := ih (i + 1) (by omega)
      rw [List.take_succ_eq_append_getElem h1] at this
      exact this
  unfold i_copyBoxes
  exact main l.length 0 (by omega)
theorem leafBoxes_l (l : List Nd) (s : Nat) (hl : l.length ≤ 1000000) : ∀ (m i : Nat) (op out : List Bx), i + m = l.length → out.length ≤ i → op.length + m ≤ 4000000 → (∀ b ∈ op, bOkB b = true ∧ b.2.1.length = s) → (∀ b ∈ out, bOkB b = true) → (∀ n ∈ l.drop i, vN s n = true) → ctn (l.drop i) op.length = some [] →
    i_leafBoxes_1004 op out l (l.length : Int) (i : Int) = some (lbR out (lbx (l.drop i) op.reverse)) := by
  intro m
  induction m with
  | zero =>
    intro i op out hi ho hop hb hbo hv hc
    obtain rfl : i = l.length := by omega
    rw [Ei_leafBoxes_1004, cf ltf, List.drop_length, bsome (copyBoxes_v (by omega) hbo)]
    show some (out, true) = some (out ++ [], true)
    rw [List.append_nil]
  | succ m ih =>
    intro i op out hi ho hop hb hbo hv hc
    have hlt : i < l.length := by omega
    rw [drop_at l i hlt] at hc hv ⊢
    have hne : op ≠ [] := by
      rintro rfl
      simp [ctn] at hc
      omega
    obtain ⟨q, top, rfl⟩ := top_of hne
    have hql : (q ++ [top]).length = q.length + 1 := by simp
    obtain ⟨e1, e2, e3, e4, e5, e6⟩ := stk q top ((0, [], []) : Bx) (by omega)
    obtain ⟨hb1, hb2⟩ := hb top (by simp)
    have hvi := hv l[i] (List.mem_cons_self ..)
    rw [hql] at hc
    simp only [ctn] at hc
    have hrev : (q ++ [top]).reverse = top :: q.reverse := by simp
    rw [hrev]
    rw [Ei_leafBoxes_1004, ct (ltt hlt), ct (bA hlt), e1, ct e2, ct e3, ct e4, e5, e6, sc hlt (by omega), gD hlt, ct (decide_eq_true (by simp; omega))]
    by_cases h0 : l[i].1 = 0
    · rw [if_pos h0] at hc
      obtain ⟨g1, g2⟩ := vN_halve hvi h0
      obtain ⟨j, hj⟩ := Int.eq_ofNat_of_zero_le g1
      have hjl : j < top.2.1.length := by omega
      have hhv : i_Box_halves (top.fst, top.snd.fst, top.snd.snd) (j : Int) = some (hlv top j) := halves_v hb1 hjl
      rw [cf (by simp [h0]), hj, bsome hhv]
      simp only [lbx]
      rw [if_pos h0, hj, Int.toNat_natCast]
      cases hh : (hlv top j).2 with
      | false => rw [hlv_no hh]; rfl
      | true =>
        obtain ⟨x, y, e, o1, o2, o3, o4⟩ := hlv_ok hh
        have := ih (i + 1) (q ++ [y, x]) out (by omega) (by omega) (by simp at hop ⊢; omega) (by
          intro b hbm
          simp only [List.mem_append, List.mem_cons, List.not_mem_nil, or_false] at hbm
          rcases hbm with hbm | rfl | rfl
          · exact hb b (by simp [hbm])
          · exact ⟨o2, by omega⟩
          · exact ⟨o1, by omega⟩) hbo (fun n hn => hv n (List.mem_cons_of_mem _ hn)) (by simpa using hc)
        rw [e]
        have hz : decide ((q.length + ([y, x] : List Bx).length) * 56 ≤ 140737488355328) = true := decide_eq_true (by simp at hop ⊢; omega)
        simp only
        refine (ct hz).trans (Eq.trans this ?_)
        simp
    · rw [if_neg h0] at hc
      rw [ct (by simp [h0])]
      simp only [lbx]
      rw [if_neg h0, ← lbR_cons]
      refine ih (i + 1) q (out ++ [top]) (by omega) (by simp; omega) (by simp at hop; omega) (fun b hbm => hb b (by simp [hbm])) (fun b hbm => ?_) (fun n hn => hv n (List.mem_cons_of_mem _ hn)) hc
      rcases List.mem_append.1 hbm with h | h
      · exact hbo b h
      · rw [List.mem_singleton.1 h]; exact hb1
/-- The leaves' boxes are valid, and have as many sides. -/
theorem lbx_ok {s : Nat} : ∀ {l : List Nd} {st bs : List Bx}, (∀ b ∈ st, bOkB b = true ∧ b.2.1.length = s) → lbx l st = some bs → ∀ b ∈ bs, bOkB b = true ∧ b.2.1.length = s
  | [], _, bs, _, h => by
    have : bs = [] := by simpa [lbx] using h.symm
    subst this
    exact fun b hb => by cases hb
  | _ :: _, [], bs, _, h => by
    have : bs = [] := by simpa [lbx] using h.symm
    subst this
    exact fun b hb => by cases hb
  | n :: l, x :: st, bs, hs, h => by
    have hx := hs x (List.mem_cons_self ..)
    have hst := fun b hb => hs b (List.mem_cons_of_mem _ hb)
    unfold lbx at h
    by_cases h0 : n.1 = 0
    · rw [if_pos h0] at h
      cases hh : (hlv x n.2.toNat).2 with
      | false => rw [hlv_no hh] at h; cases h
      | true =>
        obtain ⟨a, b, e, o1, o2, o3, o4⟩ := hlv_ok hh
        rw [e] at h
        refine lbx_ok (st := a :: b :: st) (fun c hc => ?_) h
        rcases List.mem_cons.1 hc with rfl | hc
        · exact ⟨o1, by omega⟩
        rcases List.mem_cons.1 hc with rfl | hc
        · exact ⟨o2, by omega⟩
        · exact hst c hc
    · rw [if_neg h0] at h
      cases hr : lbx l st with
      | none => rw [hr] at h; cases h
      | some r =>
        rw [hr] at h
        cases h
        intro b hb
        rcases List.mem_cons.1 hb with rfl | hb
        · exact hx
        · exact lbx_ok hst hr b hb
theorem lbx_len : ∀ {l : List Nd} {st bs : List Bx}, lbx l st = some bs → bs.length ≤ l.length
  | [], _, bs, h => by
    have : bs = [] := by simpa [lbx] using h.symm
    subst this; simp
  | _ :: _, [], bs, h => by
    have : bs = [] := by simpa [lbx] using h.symm
    subst this; simp
  | n :: l, x :: st, bs, h => by
    unfold lbx at h
    by_cases h0 : n.1 = 0
    · rw [if_pos h0] at h
      cases hh : (hlv x n.2.toNat).2 with
      | false => rw [hlv_no hh] at h; cases h
      | true =>
        obtain ⟨a, b, e, _⟩ := hlv_ok hh
        rw [e] at h
        have := lbx_len h
        simp only [List.length_cons]; omega
    · rw [if_neg h0] at h
      cases hr : lbx l st with
      | none => rw [hr] at h; cases h
      | some r =>
        rw [hr] at h
        cases h
        have := lbx_len hr
        simp only [List.length_cons]; omega
/-- The boxes that are asked for. -/
def asked (b : Bx) (l : List Nd) : Option (List Bx) := bif bOkB b && isT (b.2.1.length : Int) l then lbx l [b] else none
theorem isT_parts {s : Nat} {l : List Nd} (h : isT s l = true) : l.length ≤ 200 ∧ (∀ n ∈ l, vN s n = true) ∧ ctn l 1 = some [] := by
  unfold isT at h
  simp only [Bool.and_eq_true, decide_eq_true_eq] at h
  have := h.2.2
  rw [whole_iff, run_iff] at this
  exact ⟨h.2.1, this.2.1, this.1⟩
theorem rpAsked_v {b : Bx} {l : List Nd} (hl : l.length ≤ 1000000) : s_rpAsked b.1 b.2.1 b.2.2 l = some (lbR [] (asked b l)) := by
  unfold s_rpAsked asked
  rw [bsome bxGood_v]
  unfold bOkB
  cases hb : bOk b.1 b.2.1 b.2.2 with
  | false => rfl
  | true =>
    rw [nbt, bsome (trGood_v l hl _), Bool.true_and]
    cases ht : isT (b.2.1.length : Int) l with
    | false => rfl
    | true =>
      obtain ⟨t1, t2, t3⟩ := isT_parts ht
      rw [nbt, ct rfl]
      have : s_trBoxes b.1 b.2.1 b.2.2 l = some (lbR [] (lbx l [b])) := by
        unfold s_trBoxes
        exact trBoxes_l l b.2.1.length hl l.length 0 [b] [] (by omega) (by simp) (by simp; omega) (by
          intro c hc
          rw [List.mem_singleton.1 hc]
          exact ⟨hb, rfl⟩) t2 t3
      rw [bsome this]
theorem leafBoxes_v {b : Bx} {l : List Nd} (hl : l.length ≤ 1000000) (hb : bOkB b = true) (ht : isT (b.2.1.length : Int) l = true) : i_leafBoxes b l = some (lbR [] (lbx l [b])) := by
  obtain ⟨t1, t2, t3⟩ := isT_parts ht
  unfold i_leafBoxes
  exact leafBoxes_l l b.2.1.length hl l.length 0 [b] [] (by omega) (by simp) (by simp; omega) (by
    intro c hc
    rw [List.mem_singleton.1 hc]
    exact ⟨hb, rfl⟩) (fun c hc => by cases hc) t2 t3
theorem treeFits_v {b : Bx} {l : List Nd} (hl : l.length ≤ 1000000) : i_treeFits b l = some (asked b l).isSome := by
  unfold i_treeFits asked
  rw [bsome isBox_v]
  unfold bOkB
  cases hb : bOk b.1 b.2.1 b.2.2 with
  | false => rfl
  | true =>
    rw [nbt, bsome (isTree_v l hl _), Bool.true_and]
    cases ht : isT (b.2.1.length : Int) l with
    | false => rfl
    | true =>
      rw [nbt, ct rfl, bsome (leafBoxes_v hl hb ht)]
      cases lbx l [b] <;> rfl
/-! leaves -/
/-! The leaves of a tree and their places. -/
def lvs (l : List Nd) : List Nd := l.filter fun n => !decide (n.1 = 0)
theorem rpLeaves_l {l : List Nd} (hl : l.length ≤ 1000000) : ∀ (m i : Nat) (out : List Nd), i + m = l.length → out.length ≤ i → s_rpLeaves_1003 out l (l.length : Int) (i : Int) = some (out ++ lvs (l.drop i))
  | 0, i, out, hi, _ => by
    rw [Es_rpLeaves_1003, show i = l.length by omega, cf ltf, List.drop_length]
    simp [lvs]
  | m + 1, i, out, hi, ho => by
    have hlt : i < l.length := by omega
    have hd : lvs (l.drop i) = if l[i].1 = 0 then lvs (l.drop (i + 1)) else l[i] :: lvs (l.drop (i + 1)) := by
      rw [List.drop_eq_getElem_cons hlt]
      unfold lvs
      rw [List.filter_cons]
      by_cases h : l[i].1 = 0 <;> simp [h]
    rw [Es_rpLeaves_1003, ct (ltt hlt), ct (bA hlt), gD hlt, sc hlt (by omega), hd]
    by_cases h : l[i].1 = 0
    · rw [cf (by simp [h]), if_pos h, rpLeaves_l hl m (i + 1) out (by omega) (by omega)]
    · rw [ct (by simp [h]), if_neg h, ct (by simp; omega), rpLeaves_l hl m (i + 1) _ (by omega) (by simp; omega), List.append_assoc]
      rfl
theorem rpLeaves_v {l : List Nd} (hl : l.length ≤ 1000000) : s_rpLeaves l = some (lvs l) := by
  have := rpLeaves_l hl l.length 0 [] (by omega) (by simp)
  exact this
def plc : Nat → List Nd → List Int
  | _, [] => []
  | i, n :: l => if n.1 = 0 then plc (i + 1) l else (i : Int) :: plc (i + 1) l
theorem leafPlaces_l {l : List Nd} (hl : l.length ≤ 1000000) : ∀ (m i : Nat) (out : List Int), i + m = l.length → out.length ≤ i → i_leafPlaces_1003 out l (l.length : Int) (i : Int) = some (out ++ plc i (l.drop i))
  | 0, i, out, hi, _ => by
    rw [Ei_leafPlaces_1003, show i = l.length by omega, cf ltf, List.drop_length]
    simp [plc]
  | m + 1, i, out, hi, ho => by
    have hlt : i < l.length := by omega
    rw [Ei_leafPlaces_1003, ct (ltt hlt), ct (bA hlt), gD hlt, sc hlt (by omega), List.drop_eq_getElem_cons hlt, plc]
    by_cases h : l[i].1 = 0
    · rw [cf (by simp [h]), if_pos h, leafPlaces_l hl m (i + 1) out (by omega) (by omega)]
    · rw [ct (by simp [h]), if_neg h, ct (by simp; omega), leafPlaces_l hl m (i + 1) _ (by omega) (by simp; omega), List.append_assoc]
      rfl
theorem leafPlaces_v {l : List Nd} (hl : l.length ≤ 1000000) : i_leafPlaces l = some (plc 0 l) := leafPlaces_l hl l.length 0 [] (by omega) (by simp)
theorem plc_len : ∀ (l : List Nd) (i : Nat), (plc i l).length = (lvs l).length
  | [], _ => rfl
  | n :: l, i => by
    unfold plc lvs
    rw [List.filter_cons]
    have := plc_len l (i + 1)
    unfold lvs at this
    by_cases h : n.1 = 0 <;> simp [h, this]
theorem plc_at : ∀ (l : List Nd) (i j : Nat) (h : j < (plc i l).length) (h2 : j < (lvs l).length), ∃ (p : Nat) (hp : p < l.length), (plc i l)[j] = ((i + p : Nat) : Int) ∧ l[p] = (lvs l)[j]
  | [], i, j, h, _ => by simp [plc] at h
  | n :: l, i, j, h, h2 => by
    by_cases hn : n.1 = 0
    · have e1 : plc i (n :: l) = plc (i + 1) l := by rw [plc, if_pos hn]
      have e2 : lvs (n :: l) = lvs l := by unfold lvs; rw [List.filter_cons]; simp [hn]
      simp only [e1, e2] at h h2 ⊢
      obtain ⟨p, hp, q1, q2⟩ := plc_at l (i + 1) j h h2
      exact ⟨p + 1, by simp; omega, by rw [q1]; congr 1; omega, by simpa using q2⟩
    · have e1 : plc i (n :: l) = (i : Int) :: plc (i + 1) l := by rw [plc, if_neg hn]
      have e2 : lvs (n :: l) = n :: lvs l := by unfold lvs; rw [List.filter_cons]; simp [hn]
      simp only [e1, e2] at h h2 ⊢
      cases j with
      | zero => exact ⟨0, by simp, by simp, by simp⟩
      | succ j =>
        obtain ⟨p, hp, q1, q2⟩ := plc_at l (i + 1) j (by simpa using h) (by simpa using h2)
        exact ⟨p + 1, by simp; omega, by rw [List.getElem_cons_succ, q1]; congr 1; omega, by simpa using q2⟩
theorem lbx_cnt : ∀ {l : List Nd} {st bs : List Bx}, lbx l st = some bs → ctn l st.length = some [] → bs.length = (lvs l).length
  | [], st, bs, h, hc => by
    have : bs = [] := by simpa [lbx] using h.symm
    subst this; rfl
  | n :: l, [], bs, h, hc => by simp [ctn] at hc
  | n :: l, x :: st, bs, h, hc => by
    unfold lbx at h
    simp only [List.length_cons, ctn] at hc
    by_cases h0 : n.1 = 0
    · rw [if_pos h0] at h hc
      have e : lvs (n :: l) = lvs l := by unfold lvs; rw [List.filter_cons]; simp [h0]
      cases hh : (hlv x n.2.toNat).2 with
      | false => rw [hlv_no hh] at h; cases h
      | true =>
        obtain ⟨a, b, e2, _⟩ := hlv_ok hh
        rw [e2] at h
        rw [e]
        exact lbx_cnt h hc
    · rw [if_neg h0] at h hc
      have e : lvs (n :: l) = n :: lvs l := by unfold lvs; rw [List.filter_cons]; simp [h0]
      cases hr : lbx l st with
      | none => rw [hr] at h; cases h
      | some r =>
        rw [hr] at h
        cases h
        rw [e, List.length_cons, List.length_cons, lbx_cnt hr hc]
theorem asked_of {b : Bx} {l : List Nd} {bs : List Bx} (ha : asked b l = some bs) : bOkB b = true ∧ isT (b.2.1.length : Int) l = true ∧ lbx l [b] = some bs ∧ (∀ c ∈ bs, bOkB c = true ∧ c.2.1.length = b.2.1.length) ∧ bs.length = (lvs l).length := by
  have hbt : bOkB b = true ∧ isT (b.2.1.length : Int) l = true ∧ lbx l [b] = some bs := by
    unfold asked at ha
    cases hc : bOkB b && isT (b.2.1.length : Int) l with
    | false => rw [hc] at ha; cases ha
    | true =>
      rw [hc] at ha
      rw [Bool.and_eq_true] at hc
      exact ⟨hc.1, hc.2, ha⟩
  obtain ⟨hbb, htt, hlb⟩ := hbt
  obtain ⟨t1, t2, t3⟩ := isT_parts htt
  have h1 : ∀ c ∈ [b], bOkB c = true ∧ c.2.1.length = b.2.1.length := fun c hc => by rw [List.mem_singleton.1 hc]; exact ⟨hbb, rfl⟩
  exact ⟨hbb, htt, hlb, lbx_ok (st := [b]) h1 hlb, lbx_cnt hlb t3⟩
end Go.Proofs.YtchdegcfohegfaaE
