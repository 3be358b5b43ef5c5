/- The engine, part 10: contents of own rows; stores. -/
import Derived.Test.YtchdegcfohegfaaE9
namespace Go.Proofs.YtchdegcfohegfaaE
set_option linter.unusedVariables false
set_option linter.unusedSimpArgs false
set_option linter.unusedSectionVars false
open Pr

section
variable {P : Program} {ti : TI} {N : Nat} {X Y : Nat → Prop} {w0 w w' : World} {β β' : Beta} {σ σ' : St} {a a' : Act}

theorem RdO_Rd : ∀ {t : Ty} {w : World} {x : T t} {cs F}, RdO w t x cs F → ∃ F', (∀ f ∈ F', f ∈ F) ∧ Rd w t x cs F' := by
  intro t
  induction t with
  | pair a b ha hb =>
    rintro w x cs F ⟨c1, c2, F1, F2, rfl, rfl, h1, h2⟩
    obtain ⟨G1, g1, g2⟩ := ha h1
    obtain ⟨G2, k1, k2⟩ := hb h2
    exact ⟨G1 ++ G2, fun f hf => (List.mem_append.1 hf).elim (fun h => List.mem_append_left _ (g1 f h)) (fun h => List.mem_append_right _ (k1 f h)), c1, c2, G1, G2, rfl, rfl, g2, k2⟩
  | slice e t ih =>
    rintro w xs cs F ⟨b, c, rfl, h⟩
    have rows : ∀ {ys : List (T t)} {cs F}, rowR (RdO w t) ys cs F → ∃ F', (∀ f ∈ F', f ∈ F) ∧ rowR (Rd w t) ys cs F' := by
      intro ys
      induction ys with
      | nil => intro cs F h; exact ⟨[], by simp, h.1, rfl⟩
      | cons y ys ihy =>
        rintro cs F ⟨c1, c2, F1, F2, rfl, rfl, h1, h2⟩
        obtain ⟨G1, g1, g2⟩ := ih h1
        obtain ⟨G2, k1, k2⟩ := ihy h2
        exact ⟨G1 ++ G2, fun f hf => (List.mem_append.1 hf).elim (fun h => List.mem_append_left _ (g1 f h)) (fun h => List.mem_append_right _ (k1 f h)), c1, c2, G1, G2, rfl, rfl, g2, k2⟩
    cases b with
    | none => exact ⟨[], by simp, none, 0, rfl, by rw [show xs = [] from h.1]; exact Nat.le_refl _, .inl ⟨h.1, rfl⟩⟩
    | some g =>
      obtain ⟨cur, F', h1, h2, h3, h4, h5, rfl⟩ := h
      obtain ⟨G, g1, g2⟩ := rows h5
      by_cases hx : xs = []
      · exact ⟨[], by simp, some ⟨g, 0, none⟩, c, rfl, h2, .inl ⟨hx, rfl⟩⟩
      · refine ⟨g :: G, fun f hf => ?_, some ⟨g, 0, none⟩, c, rfl, h2, .inr ⟨hx, ⟨g, 0, none⟩, _, G, rfl, rfl, ?_, g2⟩⟩
        · rcases List.mem_cons.1 hf with rfl | hf
          · exact List.mem_cons_self ..
          · exact List.mem_cons_of_mem _ (g1 f hf)
        · have := At_array (off := 0) h1 (xs.length * sz t)
          rwa [List.drop_zero] at this
  | vslice e t _ => intro w x cs F h; exact h.elim
  | int k => intro w x cs F h; exact ⟨F, fun _ h => h, h⟩
  | bool => intro w x cs F h; exact ⟨F, fun _ h => h, h⟩
  | str => intro w x cs F h; exact ⟨F, fun _ h => h, h⟩
theorem rowO_Rd {t : Ty} {w : World} : ∀ {ys : List (T t)} {cs F}, rowR (RdO w t) ys cs F → ∃ F', (∀ f ∈ F', f ∈ F) ∧ rowR (Rd w t) ys cs F'
  | [], cs, F, h => ⟨[], by simp, h.1, rfl⟩
  | y :: ys, _, _, ⟨c1, c2, F1, F2, rfl, rfl, h1, h2⟩ => by
    obtain ⟨G1, g1, g2⟩ := RdO_Rd h1
    obtain ⟨G2, k1, k2⟩ := rowO_Rd h2
    exact ⟨G1 ++ G2, fun f hf => (List.mem_append.1 hf).elim (fun h => List.mem_append_left _ (g1 f h)) (fun h => List.mem_append_right _ (k1 f h)), c1, c2, G1, G2, rfl, rfl, g2, k2⟩

theorem rowR_mid {α : Type} {Q : α → List Value → List Nat → Prop} {n : Nat} (hl : ∀ x cs F, Q x cs F → cs.length = n) {xs : List α} {cs F} {i : Nat} (d : α) (h : rowR Q xs cs F) (hi : i < xs.length) :
    ∃ c1 c2 c3 F1 F2 F3, cs = c1 ++ c2 ++ c3 ∧ F = F1 ++ F2 ++ F3 ∧ rowR Q (xs.take i) c1 F1 ∧ Q (xs.getD i d) c2 F2 ∧ rowR Q (xs.drop (i + 1)) c3 F3 ∧ c1.length = i * n ∧ c2.length = n := by
  have e : xs = xs.take i ++ (xs.getD i d :: xs.drop (i + 1)) := by
    rw [List.getD_eq_getElem?_getD, List.getElem?_eq_getElem hi, Option.getD_some, ← List.drop_eq_getElem_cons hi, List.take_append_drop]
  rw [e] at h
  obtain ⟨c1, c2, F1, F2, rfl, rfl, h1, d1, d2, G1, G2, rfl, rfl, h2, h3⟩ := rowR_split h
  refine ⟨c1, d1, d2, F1, G1, G2, (List.append_assoc ..).symm, (List.append_assoc ..).symm, h1, h2, h3, ?_, hl _ _ _ h2⟩
  rw [rowR_len hl h1, List.length_take, Nat.min_eq_left (Nat.le_of_lt hi)]
theorem leK_iff {k i : Nat} : leK k i = true ↔ k ≤ i := by
  cases k with
  | zero => exact ⟨fun _ => Nat.zero_le _, fun _ => rfl⟩
  | succ k => exact ⟨Nat.le_of_ble_eq_true, Nat.ble_eq_true_of_le⟩
/-- An element of a row with own rows in it. -/
theorem deep_elem {Z : Nat → Prop} {e : TypeId} {t : Ty} {k : Nat} {xs : List (T t)} {g cap len : Nat} {I : List Nat} {i : Nat} (h : DeepOk β w Z e t k xs none (some g, cap, len) I) (hi : i < xs.length) (hk : k ≤ i) :
    ∃ us F, At w ⟨g, i * sz t, none⟩ us ∧ RdO w t (xs.getD i (dflt t)) us F ∧ ∀ f ∈ F, f ∈ I := by
  obtain ⟨_, _, _, hkx, cur, h3, h4, h5, h6, F, h7, h8, h9⟩ := h
  have hi2 : i - k < (xs.drop k).length := by rw [List.length_drop]; omega
  obtain ⟨c1, c2, c3, F1, F2, F3, e1, e2, r1, r2, r3, l1, l2⟩ := rowR_mid (n := sz t) (fun _ _ _ => RdO_len) (dflt t) h7 hi2
  have hx : (xs.drop k).getD (i - k) (dflt t) = xs.getD i (dflt t) := by
    rw [List.getD_eq_getElem?_getD, List.getD_eq_getElem?_getD, List.getElem?_drop, show k + (i - k) = i by omega]
  rw [hx] at r2
  refine ⟨c2, F2, ?_, r2, fun f hf => h9 f (by rw [e2]; exact List.mem_append_left _ (List.mem_append_right _ hf))⟩
  have ha := At_array (off := i * sz t) h3 (sz t)
  have hc : (cur.toList.drop (i * sz t)).take (sz t) = c2 := by
    have hki : k * sz t + (i - k) * sz t = i * sz t := by rw [← Nat.add_mul]; congr 1; omega
    have hle : i * sz t + sz t ≤ xs.length * sz t := by rw [← Nat.succ_mul]; exact Nat.mul_le_mul_right _ hi
    have e3 : ((cur.toList.take (xs.length * sz t)).drop (i * sz t)).take (sz t) = c2 := by
      rw [← hki, ← List.drop_drop, e1, List.append_assoc, ← l1, List.drop_left, ← l2, List.take_left]
    rw [← e3, List.drop_take, List.take_take, Nat.min_eq_left (by omega)]
  rwa [hc] at ha

theorem rowOf_sound (R : Rel ti N X Y w0 β σ a w) {t : Ty} {e : TypeId} {l : Loc} {own : Bool} {xs : List (T t)} (h : rowOf ti t e (look σ l) = some (own, xs)) :
    ∃ b, β l = some b ∧ RowOk w (Zs Y β σ w) e t xs b ∧ (own = true → isOwn (look σ l) = true) ∧ (own = false → ∀ g, b.1 = some g → Zs Y β σ w g) ∧ isObj (look σ l) = true := by
  have ho := R.obj l
  cases hc : look σ l with
  | row own' e' t' ys =>
    rw [hc] at h ho
    unfold rowOf at h
    simp only at h
    cases he : Nat.beq e' e with
    | false => rw [he] at h; cases h
    | true =>
      rw [he] at h
      obtain rfl := Nat.eq_of_beq_eq_true he
      have h : (match encRow t t' ys with | some ys => some (own', ys) | none => none) = some (own, xs) := h
      split at h
      · rename_i zs hz
        cases h
        obtain ⟨rfl, rfl⟩ := encRow_spec hz
        obtain ⟨b, h1, h2, h3⟩ := ho
        exact ⟨b, h1, h2, fun h => by rw [h]; rfl, h3, rfl⟩
      · cases h
  | mem own' e' cs =>
    rw [hc] at h ho
    unfold rowOf at h
    simp only at h
    cases he : (Nat.beq e' e && tyEq t (ti.at e).ty) with
    | false => rw [he] at h; cases h
    | true =>
      rw [he] at h
      rw [Bool.and_eq_true] at he
      obtain rfl := Nat.eq_of_beq_eq_true he.1
      have ht := tyEq_eq he.2
      have h : (match encAll t (cs.length / sz t) cs with | some ys => some (own', ys) | none => none) = some (own, xs) := h
      split at h
      · rename_i zs hz
        cases h
        obtain ⟨b, h1, ⟨g, vs, g1, g2, g3, g4, g5, g6⟩, h3⟩ := ho
        rw [← ht] at g4
        obtain ⟨hl, F, hr, hF⟩ := Rd_encAll hz g3
        have hn : cs.length / sz t = b.2.1 := by rw [← VRs_len g3, g4]; exact Nat.mul_div_cancel _ (sz_pos t)
        rw [hn] at hl
        refine ⟨b, h1, ⟨by rw [hl]; exact g5, ?_⟩, fun h => by rw [h]; rfl, h3, rfl⟩
        rw [g1]
        refine ⟨vs.toArray, F, g2, by omega, g6, by simpa using g4, ?_, hF⟩
        rw [hl, List.take_of_length_le (by simp; omega)]
        simpa using hr
      · cases h
  | deep e t k xs op => rw [hc] at h; cases h
  | dead => rw [hc] at h; cases h
  | val v => rw [hc] at h; cases h

/-- An own row's value, as a content. -/
theorem row_slc {Z : Nat → Prop} {e : TypeId} {t : Ty} {xs : List (T t)} {b : Option Nat × Nat × Nat} {l : Loc} {n : Option Nat} {u : Value} (hb : β l = some b) (hr : RowOk w Z e t xs b) (hv : VR1 β w Z (.ref l n) u)
    {Z' : Nat → Prop} (hZ : ∀ g, Z g → Z' g) (hg : ∀ g, b.1 = some g → Z' g) : VR1 β w Z' (.slc e t (seen n xs)) u := by
  obtain ⟨bb, c, len, hb', hval⟩ := hv
  rw [hb] at hb'
  cases hb'
  obtain ⟨hlen, hr⟩ := hr
  have hlen : len = xs.length := hlen
  cases bb with
  | none =>
    obtain ⟨rfl, h1, h2⟩ := hval
    have hx : xs = [] := hr
    subst hx
    have : seen n ([] : List (T t)) = [] := by cases n <;> simp [seen]
    rw [this]
    exact ⟨[], ⟨none, 0, rfl, Nat.le_refl _, .inl ⟨rfl, rfl⟩⟩, by simp⟩
  | some g =>
    obtain ⟨rfl, h1, h2⟩ := hval
    obtain ⟨cur, F, h3, h4, h5, h6, h7, h8⟩ := hr
    have hsl : (seen n xs).length = n.getD len := by
      cases n with
      | none => exact hlen.symm
      | some j => show (xs.take j).length = j; rw [List.length_take]; exact Nat.min_eq_left (by rw [← hlen]; exact h1)
    have hrow : ∃ F', (∀ g ∈ F', g ∈ F) ∧ rowR (Rd w t) (seen n xs) (cur.toList.take ((seen n xs).length * sz t)) F' := by
      rw [hsl]
      cases n with
      | none =>
        refine ⟨F, fun _ h => h, ?_⟩
        rw [Option.getD_none, show len = xs.length from hlen]
        exact h7
      | some j =>
        obtain ⟨F', g1, g2⟩ := rowR_take (n := sz t) (fun _ _ _ => Rd_len) j h7
        refine ⟨F', g1, ?_⟩
        rw [List.take_take, Nat.min_eq_left (Nat.mul_le_mul_right _ (by rw [← hlen]; exact h1))] at g2
        exact g2
    obtain ⟨F', g1, g2⟩ := hrow
    by_cases hx : seen n xs = []
    · refine ⟨[], ⟨some ⟨g, 0, none⟩, c, by rw [hsl], by rw [hx]; exact Nat.zero_le _, .inl ⟨hx, rfl⟩⟩, by simp⟩
    · refine ⟨g :: F', ⟨some ⟨g, 0, none⟩, c, by rw [hsl], by rw [hsl]; omega, .inr ⟨hx, ⟨g, 0, none⟩, _, F', rfl, rfl, ?_, g2⟩⟩, ?_⟩
      · have := At_array (off := 0) h3 ((seen n xs).length * sz t)
        rwa [List.drop_zero] at this
      · intro f hf
        rcases List.mem_cons.1 hf with rfl | hf
        · exact hg _ rfl
        · exact hZ f (h8 f (g1 f hf))

theorem row_view {Z : Nat → Prop} {e : TypeId} {t : Ty} {xs : List (T t)} {b : Option Nat × Nat × Nat} {l : Loc} {n : Option Nat} {u : Value} (hb : β l = some b) (hr : RowOk w Z e t xs b) (hv : VR1 β w Z (.ref l n) u)
    {Z' : Nat → Prop} (hZ : ∀ g, Z g → Z' g) (hg : ∀ g, b.1 = some g → Z' g) {β'' : Beta} : VR1 β'' w Z' (viewOf n e t xs) u := by
  cases n with
  | none => exact row_slc hb hr hv hZ hg
  | some j =>
    obtain ⟨bb, c, len, hb', hval⟩ := hv
    rw [hb] at hb'
    cases hb'
    obtain ⟨hlen, hr⟩ := hr
    have hlen : len = xs.length := hlen
    cases bb with
    | none =>
      obtain ⟨rfl, h1, h2⟩ := hval
      have hx : xs = [] := hr
      subst hx
      have h2 : j = 0 := h2
      subst h2
      exact ⟨[], ⟨none, 0, rfl, Nat.le_refl _, Nat.le_refl _, .inl ⟨rfl, rfl⟩⟩, by simp⟩
    | some g =>
      obtain ⟨rfl, h1, h2⟩ := hval
      have h1 : j ≤ len := h1
      obtain ⟨cur, F, h3, h4, h5, h6, h7, h8⟩ := hr
      by_cases hx : xs = []
      · refine ⟨[], ⟨some ⟨g, 0, none⟩, c, rfl, by show j ≤ xs.length; omega, h4, .inl ⟨hx, rfl⟩⟩, by simp⟩
      · refine ⟨g :: F, ⟨some ⟨g, 0, none⟩, c, rfl, by show j ≤ xs.length; omega, h4, .inr ⟨hx, ⟨g, 0, none⟩, _, F, rfl, rfl, ?_, h7⟩⟩, ?_⟩
        · have := At_array (off := 0) h3 (xs.length * sz t)
          rwa [List.drop_zero] at this
        · intro f hf
          rcases List.mem_cons.1 hf with rfl | hf
          · exact hg _ rfl
          · exact hZ f (h8 f hf)

theorem snap0_sound (R : Rel ti N X Y w0 β σ a w) {v x : AVal} {u : Value} (h : (snap0 ti v).E σ x) (hv : VR1 β w (Zs Y β σ w) v u) {Z' : Nat → Prop} (hZ : ∀ g, Zs Y β σ w g → Z' g)
    (hg : ∀ l ∈ refsOf v, isObj (look σ l) = true → ∀ g c len, β l = some (some g, c, len) → Z' g) {β'' : Beta} : VR1 β'' w Z' x u := by
  have mono : VR1 β w Z' v u := VR1_mono (fun _ _ h => h) (fun g hg => ⟨hZ g hg, rfl⟩) hv
  have key : ∀ {l n e t own} {xs : List (T t)}, rowOf ti t e (look σ l) = some (own, xs) → v = .ref l n → VR1 β'' w Z' (viewOf n e t xs) u := by
    intro l n e t own xs h1 h2
    subst h2
    obtain ⟨b, h3, h4, _, _, h5⟩ := rowOf_sound R h1
    exact row_view h3 h4 hv hZ (fun g hb => hg l (List.mem_singleton.2 rfl) h5 g b.2.1 b.2.2 (by rw [h3, ← hb]))
  cases v <;> simp only [snap0, E_ret, E_fail] at h
  case ref l n =>
    rw [E_get] at h
    split at h
    · rename_i own e t xs hc
      rw [E_ret] at h
      subst h
      refine key (own := own) ?_ rfl
      rw [hc]
      show (bif Nat.beq e e then _ else _) = _
      rw [Nat.beq_refl]
      have : encRow t t xs = some xs := by
        unfold encRow
        split
        · rfl
        · rename_i hh
          have hself : ∀ t : Ty, tyEq t t = true := by
            intro t
            induction t with
            | int k => cases k <;> rfl
            | bool => rfl
            | str => rfl
            | slice e t ih => simp [tyEq, ih]
            | vslice e t ih => simp [tyEq, ih]
            | pair a b ha hb => simp [tyEq, ha, hb]
          rw [hself] at hh
          cases hh
      show (match encRow t t xs with | some ys => some (own, ys) | none => none) = _
      rw [this]
    · rename_i own e cs hc
      split at h
      · rename_i own' ys hr
        rw [E_ret] at h
        subst h
        exact key (by rw [hc]; exact hr) rfl
      · exact (E_fail.1 h).elim
    · exact (E_fail.1 h).elim
  all_goals (subst h; exact mono)

theorem snaps0_sound {β'' : Beta} (R : Rel ti N X Y w0 β σ a w) {Z' : Nat → Prop} (hZ : ∀ g, Zs Y β σ w g → Z' g) : ∀ {vs xs : List AVal} {us : List Value}, (snaps0 ti vs).E σ xs → VRs β w (Zs Y β σ w) vs us →
    (∀ l ∈ refsOf (.agg vs), isObj (look σ l) = true → ∀ g c len, β l = some (some g, c, len) → Z' g) → VRs β'' w Z' xs us
  | [], xs, us, h, hv, hg => by rw [snaps0, E_ret] at h; subst h; exact hv
  | v :: vs, xs, us, h, ⟨u, us', e, h1, h2, h3⟩, hg => by
    simp only [snaps0, E_bind, E_ret] at h
    obtain ⟨x, g1, ys, g2, rfl⟩ := h
    refine ⟨u, us', e, snap0_sound R g1 h1 hZ (fun l hl => hg l ?_), h2, snaps0_sound R hZ g2 h3 (fun l hl => hg l ?_)⟩
    · show l ∈ refsOf v ++ refsOf.refsOfs vs
      exact List.mem_append_left _ hl
    · show l ∈ refsOf v ++ refsOf.refsOfs vs
      exact List.mem_append_right _ hl

theorem refs_cells {v : AVal} (hok : cellsOk v = true) : refsOf (.agg (asCells v)) = refsOf v := by
  cases v with
  | agg cs => rfl
  | tup cs => cases hok
  | undef => cases hok
  | _ => rfl

/-- The own object's block is written. -/
theorem Rel.write (R : Rel ti N X Y w0 β σ a w) {l : Loc} {c : Cell} {g cap len : Nat} {e : TypeId} {old cur : Array Value} (ho : isOwn (look σ l) = true) (hb : β l = some (some g, cap, len)) (hodd : ∀ t, l ≠ tmpL t) (hown : isOwn c = true) (hnd : isDeep c = false)
    (hg : w.heap[g]? = some (.cells old e (0, 0)))
    (hc : ∀ Z' : Nat → Prop, (∀ k, Zs Y β σ w k → Z' k ∧ (w.setRow g cur).heap[k]? = w.heap[k]?) → CellOk ti β (w.setRow g cur) Z' l c) : Rel ti N X Y w0 β ((l, c) :: σ) a (w.setRow g cur) := by
  have hne : ∀ k, Zs Y β σ w k → k ≠ g := by
    rintro k hk rfl
    exact hk.2 l cap len ho hb
  have hsame : ∀ k, k ≠ g → (w.setRow g cur).heap[k]? = w.heap[k]? := fun k hk => setRow_other w g k cur hk
  have hsz : (w.setRow g cur).heap.size = w.heap.size := by simp [World.setRow]
  have ho2 : ∀ l', isOwn (look ((l, c) :: σ) l') = true → isOwn (look σ l') = true := by
    intro l' h
    rw [look_cons] at h
    by_cases e : l = l'
    · subst e; exact ho
    · rw [if_neg e] at h; exact h
  have hdp : ∀ l', isDeep (look ((l, c) :: σ) l') = true → look ((l, c) :: σ) l' = look σ l' := by
    intro l' hd
    rw [look_cons] at hd ⊢
    by_cases e : l = l'
    · rw [if_pos e, hnd] at hd; cases hd
    · rw [if_neg e]
  have htop : ∀ l' g' c' n, isOwn (look ((l, c) :: σ) l') = true → β l' = some (some g', c', n) → (∃ l0 c0 n0, isOwn (look σ l0) = true ∧ β l0 = some (some g', c0, n0)) ∨ w.heap.size ≤ g' := fun l' g' c' n h hb => .inl ⟨l', c', n, ho2 l' h, hb⟩
  have hZ : ∀ k, Zs Y β σ w k → Zs Y β ((l, c) :: σ) (w.setRow g cur) k ∧ (w.setRow g cur).heap[k]? = w.heap[k]? :=
    fun k hk => ⟨R.stepZ rfl (by rw [hsz]; exact Nat.le_refl _) hdp htop k hk, hsame k (hne k hk)⟩
  refine R.step (fun _ _ h => h) rfl ⟨R.kept.os, R.kept.tape, R.kept.output, by rw [hsz]; exact R.kept.size, fun k hk hx => ?_⟩ (by rw [hsz]; exact Nat.le_refl _) hZ (fun l' h => ⟨hdp l' h, fun f hf => hsame f ?_⟩) htop R.size R.dfr ?_ ?_ (fun l1 l2 g' c1 n1 c2 n2 h1 h2 => R.apart l1 l2 g' c1 n1 c2 n2 (ho2 l1 h1) (ho2 l2 h2))
  · refine (hsame k ?_).trans (R.kept.block k hk hx)
    rintro rfl
    rcases R.new l _ _ _ ho hb with h | h
    · omega
    · exact hx h
  · rintro rfl
    exact R.dtop l l' f cap len ho hb (by rw [← hdp l' h]; exact h) hf
  · intro t v h
    rw [look_cons, if_neg (hodd t)] at h
    exact .inl ⟨h, rfl⟩
  · intro l'
    rw [look_cons]
    by_cases e : l = l'
    · subst e; rw [if_pos rfl]; exact .inr (hc _ hZ)
    · rw [if_neg e]
      refine .inl ⟨rfl, fun g' c' len' h' hb' => hsame g' ?_⟩
      rintro rfl
      exact e (R.apart l l' g' cap len c' len' ho h' hb hb')
end
end Go.Proofs.YtchdegcfohegfaaE
