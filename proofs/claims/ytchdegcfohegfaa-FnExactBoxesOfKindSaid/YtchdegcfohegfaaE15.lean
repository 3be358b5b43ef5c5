/- The engine, part 15: the call; every operation. -/
import Derived.Test.YtchdegcfohegfaaE14
namespace Go.Proofs.YtchdegcfohegfaaE
set_option linter.unusedVariables false
set_option linter.unusedSimpArgs false
set_option linter.unusedSectionVars false
open Pr

theorem seq_look : ∀ {os : Ws} {σ : St} {l : Loc}, (∀ (i : Nat) p, os[i]? = some p → p.1 = l + 2 * i) → ∀ l', (∃ i p, os[i]? = some p ∧ l' = l + 2 * i ∧ look (put σ os) l' = p.2) ∨ ((∀ i, i < os.length → l' ≠ l + 2 * i) ∧ look (put σ os) l' = look σ l')
  | [], σ, l, h, l' => .inr ⟨fun i hi => by simp at hi, rfl⟩
  | p :: os, σ, l, h, l' => by
    have h0 := h 0 p rfl
    rw [Nat.mul_zero, Nat.add_zero] at h0
    have h' : ∀ (i : Nat) q, os[i]? = some q → q.1 = (l + 2) + 2 * i := fun i q hq => by
      have := h (i + 1) q (by simpa using hq)
      rw [this, Nat.mul_add, Nat.mul_one, Nat.add_assoc, Nat.add_comm 2]
    rw [put_cons]
    rcases seq_look (σ := p :: σ) h' l' with ⟨i, q, g1, g2, g3⟩ | ⟨g1, g2⟩
    · exact .inl ⟨i + 1, q, by simpa using g1, by rw [g2, Nat.mul_add, Nat.mul_one, Nat.add_assoc, Nat.add_comm 2], g3⟩
    · by_cases e : p.1 = l'
      · refine .inl ⟨0, p, rfl, by rw [← e, h0]; rfl, ?_⟩
        rw [g2]
        obtain ⟨pl, pc⟩ := p
        rw [look_cons, if_pos e]
      · refine .inr ⟨fun i hi => ?_, ?_⟩
        · cases i with
          | zero => intro e2; exact e (by rw [h0, e2]; rfl)
          | succ i =>
            have := g1 i (by simpa using hi)
            rw [Nat.mul_add, Nat.mul_one]
            intro e2
            exact this (by rw [e2, Nat.add_assoc, Nat.add_comm 2])
        · rw [g2]
          obtain ⟨pl, pc⟩ := p
          rw [look_cons, if_neg e]

theorem Rd_flat : ∀ {t : Ty} {w : World} {x : T t} {cs F}, noSlice t = true → Rd w t x cs F → F = [] := by
  intro t
  induction t with
  | pair p q hp hq =>
    rintro w x cs F hn ⟨c1, c2, F1, F2, _, rfl, h1, h2⟩
    simp only [noSlice, Bool.and_eq_true] at hn
    rw [hp hn.1 h1, hq hn.2 h2]
    rfl
  | slice e t _ => intro w x cs F hn; cases hn
  | vslice e t _ => intro w x cs F hn; cases hn
  | int k => intro w x cs F _ h; exact h.2
  | bool => intro w x cs F _ h; exact h.2
  | str => intro w x cs F _ h; exact h.2

theorem flat_false : ∀ {t : Ty}, flatR false t = true → noSlice t = true := by
  intro t
  induction t with
  | pair p q hp hq => intro h; simp only [flatR, noSlice, Bool.and_eq_true] at h ⊢; exact ⟨hp h.1, hq h.2⟩
  | slice e t _ => intro h; simp [flatR] at h
  | vslice e t _ => intro h; simp [flatR] at h
  | _ => intro _; rfl

theorem RowOk_flat {w : World} {Z Z' : Nat → Prop} {e : TypeId} {t : Ty} {xs : List (T t)} {b} (hn : noSlice t = true) (h : RowOk w Z e t xs b) : RowOk w Z' e t xs b := by
  obtain ⟨h1, h2⟩ := h
  refine ⟨h1, ?_⟩
  cases hb : b.1 with
  | none => rw [hb] at h2; exact h2
  | some g =>
    rw [hb] at h2
    obtain ⟨cur, F, h3, h4, h5, h6, h7, h8⟩ := h2
    have hF : ∀ {xs : List (T t)} {cs F}, rowR (Rd w t) xs cs F → F = [] := by
      intro xs
      induction xs with
      | nil => intro cs F h; exact h.2
      | cons x xs ih =>
        rintro cs F ⟨c1, c2, F1, F2, _, rfl, g1, g2⟩
        rw [Rd_flat hn g1, ih g2]
        rfl
    have := hF h7
    subst this
    exact ⟨cur, [], h3, h4, h5, h6, h7, by simp⟩

section
variable {P : Program} {ti : TI} {N : Nat} {X Y : Nat → Prop} {w0 w w' : World} {β β' : Beta} {σ σ' : St} {a a' : Act}

theorem plain1_mono {v : AVal} (h : plain1 v = true) {Z Z' : Nat → Prop} (hZ : ∀ g, Z g → Z' g) {u : Value} (hv : VR1 β w Z v u) : VR1 β' w Z' v u := by
  cases v <;> first | (cases h; done) | skip
  case slc e t xs => obtain ⟨F, h1, h2⟩ := hv; exact ⟨F, h1, fun g hg => hZ g (h2 g hg)⟩
  case vslc e t xs n => obtain ⟨F, h1, h2⟩ := hv; exact ⟨F, h1, fun g hg => hZ g (h2 g hg)⟩
  case fptr t x => obtain ⟨ad, cs, F, h1, h2, h3, h4, h5⟩ := hv; exact ⟨ad, cs, F, h1, h2, h3, hZ _ h4, fun g hg => hZ g (h5 g hg)⟩
  all_goals exact hv

theorem pinned_own {c : Cell} (h : pinned c = true) : isOwn c = true := by
  unfold pinned at h
  split at h
  · rfl
  · rfl
  · rfl
  · cases h
theorem VRs_plain {Z Z' : Nat → Prop} (hZ : ∀ g, Z g → Z' g) : ∀ {cs : List AVal} {vs : List Value}, cs.all plain1 = true → VRs β w Z cs vs → VRs β' w Z' cs vs
  | [], vs, _, h => h
  | c :: cs, vs, hp, ⟨u, us, e, h1, h2, h3⟩ => by
    rw [List.all_cons, Bool.and_eq_true] at hp
    exact ⟨u, us, e, plain1_mono hp.1 hZ h1, h2, VRs_plain hZ hp.2 h3⟩

theorem put_look : ∀ {ws : Ws} {σ : St} {l : Loc}, (∃ c, (l, c) ∈ ws ∧ look (put σ ws) l = c) ∨ ((∀ c, (l, c) ∉ ws) ∧ look (put σ ws) l = look σ l)
  | [], σ, l => .inr ⟨fun c h => (by cases h), rfl⟩
  | (l', c') :: ws, σ, l => by
    rw [put_cons]
    rcases put_look (ws := ws) (σ := (l', c') :: σ) (l := l) with ⟨c, h1, h2⟩ | ⟨h1, h2⟩
    · exact .inl ⟨c, List.mem_cons_of_mem _ h1, h2⟩
    · by_cases e : l' = l
      · subst e
        exact .inl ⟨c', List.mem_cons_self .., by rw [h2, look_cons, if_pos rfl]⟩
      · refine .inr ⟨fun c h => ?_, by rw [h2, look_cons, if_neg e]⟩
        rcases List.mem_cons.1 h with e2 | h
        · cases e2; exact e rfl
        · exact h1 c h

/-- Own objects are written by another; all else stays. -/
theorem Rel.writeK (R : Rel ti N X Y w0 β σ a w) {ws : Ws} (hf : ∀ l, β' l = β l) (hown : ∀ l c, (l, c) ∈ ws → isOwn (look σ l) = true ∧ isOwn c = true ∧ ∀ t, l ≠ tmpL t)
    (hinn : ∀ l, (∀ c, (l, c) ∉ ws) → β'.inn l = β.inn l)
    (hk : Kept (fun g => ∃ l c, (l, c) ∈ ws ∧ Owns β σ l g) w w')
    (hfrom : ∀ l c g, (l, c) ∈ ws → isDeep c = true → g ∈ β'.inn l → (∃ l' c', (l', c') ∈ ws ∧ Owns β σ l' g) ∨ w.heap.size ≤ g)
    (hap : ∀ l c l' c' g, (l, c) ∈ ws → (l', c') ∈ ws → Owns β' (put σ ws) l g → Owns β' (put σ ws) l' g → l = l')
    (hc : ∀ Z' : Nat → Prop, (∀ k, Zs Y β σ w k → Z' k) → (∀ k, (w.heap.size ≤ k ∨ ∃ l, Owns β σ l k) → k < w'.heap.size → (∀ l, ¬ Owns β' (put σ ws) l k) → Z' k) → ∀ l c, (l, c) ∈ ws → CellOk ti β' w' Z' l c) :
    Rel ti N X Y w0 β' (put σ ws) a w' ∧ (∀ k, Zs Y β σ w k → Zs Y β' (put σ ws) w' k ∧ w'.heap[k]? = w.heap[k]?) := by
  -- what is owned behind
  have ho : ∀ l g, Owns β' (put σ ws) l g → ((∃ c, (l, c) ∈ ws) ∧ ((∃ l' c', (l', c') ∈ ws ∧ Owns β σ l' g) ∨ w.heap.size ≤ g)) ∨ ((∀ c, (l, c) ∉ ws) ∧ Owns β σ l g) := by
    intro l g h
    rcases put_look (ws := ws) (σ := σ) (l := l) with ⟨c, h1, h2⟩ | ⟨h1, h2⟩
    · obtain ⟨q1, q2, _⟩ := hown l c h1
      refine .inl ⟨⟨c, h1⟩, ?_⟩
      rcases h with ⟨p1, cc, nn, p2⟩ | ⟨p1, p2⟩
      · exact .inl ⟨l, c, h1, .inl ⟨q1, cc, nn, by rw [← hf]; exact p2⟩⟩
      · rw [h2] at p1
        exact hfrom l c g h1 p1 p2
    · refine .inr ⟨h1, ?_⟩
      unfold Owns at h ⊢
      rw [h2, hf, hinn l h1] at h
      exact h
  have hsame : ∀ k, Zs Y β σ w k → w'.heap[k]? = w.heap[k]? := fun k h => hk.block k h.1.1 (fun ⟨l, c, _, h2⟩ => h.no l h2)
  have hown1 : ∀ l g, Owns β' (put σ ws) l g → (∃ l0, Owns β σ l0 g) ∨ w.heap.size ≤ g := fun l g h => by
    rcases ho l g h with ⟨_, ⟨l', c', _, h2⟩ | h2⟩ | ⟨_, h2⟩
    · exact .inl ⟨l', h2⟩
    · exact .inr h2
    · exact .inl ⟨l, h2⟩
  have hZ : ∀ k, Zs Y β σ w k → Zs Y β' (put σ ws) w' k ∧ w'.heap[k]? = w.heap[k]? := fun k h => ⟨R.stepGZ hk.size hown1 k h, hsame k h⟩
  have hnew : ∀ k, (w.heap.size ≤ k ∨ ∃ l, Owns β σ l k) → k < w'.heap.size → (∀ l, ¬ Owns β' (put σ ws) l k) → Zs Y β' (put σ ws) w' k := fun k h1 h2 h3 =>
    .of h2 (h1.elim (fun h1 => R.yn k (Nat.le_trans R.kept.size h1)) (fun ⟨l, h⟩ => R.owns_Y h)) h3
  have cross : ∀ l l' g, (∃ c, (l, c) ∈ ws) → ((∃ l' c', (l', c') ∈ ws ∧ Owns β σ l' g) ∨ w.heap.size ≤ g) → (∀ c, (l', c) ∉ ws) → Owns β σ l' g → False := by
    rintro l l' g _ (⟨l2, c2, h1, h2⟩ | h1) h3 h4
    · have := R.owns_apart h2 h4
      subst this
      exact h3 c2 h1
    · have := R.owns_lt h4; omega
  refine ⟨R.stepG (fun l b h => by rw [hf]; exact h) ⟨hk.os.trans R.kept.os, hk.tape.trans R.kept.tape, hk.output.trans R.kept.output, Nat.le_trans R.kept.size hk.size, fun k hlt hx => ?_⟩ hk.size hsame hown1 ?_ R.size R.dfr ?_ ?_, hZ⟩
  · refine (hk.block k (Nat.lt_of_lt_of_le hlt R.kept.size) ?_).trans (R.kept.block k hlt hx)
    rintro ⟨l, c, h1, h2⟩
    rcases R.owns_new h2 with h | h
    · omega
    · exact hx h
  · intro l l' g h h'
    rcases ho l g h with ⟨⟨c, h1⟩, h2⟩ | ⟨h1, h2⟩ <;> rcases ho l' g h' with ⟨⟨c', h1'⟩, h2'⟩ | ⟨h1', h2'⟩
    · exact hap l c l' c' g h1 h1' h h'
    · exact (cross l l' g ⟨c, h1⟩ h2 h1' h2').elim
    · exact (cross l' l g ⟨c', h1'⟩ h2' h1 h2).elim
    · exact R.owns_apart h2 h2'
  · intro t v hv
    rcases put_look (ws := ws) (σ := σ) (l := tmpL t) with ⟨c, h1, h2⟩ | ⟨h1, h2⟩
    · exact absurd rfl ((hown _ c h1).2.2 t)
    · rw [h2] at hv; exact .inl ⟨hv, rfl⟩
  · intro l
    rcases put_look (ws := ws) (σ := σ) (l := l) with ⟨c, h1, h2⟩ | ⟨h1, h2⟩
    · rw [h2]; exact .inr (hc _ (fun k h => (hZ k h).1) hnew l c h1)
    · refine .inl ⟨h2, fun _ => hinn l h1, fun g hg => hk.block g (R.owns_lt hg) ?_⟩
      rintro ⟨l', c', h3, h4⟩
      have := R.owns_apart hg h4
      subst this
      exact h1 c' h3

theorem nodupN_spec {α : Type} {f : α → Nat} : ∀ {ls : List α}, nodupN (ls.map f) = true → ∀ x ∈ ls, ∀ y ∈ ls, f x = f y → x = y
  | [], _, x, hx => by cases hx
  | z :: ls, h, x, hx => by
    intro y hy e
    simp only [List.map_cons, nodupN, Bool.and_eq_true, Bool.not_eq_true'] at h
    have hn : ∀ u ∈ ls, f u ≠ f z := by
      intro u hu e2
      have : memN (f z) (ls.map f) = true := memN_iff.2 (by rw [← e2]; exact List.mem_map_of_mem hu)
      rw [h.1] at this; cases this
    rcases List.mem_cons.1 hx with hx1 | hx1 <;> rcases List.mem_cons.1 hy with hy1 | hy1
    · rw [hx1, hy1]
    · rw [hx1] at e; exact absurd e.symm (hn y hy1)
    · rw [hy1] at e; exact absurd e (hn x hx1)
    · exact nodupN_spec h.2 x hx1 y hy1 e

theorem getAll_spec : ∀ {prs : List (Loc × Loc)} {os : St}, (getAll ti prs).E σ os → (∀ p c, (p, c) ∈ os → ∃ l, (p, l) ∈ prs ∧ c = look σ l) ∧ (∀ p l, (p, l) ∈ prs → pinned (look σ l) = true ∧ okC ti (look σ l) = true ∧ (p, look σ l) ∈ os)
  | [], os, h => by
    rw [getAll, E_ret] at h
    subst h
    exact ⟨fun p c h => (by cases h), fun p l h => (by cases h)⟩
  | (p, l) :: r, os, h => by
    rw [getAll, E_get] at h
    cases hp : pinned (look σ l) && okC ti (look σ l) with
    | false => rw [hp] at h; exact (E_fail.1 h).elim
    | true =>
      rw [hp] at h
      simp only [cond_true, E_bind, E_ret] at h
      obtain ⟨os2, h1, rfl⟩ := h
      rw [Bool.and_eq_true] at hp
      obtain ⟨g1, g2⟩ := getAll_spec h1
      constructor
      · intro p' c hm
        rcases List.mem_cons.1 hm with e | hm
        · cases e; exact ⟨l, List.mem_cons_self .., rfl⟩
        · obtain ⟨l', q1, q2⟩ := g1 p' c hm
          exact ⟨l', List.mem_cons_of_mem _ q1, q2⟩
      · intro p' l' hm
        rcases List.mem_cons.1 hm with e | hm
        · cases e; exact ⟨hp.1, hp.2, List.mem_cons_self ..⟩
        · obtain ⟨q1, q2, q3⟩ := g2 p' l' hm
          exact ⟨q1, q2, List.mem_cons_of_mem _ q3⟩

theorem lendC_sound {β0 : Beta} {Z Z' : Nat → Prop} (hZ : ∀ g, Z g → Z' g) : ∀ {cs : List AVal} {ps : List Loc} {ds : List AVal} {prs : List (Loc × Loc)} {us : List Value}, lendC cs ps = some (ds, prs) → (∀ p l, (p, l) ∈ prs → β0 p = β l) → VRs β w Z cs us → VRs β0 w Z' ds us ∧ ∀ p l, (p, l) ∈ prs → p ∈ ps
  | [], ps, ds, prs, us, h, _, hv => by
    simp only [lendC] at h
    cases h
    exact ⟨hv, fun p l h => (by cases h)⟩
  | c :: cs, ps, ds, prs, us, h, hb, ⟨u, us', e, h1, h2, h3⟩ => by
    have plain : (bif plain1 c then match lendC cs ps with | some r => some (c :: r.1, r.2) | none => none else none) = some (ds, prs) → VRs β0 w Z' ds us ∧ ∀ p l, (p, l) ∈ prs → p ∈ ps := by
      intro h
      cases hp : plain1 c with
      | false => rw [hp] at h; cases h
      | true =>
        rw [hp] at h
        simp only [cond_true] at h
        split at h
        · rename_i r hr
          cases h
          obtain ⟨q1, q2⟩ := lendC_sound hZ hr hb h3
          exact ⟨⟨u, us', e, plain1_mono hp hZ h1, h2, q1⟩, q2⟩
        · cases h
    cases c with
    | ref l n =>
      cases ps with
      | nil => simp [lendC, plain1] at h
      | cons p ps2 =>
        simp only [lendC] at h
        split at h
        · rename_i r hr
          cases h
          obtain ⟨q1, q2⟩ := lendC_sound hZ hr (fun p l hm => hb p l (List.mem_cons_of_mem _ hm)) h3
          refine ⟨⟨u, us', e, ?_, h2, q1⟩, fun p' l' hm => ?_⟩
          · obtain ⟨b, k, n, g1, g2⟩ := h1
            exact ⟨b, k, n, by rw [hb p l (List.mem_cons_self ..)]; exact g1, g2⟩
          · rcases List.mem_cons.1 hm with e2 | hm
            · cases e2; exact List.mem_cons_self ..
            · exact List.mem_cons_of_mem _ (q2 p' l' hm)
        · cases h
    | _ =>
      simp only [lendC] at h
      exact plain h

theorem lendA_sound {β0 : Beta} {Z Z' : Nat → Prop} (hZ : ∀ g, Z g → Z' g) {v u0 : AVal} {prs : List (Loc × Loc)} {u : Value} (h : lendA v = some (u0, prs)) (hb : ∀ p l, (p, l) ∈ prs → β0 p = β l) (hv : VR β w Z v u) : VR β0 w Z' u0 u ∧ ∀ p l, (p, l) ∈ prs → p ∈ pinL := by
  unfold lendA at h
  split at h
  · rename_i l o
    cases h
    obtain ⟨b, k, n, g1, g2⟩ := hv
    exact ⟨⟨b, k, n, by rw [hb 3 l (List.mem_cons_self ..)]; exact g1, g2⟩, fun p l' hm => by have e := List.mem_singleton.1 hm; cases e; decide⟩
  · rename_i l off
    cases ho : Nat.beq off 0 with
    | false => rw [ho] at h; cases h
    | true =>
      rw [ho] at h
      obtain rfl := Nat.eq_of_beq_eq_true ho
      cases h
      obtain ⟨g, k, n, g1, g2⟩ := hv
      exact ⟨⟨g, k, n, by rw [hb 3 l (List.mem_cons_self ..)]; exact g1, g2⟩, fun p l' hm => by have e := List.mem_singleton.1 hm; cases e; decide⟩
  · split at h
    · rename_i cs r hr
      cases h
      obtain ⟨us, rfl, hv⟩ := hv
      obtain ⟨q1, q2⟩ := lendC_sound hZ hr hb hv
      exact ⟨⟨us, rfl, q1⟩, q2⟩
    · cases h
  · cases h

theorem obj_block (R : Rel ti N X Y w0 β σ a w) {l : Loc} (ho : isObj (look σ l) = true) {g c len} (hb : β l = some (some g, c, len)) : g < w.heap.size := by
  have h1 := R.obj l
  cases hcell : look σ l with
  | row own e t xs =>
    rw [hcell] at h1
    obtain ⟨b, hb', ⟨_, hr⟩, _⟩ := h1
    rw [hb] at hb'
    cases hb'
    obtain ⟨cur, F, hh, _⟩ := hr
    exact (Array.getElem?_eq_some_iff.1 hh).1
  | mem own e cs =>
    rw [hcell] at h1
    obtain ⟨b, hb', ⟨g2, vs, e1, hh, _⟩, _⟩ := h1
    rw [hb] at hb'
    cases hb'
    cases e1
    exact (Array.getElem?_eq_some_iff.1 hh).1
  | deep e t k xs op => exact own_block R (by rw [hcell]; rfl) hb
  | dead => rw [hcell] at ho; cases ho
  | val v => rw [hcell] at ho; cases ho

/-- New own rows, all at once: memory has grown. -/
theorem Rel.newObjs (R : Rel ti N X Y w0 β σ a w) {l : Loc} {os : Ws} {bs : List (Option Nat × Nat × Nat)} (hk : Kept (fun _ => False) w w') (hodd : ∀ i t, l + 2 * i ≠ tmpL t) (hlen : os.length = bs.length)
    (hfr : ∀ i, i < bs.length → β (l + 2 * i) = none) {Z : Nat → Prop}
    (hos : ∀ (i : Nat) b, bs[i]? = some b → ∃ e u xs, os[i]? = some (l + 2 * i, .row true e u xs) ∧ RowOk w' Z e u xs b)
    (hZ : ∀ f, Z f → Zs Y (extB β l bs) (put σ os) w' f)
    (hnew : ∀ g c n, (some g, c, n) ∈ bs → w.heap.size ≤ g)
    (hdis : ∀ (i j : Nat) g c n c' n', bs[i]? = some (some g, c, n) → bs[j]? = some (some g, c', n') → i = j) :
    Rel ti N X Y w0 (extB β l bs) (put σ os) a w' ∧ ∀ g, Zs Y β σ w g → Zs Y (extB β l bs) (put σ os) w' g := by
  have hseq : ∀ (i : Nat) p, os[i]? = some p → p.1 = l + 2 * i := by
    intro i p hp
    have hi : i < bs.length := by rw [← hlen]; exact (List.getElem?_eq_some_iff.1 hp).1
    obtain ⟨e, u, xs, h1, _⟩ := hos i _ (List.getElem?_eq_getElem hi)
    rw [hp] at h1
    cases h1
    rfl
  have hlk := seq_look (σ := σ) hseq
  have hβ := extB_ext (β := β) hfr
  have hkk : ∀ k, k < w.heap.size → w'.heap[k]? = w.heap[k]? := fun k h => hk.block k h (fun x => x)
  have hodd' : ∀ t i, i < os.length → tmpL t ≠ l + 2 * i := fun t i _ h => hodd i t h.symm
  -- own objects behind
  have hcase : ∀ l', isOwn (look (put σ os) l') = true → (∃ i, i < bs.length ∧ l' = l + 2 * i ∧ extB β l bs l' = bs[i]?) ∨ (isOwn (look σ l') = true ∧ extB β l bs l' = β l') := by
    intro l' h
    rcases extB_at (β := β) bs l l' with ⟨i, h1, h2, h3⟩ | ⟨h1, h2⟩
    · exact .inl ⟨i, h1, h2, h3⟩
    · rcases hlk l' with ⟨i, p, g1, g2, g3⟩ | ⟨g1, g2⟩
      · exact absurd g2 (h1 i (by rw [← hlen]; exact (List.getElem?_eq_some_iff.1 g1).1))
      · rw [g2] at h; exact .inr ⟨h, h2⟩
  have hdp : ∀ l', isDeep (look (put σ os) l') = true → look (put σ os) l' = look σ l' := by
    intro l' hd
    rcases hlk l' with ⟨i, p, g1, g2, g3⟩ | ⟨g1, g2⟩
    · have hi : i < bs.length := by rw [← hlen]; exact (List.getElem?_eq_some_iff.1 g1).1
      obtain ⟨e, u, xs, h1, _⟩ := hos i _ (List.getElem?_eq_getElem hi)
      rw [g1] at h1
      cases h1
      rw [g3] at hd
      cases hd
    · exact g2
  have htop : ∀ l' g c n, isOwn (look (put σ os) l') = true → extB β l bs l' = some (some g, c, n) → (∃ l0 c0 n0, isOwn (look σ l0) = true ∧ β l0 = some (some g, c0, n0)) ∨ w.heap.size ≤ g := by
    intro l' g c n ho hb
    rcases hcase l' ho with ⟨i, h1, h2, h3⟩ | ⟨h1, h2⟩
    · rw [h3] at hb
      exact .inr (hnew g c n (List.mem_of_getElem? hb))
    · rw [h2] at hb
      exact .inl ⟨l', c, n, h1, hb⟩
  have hZ2 : ∀ k, Zs Y β σ w k → Zs Y (extB β l bs) (put σ os) w' k ∧ w'.heap[k]? = w.heap[k]? := fun k hk' => ⟨R.stepZ (extB_inn ..) hk.size hdp htop k hk', hkk k hk'.1.1⟩
  refine ⟨R.step hβ (extB_inn ..) (R.kept.trans ⟨hk.os, hk.tape, hk.output, hk.size, fun k h _ => hkk k h⟩) hk.size hZ2 (fun l' h => ⟨hdp l' h, fun f hf => hkk f (R.dlt (by rw [← hdp l' h]; exact h) hf)⟩) htop R.size R.dfr ?_ ?_ ?_, fun g hg => (hZ2 g hg).1⟩
  · intro t v h
    rcases hlk (tmpL t) with ⟨i, p, g1, g2, g3⟩ | ⟨g1, g2⟩
    · exact absurd g2.symm (hodd i t)
    · rw [g2] at h; exact .inl ⟨h, rfl⟩
  · intro l'
    rcases hlk l' with ⟨i, p, g1, g2, g3⟩ | ⟨g1, g2⟩
    · right
      have hi : i < bs.length := by rw [← hlen]; exact (List.getElem?_eq_some_iff.1 g1).1
      obtain ⟨e, u, xs, h1, h2⟩ := hos i _ (List.getElem?_eq_getElem hi)
      rw [g1] at h1
      cases h1
      rw [g3]
      refine ⟨bs[i], ?_, h2.mono (fun f hf => ⟨hZ f hf, rfl⟩) (fun _ _ => rfl), fun h => by cases h⟩
      rcases extB_at (β := β) bs l l' with ⟨j, q1, q2, q3⟩ | ⟨q1, q2⟩
      · have : i = j := by
          rw [g2] at q2
          exact Nat.eq_of_mul_eq_mul_left (show 0 < 2 by decide) (Nat.add_left_cancel q2)
        subst this
        rw [q3, List.getElem?_eq_getElem hi]
      · exact absurd g2 (q1 i hi)
    · rw [g2]
      exact .inl ⟨rfl, fun g c n ho hb => hkk g (own_block R ho hb)⟩
  · intro l1 l2 g c1 n1 c2 n2 ho1 ho2 hb1 hb2
    rcases hcase l1 ho1 with ⟨i, h1, h2, h3⟩ | ⟨h1, h2⟩ <;> rcases hcase l2 ho2 with ⟨j, q1, q2, q3⟩ | ⟨q1, q2⟩
    · rw [h3] at hb1
      rw [q3] at hb2
      rw [h2, q2, hdis i j g c1 n1 c2 n2 hb1 hb2]
    · rw [h3] at hb1
      rw [q2] at hb2
      have := hnew g c1 n1 (List.mem_of_getElem? hb1)
      have := own_block R q1 hb2
      omega
    · rw [h2] at hb1
      rw [q3] at hb2
      have := hnew g c2 n2 (List.mem_of_getElem? hb2)
      have := own_block R h1 hb1
      omega
    · rw [h2] at hb1
      rw [q2] at hb2
      exact R.apart l1 l2 g c1 n1 c2 n2 h1 q1 hb1 hb2

/-! ### new objects with own rows in them -/
def blk (p : (Option Nat × Nat × Nat) × List Nat) : List Nat := p.1.1.toList ++ p.2
def extDB (β : Beta) (l : Loc) : List ((Option Nat × Nat × Nat) × List Nat) → Beta
  | [] => β
  | p :: bs => ⟨fun m => if m = l then some p.1 else extDB β (l + 2) bs m, fun m => if m = l then p.2 else (extDB β (l + 2) bs).inn m⟩
theorem extDB_at (bs : List ((Option Nat × Nat × Nat) × List Nat)) : ∀ (l l' : Loc), (∃ i p, bs[i]? = some p ∧ l' = l + 2 * i ∧ extDB β l bs l' = some p.1 ∧ (extDB β l bs).inn l' = p.2) ∨ ((∀ i, i < bs.length → l' ≠ l + 2 * i) ∧ extDB β l bs l' = β l' ∧ (extDB β l bs).inn l' = β.inn l') := by
  induction bs with
  | nil => intro l l'; exact .inr ⟨fun i h => by simp at h, rfl, rfl⟩
  | cons b bs ih =>
    intro l l'
    have e1 : extDB β l (b :: bs) l' = if l' = l then some b.1 else extDB β (l + 2) bs l' := rfl
    have e2 : (extDB β l (b :: bs)).inn l' = if l' = l then b.2 else (extDB β (l + 2) bs).inn l' := rfl
    by_cases e : l' = l
    · exact .inl ⟨0, b, rfl, e, by rw [e1, if_pos e], by rw [e2, if_pos e]⟩
    · rw [e1, e2, if_neg e, if_neg e]
      rcases ih (l + 2) l' with ⟨i, p, h1, h2, h3, h4⟩ | ⟨h1, h2, h3⟩
      · exact .inl ⟨i + 1, p, by simpa using h1, by rw [h2, Nat.mul_add, Nat.mul_one, Nat.add_assoc, Nat.add_comm 2], h3, h4⟩
      · refine .inr ⟨fun i hi => ?_, h2, h3⟩
        cases i with
        | zero => exact e
        | succ i =>
          have := h1 i (by simpa using hi)
          rw [Nat.mul_add, Nat.mul_one]
          intro e3
          exact this (by rw [e3, Nat.add_assoc, Nat.add_comm 2])
theorem nd_flat : ∀ {bs : List ((Option Nat × Nat × Nat) × List Nat)} {i j : Nat} {p q} {g : Nat}, (bs.flatMap blk).Nodup → bs[i]? = some p → bs[j]? = some q → g ∈ blk p → g ∈ blk q → i = j
  | [], i, j, p, q, g, _, h, _, _, _ => by simp at h
  | b :: bs, i, j, p, q, g, hn, hi, hj, hp, hq => by
    rw [List.flatMap_cons, List.nodup_append] at hn
    obtain ⟨_, n2, n3⟩ := hn
    cases i with
    | zero =>
      cases j with
      | zero => rfl
      | succ j =>
        simp at hi hj
        subst hi
        exact absurd rfl (n3 g hp g (List.mem_flatMap.2 ⟨q, List.mem_of_getElem? hj, hq⟩))
    | succ i =>
      cases j with
      | zero =>
        simp at hi hj
        subst hj
        exact absurd rfl (n3 g hq g (List.mem_flatMap.2 ⟨p, List.mem_of_getElem? hi, hp⟩))
      | succ j => exact congrArg Nat.succ (nd_flat n2 (by simpa using hi) (by simpa using hj) hp hq)

/-- What is told of new objects. -/
def NewD (ti : TI) (w' : World) (l : Loc) (os : Ws) (bs : List ((Option Nat × Nat × Nat) × List Nat)) : Prop :=
  os.length = bs.length ∧ ∀ (i : Nat) p, bs[i]? = some p → ∃ c, os[i]? = some (l + 2 * i, c) ∧ isOwn c = true ∧ (isDeep c = false → p.2 = []) ∧ ∀ (β : Beta) (Z : Nat → Prop) l0, β l0 = some p.1 → (isDeep c = true → β.inn l0 = p.2) → CellOk ti β w' Z l0 c

theorem Rel.addD (R : Rel ti N X Y w0 β σ a w) {ws : Ws} {β1 : Beta} (hf1 : ∀ l, β1 l = β l) {l : Loc} {os : Ws} {bs : List ((Option Nat × Nat × Nat) × List Nat)} (hnew : NewD ti w' l os bs)
    (hodd : ∀ i t, l + 2 * i ≠ tmpL t) (hfr : ∀ i, i < bs.length → β (l + 2 * i) = none) (hnd : (bs.flatMap blk).Nodup) (hk : Kept (fun _ => False) w w')
    (hsh : ∀ l g, Owns β1 (put σ ws) l g → Owns β σ l g)
    (hsrc : ∀ f ∈ bs.flatMap blk, ((∃ l0, Owns β σ l0 f) ∧ ∀ l, ¬ Owns β1 (put σ ws) l f) ∨ w.heap.size ≤ f)
    (hws : ∀ l0, (look (put σ ws) l0 = look σ l0 ∧ β1.inn l0 = β.inn l0) ∨ ((∀ Z' : Nat → Prop, (∀ g, Zs Y β σ w g → Z' g) → CellOk ti (extDB β1 l bs) w' Z' l0 (look (put σ ws) l0)) ∧ ∀ v, look (put σ ws) l0 ≠ .val v)) :
    Rel ti N X Y w0 (extDB β1 l bs) (put (put σ ws) os) a w' ∧ ∀ g, Zs Y β σ w g → Zs Y (extDB β1 l bs) (put (put σ ws) os) w' g := by
  obtain ⟨hlen, hos⟩ := hnew
  have hseq : ∀ (i : Nat) p, os[i]? = some p → p.1 = l + 2 * i := by
    intro i p hp
    have hi : i < bs.length := by rw [← hlen]; exact (List.getElem?_eq_some_iff.1 hp).1
    obtain ⟨c, h1, _⟩ := hos i _ (List.getElem?_eq_getElem hi)
    rw [hp] at h1
    cases h1
    rfl
  have hlk := seq_look (σ := put σ ws) hseq
  -- the two kinds of places
  have hkind : ∀ l', (∃ i p c, bs[i]? = some p ∧ l' = l + 2 * i ∧ os[i]? = some (l', c) ∧ look (put (put σ ws) os) l' = c ∧ extDB β1 l bs l' = some p.1 ∧ (extDB β1 l bs).inn l' = p.2) ∨
      (look (put (put σ ws) os) l' = look (put σ ws) l' ∧ extDB β1 l bs l' = β l' ∧ (extDB β1 l bs).inn l' = β1.inn l' ∧ ∀ i, i < bs.length → l' ≠ l + 2 * i) := by
    intro l'
    rcases hlk l' with ⟨i, q, g1, g2, g3⟩ | ⟨g1, g2⟩
    · rcases extDB_at (β := β1) bs l l' with ⟨j, p, h1, h2, h3, h4⟩ | ⟨h1, _⟩
      · have hij : i = j := Nat.eq_of_mul_eq_mul_left (show 0 < 2 by decide) (Nat.add_left_cancel (g2.symm.trans h2))
        subst hij
        obtain ⟨c, k1, _⟩ := hos i p h1
        rw [g1] at k1
        cases k1
        exact .inl ⟨i, p, c, h1, h2, by rw [g1, h2], g3, h3, h4⟩
      · exact absurd g2 (h1 i (by rw [← hlen]; exact (List.getElem?_eq_some_iff.1 g1).1))
    · rcases extDB_at (β := β1) bs l l' with ⟨j, p, h1, h2, h3, h4⟩ | ⟨h1, h2, h3⟩
      · exact absurd h2 (g1 j (by rw [hlen]; exact (List.getElem?_eq_some_iff.1 h1).1))
      · exact .inr ⟨g2, by rw [h2, hf1], h3, h1⟩
  have hO : ∀ l' g, Owns (extDB β1 l bs) (put (put σ ws) os) l' g → (∃ i p, bs[i]? = some p ∧ l' = l + 2 * i ∧ g ∈ blk p) ∨ Owns β1 (put σ ws) l' g := by
    intro l' g h
    rcases hkind l' with ⟨i, p, c, h1, h2, h3, h4, h5, h6⟩ | ⟨h1, h2, h3, _⟩
    · refine .inl ⟨i, p, h1, h2, ?_⟩
      rcases h with ⟨_, cc, nn, q⟩ | ⟨_, q⟩
      · rw [h5] at q
        injection q with q
        exact List.mem_append_left _ (by rw [q]; exact List.mem_singleton.2 rfl)
      · rw [h6] at q; exact List.mem_append_right _ q
    · right
      unfold Owns at h ⊢
      rw [h1, h2, h3] at h
      rw [hf1]
      exact h
  have hflat : ∀ {i : Nat} {p} {g : Nat}, bs[i]? = some p → g ∈ blk p → g ∈ bs.flatMap blk := fun h1 h2 => List.mem_flatMap.2 ⟨_, List.mem_of_getElem? h1, h2⟩
  have hkk : ∀ k, k < w.heap.size → w'.heap[k]? = w.heap[k]? := fun k h => hk.block k h (fun x => x)
  have hown1 : ∀ l' g, Owns (extDB β1 l bs) (put (put σ ws) os) l' g → (∃ l0, Owns β σ l0 g) ∨ w.heap.size ≤ g := by
    intro l' g h
    rcases hO l' g h with ⟨i, p, h1, _, h3⟩ | h1
    · exact (hsrc g (hflat h1 h3)).imp (fun h => h.1) id
    · exact .inl ⟨l', hsh l' g h1⟩
  have hZ : ∀ g, Zs Y β σ w g → Zs Y (extDB β1 l bs) (put (put σ ws) os) w' g := R.stepGZ hk.size hown1
  have hcross : ∀ {i : Nat} {p} {g : Nat} {l'}, bs[i]? = some p → g ∈ blk p → Owns β1 (put σ ws) l' g → False := by
    intro i p g l' h1 h2 h3
    rcases hsrc g (hflat h1 h2) with ⟨_, h⟩ | h
    · exact h l' h3
    · have := R.owns_lt (hsh l' g h3); omega
  refine ⟨R.stepG ?_ (R.kept.trans ⟨hk.os, hk.tape, hk.output, hk.size, fun k h _ => hkk k h⟩) hk.size (fun g hg => hkk g hg.1.1) hown1 ?_ R.size R.dfr ?_ ?_, hZ⟩
  · intro l' b hb
    rcases hkind l' with ⟨i, p, c, h1, h2, _⟩ | ⟨_, h2, _⟩
    · rw [h2, hfr i (List.getElem?_eq_some_iff.1 h1).1] at hb; cases hb
    · rw [h2]; exact hb
  · intro l1 l2 g h1 h2
    rcases hO l1 g h1 with ⟨i, p, p1, p2, p3⟩ | p1 <;> rcases hO l2 g h2 with ⟨j, q, q1, q2, q3⟩ | q1
    · rw [p2, q2, nd_flat hnd p1 q1 p3 q3]
    · exact (hcross p1 p3 q1).elim
    · exact (hcross q1 q3 p1).elim
    · exact R.owns_apart (hsh l1 g p1) (hsh l2 g q1)
  · intro t v h
    rcases hkind (tmpL t) with ⟨i, p, c, _, h2, _⟩ | ⟨h1, _⟩
    · exact absurd h2.symm (hodd i t)
    · rw [h1] at h
      rcases hws (tmpL t) with ⟨h2, _⟩ | ⟨_, h2⟩
      · rw [h2] at h; exact .inl ⟨h, rfl⟩
      · exact absurd h (h2 v)
  · intro l'
    rcases hkind l' with ⟨i, p, c, h1, h2, h3, h4, h5, h6⟩ | ⟨h1, h2, h3, _⟩
    · right
      obtain ⟨c', k1, _, _, k4⟩ := hos i p h1
      rw [← h2] at k1
      rw [h3] at k1
      cases k1
      rw [h4]
      exact k4 _ _ l' h5 (fun _ => h6)
    · rw [h1]
      rcases hws l' with ⟨q1, q2⟩ | ⟨q1, _⟩
      · exact .inl ⟨q1, fun _ => by rw [h3, q2], fun g hg => hkk g (R.owns_lt hg)⟩
      · exact .inr (q1 _ hZ)

theorem RdO_flat : ∀ {t : Ty} {w : World} {x : T t} {cs F}, noSlice t = true → RdO w t x cs F → F = [] ∧ Rd w t x cs [] := by
  intro t
  induction t with
  | pair p q hp hq =>
    rintro w x cs F hn ⟨c1, c2, F1, F2, rfl, rfl, h1, h2⟩
    simp only [noSlice, Bool.and_eq_true] at hn
    obtain ⟨rfl, g1⟩ := hp hn.1 h1
    obtain ⟨rfl, g2⟩ := hq hn.2 h2
    exact ⟨rfl, c1, c2, [], [], rfl, rfl, g1, g2⟩
  | slice e t _ => intro w x cs F hn; cases hn
  | vslice e t _ => intro w x cs F hn; cases hn
  | int k => intro w x cs F _ h; exact ⟨h.2, h.1, rfl⟩
  | bool => intro w x cs F _ h; exact ⟨h.2, h.1, rfl⟩
  | str => intro w x cs F _ h; exact ⟨h.2, h.1, rfl⟩
theorem rowO_flat {t : Ty} (hn : noSlice t = true) {w : World} : ∀ {xs : List (T t)} {cs F}, rowR (RdO w t) xs cs F → F = [] ∧ rowR (Rd w t) xs cs []
  | [], cs, F, h => ⟨h.2, h.1, rfl⟩
  | x :: xs, _, _, ⟨c1, c2, F1, F2, rfl, rfl, h1, h2⟩ => by
    obtain ⟨rfl, g1⟩ := RdO_flat hn h1
    obtain ⟨rfl, g2⟩ := rowO_flat hn h2
    exact ⟨rfl, c1, c2, [], [], rfl, rfl, g1, g2⟩
theorem Rd_RdO : ∀ {t : Ty} {w : World} {x : T t} {cs F}, noSlice t = true → Rd w t x cs F → RdO w t x cs [] := by
  intro t
  induction t with
  | pair p q hp hq =>
    rintro w x cs F hn ⟨c1, c2, F1, F2, rfl, rfl, h1, h2⟩
    simp only [noSlice, Bool.and_eq_true] at hn
    exact ⟨c1, c2, [], [], rfl, rfl, hp hn.1 h1, hq hn.2 h2⟩
  | slice e t _ => intro w x cs F hn; cases hn
  | vslice e t _ => intro w x cs F hn; cases hn
  | int k => intro w x cs F _ h; exact ⟨h.1, rfl⟩
  | bool => intro w x cs F _ h; exact ⟨h.1, rfl⟩
  | str => intro w x cs F _ h; exact ⟨h.1, rfl⟩
theorem rowRd_RdO {t : Ty} (hn : noSlice t = true) {w : World} : ∀ {xs : List (T t)} {cs F}, rowR (Rd w t) xs cs F → rowR (RdO w t) xs cs []
  | [], cs, F, h => ⟨h.1, rfl⟩
  | x :: xs, _, _, ⟨c1, c2, F1, F2, rfl, rfl, h1, h2⟩ => ⟨c1, c2, [], [], rfl, rfl, Rd_RdO hn h1, rowRd_RdO hn h2⟩

/-- A content taken apart into objects. -/
theorem outCellsD_sound : ∀ {t : Ty} {x : T t} {cs : List Value} {F : List Nat} {l : Loc} {as os l'}, outCellsD t x l = (as, os, l') → RdO w' t x cs F → F.Nodup →
    ∃ bs, l' = l + 2 * bs.length ∧ F = bs.flatMap blk ∧ NewD ti w' l os bs ∧ ∀ β2 : Beta, (∀ (i : Nat) p, bs[i]? = some p → β2 (l + 2 * i) = some p.1) → ∀ Z2 : Nat → Prop, VRs β2 w' Z2 as cs := by
  intro t
  induction t with
  | pair p q hp hq =>
    intro x cs F l as os l' h hr hnd
    obtain ⟨c1, c2, F1, F2, rfl, rfl, h1, h2⟩ := hr
    simp only [outCellsD] at h
    rcases e1 : outCellsD p x.1 l with ⟨ca, oa, l1⟩
    rw [e1] at h
    simp only at h
    rcases e2 : outCellsD q x.2 l1 with ⟨cb, ob, l2⟩
    rw [e2] at h
    cases h
    rw [List.nodup_append] at hnd
    obtain ⟨b1, p1, rfl, ⟨p2, p3⟩, p4⟩ := hp e1 h1 hnd.1
    obtain ⟨b2, q1, rfl, ⟨q2, q3⟩, q4⟩ := hq e2 h2 hnd.2.1
    refine ⟨b1 ++ b2, by rw [q1, p1, List.length_append, Nat.mul_add, Nat.add_assoc], by rw [List.flatMap_append], ⟨by rw [List.length_append, List.length_append, p2, q2], ?_⟩, ?_⟩
    · intro i b hb
      by_cases hi : i < b1.length
      · rw [List.getElem?_append_left hi] at hb
        obtain ⟨c, g1, g2⟩ := p3 i b hb
        exact ⟨c, by rw [List.getElem?_append_left (by rw [p2]; exact hi)]; exact g1, g2⟩
      · rw [List.getElem?_append_right (by omega)] at hb
        obtain ⟨c, g1, g2⟩ := q3 _ b hb
        refine ⟨c, ?_, g2⟩
        rw [List.getElem?_append_right (by omega), p2, g1, p1]
        have : l + 2 * b1.length + 2 * (i - b1.length) = l + 2 * i := by
          rw [Nat.add_assoc, ← Nat.mul_add]
          congr 2
          omega
        rw [this]
    · intro β2 hβ2 Z2
      refine VRs_append (p4 β2 (fun i b hb => hβ2 i b ?_) Z2) (q4 β2 (fun i b hb => ?_) Z2)
      · rw [List.getElem?_append_left (List.getElem?_eq_some_iff.1 hb).1]; exact hb
      · have := hβ2 (b1.length + i) b (by rw [List.getElem?_append_right (by omega), Nat.add_sub_cancel_left]; exact hb)
        rw [Nat.mul_add, ← Nat.add_assoc, ← p1] at this
        exact this
  | slice e t _ =>
    intro xs cs F l as os l' h hr hnd
    obtain ⟨b, c, rfl, hb⟩ := hr
    simp only [outCellsD] at h
    have hval : ∀ bs : List Nat, ∀ β2 : Beta, (∀ (i : Nat) p, [((b, c, xs.length), bs)][i]? = some p → β2 (l + 2 * i) = some p.1) → ∀ Z2 : Nat → Prop,
        VRs β2 w' Z2 [.ref l none] [.slice (b.map fun g => ⟨g, 0, none⟩) xs.length (if b = none then 0 else c)] := by
      intro bs β2 hβ2 Z2
      refine ⟨_, [], rfl, ⟨b, c, xs.length, hβ2 0 _ rfl, ?_⟩, by cases b <;> rfl, rfl⟩
      cases b with
      | none => exact ⟨by rw [show xs = [] from hb.1]; rfl, by rw [show xs = [] from hb.1]; rfl, rfl⟩
      | some g => exact ⟨rfl, Nat.le_refl _, by obtain ⟨cur, F', _, h2, _⟩ := hb; exact h2⟩
    cases hns : noSlice t with
    | true =>
      rw [hns] at h
      simp only [cond_true] at h
      cases h
      refine ⟨[((b, c, xs.length), [])], rfl, ?_, ⟨rfl, ?_⟩, hval []⟩
      · cases b with
        | none => simp [blk, hb.2]
        | some g =>
          obtain ⟨cur, F', _, _, _, _, h5, rfl⟩ := hb
          obtain ⟨rfl, _⟩ := rowO_flat hns h5
          simp [blk]
      · intro i p hp
        cases i with
        | succ i => simp at hp
        | zero =>
          simp at hp
          subst hp
          refine ⟨_, rfl, rfl, fun _ => rfl, fun β Z l0 h0 _ => ⟨(b, c, xs.length), h0, ⟨rfl, ?_⟩, fun h => by cases h⟩⟩
          cases b with
          | none => exact hb.1
          | some g =>
            obtain ⟨cur, F', h1, h2, h3, h4, h5, _⟩ := hb
            obtain ⟨_, h6⟩ := rowO_flat hns h5
            exact ⟨cur, [], h1, h2, h3, h4, h6, by simp⟩
    | false =>
      rw [hns] at h
      simp only [cond_false] at h
      cases h
      have hI : ∃ I, F = blk ((b, c, xs.length), I) ∧ (b = none → I = []) := by
        cases b with
        | none => exact ⟨[], by simp [blk, hb.2], fun _ => rfl⟩
        | some g =>
          obtain ⟨cur, F', _, _, _, _, _, rfl⟩ := hb
          exact ⟨F', by simp [blk], fun h => by cases h⟩
      obtain ⟨I, rfl, hI0⟩ := hI
      refine ⟨[((b, c, xs.length), I)], rfl, by simp, ⟨rfl, ?_⟩, hval I⟩
      intro i p hp
      cases i with
      | succ i => simp at hp
      | zero =>
        simp at hp
        subst hp
        refine ⟨_, rfl, rfl, (fun h => by cases h), fun β Z l0 h0 hi => ⟨(b, c, xs.length), h0, ?_⟩⟩
        rw [hi rfl]
        refine ⟨rfl, ?_, ?_⟩
        · cases b with
          | none => rw [hI0 rfl]; simp
          | some g =>
            obtain ⟨cur, F', h1, h2, h3, h4, h5, h6⟩ := hb
            have : I = F' := by simpa [blk] using h6
            subst this
            exact rowR_blocks (p := fun g => g < w'.heap.size) (fun _ _ _ hr => RdO_lt hr) h5
        · cases b with
          | none => exact hb.1
          | some g =>
            obtain ⟨cur, F', h1, h2, h3, h4, h5, h6⟩ := hb
            have : I = F' := by simpa [blk] using h6
            subst this
            have hnd : (g :: I).Nodup := by simpa [blk] using hnd
            rw [List.nodup_cons] at hnd
            exact ⟨hnd.1, Nat.zero_le _, cur, h1, h2, h3, h4, I, by rw [Nat.zero_mul, List.drop_zero, List.drop_zero]; exact h5, hnd.2, fun _ h => h⟩
  | vslice e t _ => intro x cs F l as os l' h hr; exact hr.elim
  | int k =>
    intro x cs F l as os l' h hr _
    obtain ⟨rfl, rfl⟩ := hr
    cases h
    exact ⟨[], rfl, rfl, ⟨rfl, fun i p hp => by simp at hp⟩, fun β2 _ Z2 => ⟨_, [], rfl, rfl, rfl, rfl⟩⟩
  | bool =>
    intro x cs F l as os l' h hr _
    obtain ⟨rfl, rfl⟩ := hr
    cases h
    exact ⟨[], rfl, rfl, ⟨rfl, fun i p hp => by simp at hp⟩, fun β2 _ Z2 => ⟨_, [], rfl, rfl, rfl, rfl⟩⟩
  | str =>
    intro x cs F l as os l' h hr _
    obtain ⟨rfl, rfl⟩ := hr
    cases h
    exact ⟨[], rfl, rfl, ⟨rfl, fun i p hp => by simp at hp⟩, fun β2 _ Z2 => ⟨_, [], rfl, rfl, rfl, rfl⟩⟩

theorem locEq_eq : ∀ {a b : List Nat}, locEq a b = true → a = b
  | [], [], _ => rfl
  | [], _ :: _, h => by cases h
  | _ :: _, [], h => by cases h
  | x :: a, y :: b, h => by
    simp only [locEq, Bool.and_eq_true] at h
    rw [Nat.eq_of_beq_eq_true h.1, locEq_eq h.2]
theorem zip_mem : ∀ {prs : List (Loc × Loc)} {os : St} {l : Loc} {c : Cell}, os.map Prod.fst = prs.map Prod.fst → (l, c) ∈ (prs.map Prod.snd).zip (os.map Prod.snd) → ∃ p, (p, l) ∈ prs ∧ (p, c) ∈ os
  | [], os, l, c, _, h => by simp at h
  | (p, l') :: prs, [], l, c, e, h => by simp at e
  | (p, l') :: prs, (p', c') :: os, l, c, e, h => by
    simp only [List.map_cons, List.cons.injEq] at e
    obtain ⟨rfl, e⟩ := e
    simp only [List.map_cons, List.zip_cons_cons] at h
    rcases List.mem_cons.1 h with e2 | h
    · cases e2; exact ⟨p', List.mem_cons_self .., List.mem_cons_self ..⟩
    · obtain ⟨q, h1, h2⟩ := zip_mem e h
      exact ⟨q, List.mem_cons_of_mem _ h1, List.mem_cons_of_mem _ h2⟩
theorem zip_has : ∀ {prs : List (Loc × Loc)} {os : St} {p l : Loc}, os.map Prod.fst = prs.map Prod.fst → (p, l) ∈ prs → ∃ c, (l, c) ∈ (prs.map Prod.snd).zip (os.map Prod.snd)
  | [], os, p, l, _, h => by cases h
  | (p, l') :: prs, [], q, l, e, h => by simp at e
  | (p, l') :: prs, (p', c') :: os, q, l, e, h => by
    simp only [List.map_cons, List.cons.injEq] at e
    simp only [List.map_cons, List.zip_cons_cons]
    rcases List.mem_cons.1 h with e2 | h
    · cases e2; exact ⟨c', List.mem_cons_self ..⟩
    · obtain ⟨c, hc⟩ := zip_has e.2 h
      exact ⟨c, List.mem_cons_of_mem _ hc⟩

theorem op_callIO (hti : TiOk P ti) (R : Rel ti N X Y w0 β σ a w) (hodd2 : ∀ l, isObj (look σ l) = true → ∀ t, l ≠ tmpL t) {o : Oper} {new : Loc} (hd : ∀ t, o.dst = some t → t < N) {ws : Ws} {k : Nat} {c : Call} {f : Operand} (hc : c.callee = .value f) (ho : o.op = .call c)
    {n : FuncId} (hfe : a.eval f = .func (.func n) #[] #[]) {raw : Bool} {rts : List (Ty × Bool)} {rt : Ty} {io : IO rt} (hM : MeetsIO P n rts rt io.G) {fn : Func} (hfn : P.funcs[n]? = some fn) (hbody : fn.body.isNone = false) (hname : (fn.name == "runtime.NumGoroutine") = false)
    (h : (callIO ti raw rts rt io k new o.dst c.args.toList c.argTypes.toList).E σ ws) : Sound P ti N X Y w0 β σ a w o new ws := by
  unfold callIO at h
  rw [E_bind] at h
  obtain ⟨avs, h1, h2⟩ := h
  split at h2
  · rename_i v0 vs
    split at h2
    · rename_i u0 prs hl
      cases hcnd : (nodupN (prs.map Prod.snd) && (nodupN (prs.map Prod.fst) && (refsOf (.agg vs)).isEmpty)) with
      | false => rw [hcnd] at h2; exact (E_fail.1 h2).elim
      | true =>
      rw [hcnd] at h2
      simp only [cond_true, E_bind, E_ext] at h2
      obtain ⟨os, h3, xs, h4, r, h5, h6⟩ := h2
      have h5 := IO.G_of h5
      obtain ⟨cc0, r⟩ := r
      generalize hos' : io.out cc0 = os' at h5
      have h6 := h6
      simp only [hos'] at h6
      cases hcd2 : (locEq (os'.map Prod.fst) (prs.map Prod.fst) && (os'.all (fun p => pinned p.2 && okC ti p.2) && noSlice rt)) with
      | false => rw [hcd2] at h6; exact (E_fail.1 h6).elim
      | true =>
      rw [hcd2] at h6
      simp only [cond_true, E_ret] at h6
      subst h6
      simp only [Bool.and_eq_true] at hcnd hcd2
      obtain ⟨nd1, nd2, hem⟩ := hcnd
      obtain ⟨hle, hpin, hns⟩ := hcd2
      have hle := locEq_eq hle
      have hno : ∀ l, l ∉ refsOf (.agg vs) := by
        intro l hl
        cases he : refsOf (.agg vs) with
        | nil => rw [he] at hl; cases hl
        | cons x y => rw [he] at hem; cases hem
      obtain ⟨g1, g2⟩ := getAll_spec h3
      let β0 : Beta := ⟨fun m => match prs.find? (fun p => p.1 == m) with | some p => β p.2 | none => none, fun m => match prs.find? (fun p => p.1 == m) with | some p => β.inn p.2 | none => []⟩
      have hβ0 : ∀ p l, (p, l) ∈ prs → β0 p = β l := by
        intro p l hm
        show (match prs.find? (fun q => q.1 == p) with | some q => β q.2 | none => none) = β l
        cases hfd : prs.find? (fun q => q.1 == p) with
        | none =>
          have := List.find?_eq_none.1 hfd (p, l) hm
          simp at this
        | some q =>
          have h1 := List.mem_of_find?_eq_some hfd
          have h2 := List.find?_some hfd
          have : q = (p, l) := nodupN_spec nd2 q h1 (p, l) hm (by simpa using h2)
          rw [this]
      have hβi : ∀ p l, (p, l) ∈ prs → β0.inn p = β.inn l := by
        intro p l hm
        show (match prs.find? (fun q => q.1 == p) with | some q => β.inn q.2 | none => []) = β.inn l
        cases hfd : prs.find? (fun q => q.1 == p) with
        | none =>
          have := List.find?_eq_none.1 hfd (p, l) hm
          simp at this
        | some q =>
          have h1 := List.mem_of_find?_eq_some hfd
          have h2 := List.find?_some hfd
          have : q = (p, l) := nodupN_spec nd2 q h1 (p, l) hm (by simpa using h2)
          rw [this]
      have hOW : ∀ p l g, (p, l) ∈ prs → OwnW β0 (look σ l) p g → Owns β σ l g := by
        rintro p l g hm (⟨kk, nn, e1⟩ | ⟨e1, e2⟩)
        · exact .inl ⟨pinned_own (g2 p l hm).1, kk, nn, by rw [← hβ0 p l hm]; exact e1⟩
        · exact .inr ⟨e1, by rw [← hβi p l hm]; exact e2⟩
      -- the arguments
      obtain ⟨hlen, hva⟩ := opds_sound R h1
      obtain ⟨x0, args', hx⟩ : ∃ x0 args', c.args.toList = x0 :: args' := by
        cases hh : c.args.toList with
        | nil => rw [hh] at hlen; cases hlen
        | cons x y => exact ⟨x, y, rfl⟩
      rw [hx] at h1
      simp only [opds, E_bind, E_ret] at h1
      obtain ⟨v0', k1, vs', k2, k3⟩ := h1
      cases k3
      have hv0 := opd_sound R k1
      obtain ⟨q1, q2⟩ := lendA_sound (β0 := β0) (Z := Zs Y β σ w) (Z' := Zs Y β σ w) (fun _ h => h) hl hβ0 hv0
      have hrest : argsR w (Zs Y β σ w) xs (args'.map a.eval) := argsA_sound R (fun _ h => h) (L := fun _ => False) (fun l hl => hl.elim) (fun l hl => hl.elim) (fun l hl => hl.elim) k2 h4 (fun l hl => (hno l hl).elim)
      have hargs : argsB β0 w (Zs Y β σ w) (u0 :: xs.map (forgetA false)) (c.args.toList.map a.eval) := by
        rw [hx]
        exact ⟨_, _, rfl, q1, argsB_of (argsR_forget hrest)⟩
      have hfull : ∀ m, β0 m ≠ none → ∃ c, (m, c) ∈ os := by
        intro m hm
        have hm : (match prs.find? (fun q => q.1 == m) with | some q => β q.2 | none => none) ≠ none := hm
        cases hfd : prs.find? (fun q => q.1 == m) with
        | none => rw [hfd] at hm; exact absurd rfl hm
        | some q =>
          have h1 := List.mem_of_find?_eq_some hfd
          have h2 := List.find?_some hfd
          obtain ⟨q1, q2⟩ := q
          have h2 : q1 = m := by simpa using h2
          subst h2
          exact ⟨_, (g2 q1 q2 h1).2.2⟩
      have hlent : LentOk P β0 w (Zs Y β σ w) os := by
        refine ⟨fun p cc hm => ?_, fun p c1 c2 hm1 hm2 => ?_, fun p c1 p' c2 g hm1 hm2 e1 e2 => ?_, fun p c1 g hm e1 hz => ?_, hfull⟩
        · obtain ⟨l, m1, rfl⟩ := g1 p cc hm
          obtain ⟨m2, m3, _⟩ := g2 p l m1
          refine ⟨q2 p l m1, m2, ?_⟩
          have hcell := R.obj l
          cases hcl : look σ l with
          | row own e t xs =>
            rw [hcl] at hcell
            obtain ⟨b, b1, b2, _⟩ := hcell
            exact ⟨b, by rw [hβ0 p l m1]; exact b1, b2⟩
          | mem own e cs =>
            rw [hcl] at hcell m3 m2
            obtain ⟨b, b1, ⟨g, vs, b2, b3, b4, b5⟩, _⟩ := hcell
            obtain ⟨i, z, i1, i2, _⟩ := (hti.td e m3).info
            refine ⟨b, i, by rw [hβ0 p l m1]; exact b1, i1, g, vs, b2, b3, ?_, ?_⟩
            · have hpl : cs.all plain1 = true := by
                unfold pinned at m2
                cases own with
                | true => exact m2
                | false => cases m2
              exact VRs_plain (fun _ h => h) hpl b4
            · rw [i2]; exact b5
          | deep e t k xs op =>
            rw [hcl] at hcell m2
            obtain ⟨b, b1, b2⟩ := hcell
            refine ⟨b, by rw [hβ0 p l m1]; exact b1, ?_⟩
            rw [hβi p l m1]
            cases op with
            | none => exact b2.closed
            | some q => cases m2
          | dead => rw [hcl] at m2; cases m2
          | val v => rw [hcl] at m2; cases m2
        · obtain ⟨l1, m1, rfl⟩ := g1 p c1 hm1
          obtain ⟨l2, m2, rfl⟩ := g1 p c2 hm2
          have : ((p, l1) : Loc × Loc) = (p, l2) := nodupN_spec nd2 _ m1 _ m2 rfl
          cases this
          rfl
        · obtain ⟨l1, m1, rfl⟩ := g1 p c1 hm1
          obtain ⟨l2, m2, rfl⟩ := g1 p' c2 hm2
          have := R.owns_apart (hOW p l1 g m1 e1) (hOW p' l2 g m2 e2)
          have : ((p, l1) : Loc × Loc) = (p', l2) := nodupN_spec nd1 _ m1 _ m2 this
          cases this
          rfl
        · obtain ⟨l1, m1, rfl⟩ := g1 p c1 hm
          exact hz.no l1 (hOW p l1 g m1 e1)
      intro next Q hn
      have hmap : (c.args.map a.eval) = (c.args.toList.map a.eval).toArray := by rw [← Array.toList_map, Array.toArray_toList]
      have hcalls := hM k os _ os' r _ w (Zs Y β σ w) β0 (fun g h => h.1.1) h5 hargs hlent
      have hrun : (execOp a.eval o).run P w = .ok (.enter n (c.args.toList.map a.eval).toArray) w := by
        rw [← hmap]
        have hname' : ¬ fn.name = "runtime.NumGoroutine" := by simpa using hname
        have hbody' : ¬ fn.body = none := fun h => by rw [h] at hbody; cases hbody
        simp [execOp, ho, resolve, hc, hfe, Deferred.ofValue, invoke, callFunc, program, Sem.run, hfn, hname', hbody']
      unfold Oper.wp
      rw [hrun]
      show Calls P n _ w _
      refine hcalls.mono ?_
      rintro e w' ⟨cells', rfl, hcl, hone, hk, ⟨β1, hβ1, hcells, hcfrom, hcap⟩, G, hG1, hG2⟩
      show next (a.put o.dst (valOf rts cells')) w'
      generalize hws : (prs.map Prod.snd).zip (os'.map Prod.snd) = wsx
      have hzm : ∀ l cc, (l, cc) ∈ wsx → ∃ p, (p, l) ∈ prs ∧ (p, cc) ∈ os' := fun l cc hm => zip_mem hle (by rw [hws]; exact hm)
      have hzh : ∀ p l, (p, l) ∈ prs → ∃ cc, (l, cc) ∈ wsx := fun p l hm => by rw [← hws]; exact zip_has hle hm
      let βN : Beta := ⟨β.f, fun m => match prs.find? (fun p => p.2 == m) with | some p => β1.inn p.1 | none => β.inn m⟩
      have hNi : ∀ p l, (p, l) ∈ prs → βN.inn l = β1.inn p := by
        intro p l hm
        show (match prs.find? (fun q => q.2 == l) with | some q => β1.inn q.1 | none => β.inn l) = β1.inn p
        cases hfd : prs.find? (fun q => q.2 == l) with
        | none =>
          have := List.find?_eq_none.1 hfd (p, l) hm
          simp at this
        | some q =>
          have h1 := List.mem_of_find?_eq_some hfd
          have h2 := List.find?_some hfd
          have : q = (p, l) := nodupN_spec nd1 q h1 (p, l) hm (by simpa using h2)
          rw [this]
      have hNo : ∀ l, (∀ cc, (l, cc) ∉ wsx) → βN.inn l = β.inn l := by
        intro l hl
        show (match prs.find? (fun q => q.2 == l) with | some q => β1.inn q.1 | none => β.inn l) = β.inn l
        cases hfd : prs.find? (fun q => q.2 == l) with
        | none => rfl
        | some q =>
          have h1 := List.mem_of_find?_eq_some hfd
          have h2 := List.find?_some hfd
          obtain ⟨p, l'⟩ := q
          have h2 : l' = l := by simpa using h2
          subst h2
          obtain ⟨cc, h3⟩ := hzh p l' h1
          exact absurd h3 (hl cc)
      have hlentO : ∀ g, lentB β0 os g → ∃ l cc, (l, cc) ∈ wsx ∧ Owns β σ l g := by
        rintro g ⟨p, cc, m1, e1⟩
        obtain ⟨l, m2, rfl⟩ := g1 p cc m1
        obtain ⟨c2, m3⟩ := hzh p l m2
        exact ⟨l, c2, m3, hOW p l g m2 e1⟩
      -- what a lent place owns behind
      have hOB : ∀ p l cc g, (p, l) ∈ prs → (p, cc) ∈ os' → (l, cc) ∈ wsx → Owns βN (put σ wsx) l g → OwnW β1 cc p g := by
        intro p l cc g m1 m2 m3 h
        have hlk : look (put σ wsx) l = cc := by
          rcases put_look (ws := wsx) (σ := σ) (l := l) with ⟨c2, h1, h2⟩ | ⟨h1, _⟩
          · obtain ⟨p2, n1, n2⟩ := hzm l c2 h1
            have : ((p2, l) : Loc × Loc) = (p, l) := nodupN_spec nd1 _ n1 _ m1 rfl
            cases this
            have hk1 : ((p, c2) : Loc × Cell) = (p, cc) := by
              have nd3 : nodupN (os'.map Prod.fst) = true := by rw [hle]; exact nd2
              exact nodupN_spec nd3 _ n2 _ m2 rfl
            cases hk1
            exact h2
          · exact absurd m3 (h1 cc)
        rcases h with ⟨_, kk, nn, h2⟩ | ⟨h1, h2⟩
        · exact .inl ⟨kk, nn, by rw [hβ1, hβ0 p l m1]; exact h2⟩
        · rw [hlk] at h1
          rw [hNi p l m1] at h2
          exact .inr ⟨h1, h2⟩
      have hOB2 : ∀ p cc g, (p, cc) ∈ os' → OwnW β1 cc p g → ∃ l, Owns βN (put σ wsx) l g := by
        intro p cc g m2 h
        have hpm : p ∈ prs.map Prod.fst := by rw [← hle]; exact List.mem_map_of_mem (f := Prod.fst) m2
        obtain ⟨⟨p', l⟩, m1, e⟩ := List.mem_map.1 hpm
        have e : p' = p := e
        subst e
        obtain ⟨c3, m3⟩ := hzh p' l m1
        obtain ⟨p3, n1, n2⟩ := hzm l c3 m3
        have : ((p3, l) : Loc × Loc) = (p', l) := nodupN_spec nd1 _ n1 _ m1 rfl
        cases this
        have nd3 : nodupN (os'.map Prod.fst) = true := by rw [hle]; exact nd2
        have hk1 : ((p', c3) : Loc × Cell) = (p', cc) := nodupN_spec nd3 _ n2 _ m2 rfl
        cases hk1
        have hlk : look (put σ wsx) l = cc := by
          rcases put_look (ws := wsx) (σ := σ) (l := l) with ⟨c2, h1, h2⟩ | ⟨h1, _⟩
          · obtain ⟨p2, n3, n4⟩ := hzm l c2 h1
            have : ((p2, l) : Loc × Loc) = (p', l) := nodupN_spec nd1 _ n3 _ m1 rfl
            cases this
            have hk1 : ((p', c2) : Loc × Cell) = (p', cc) := nodupN_spec nd3 _ n4 _ m2 rfl
            cases hk1
            exact h2
          · exact absurd m3 (h1 cc)
        refine ⟨l, ?_⟩
        rcases h with ⟨kk, nn, h2⟩ | ⟨h1, h2⟩
        · rw [hβ1, hβ0 p' l m1] at h2
          exact .inl ⟨by rw [hlk]; exact pinned_own (hcells p' cc m2).2.1, kk, nn, h2⟩
        · exact .inr ⟨by rw [hlk]; exact h1, by rw [hNi p' l m1]; exact h2⟩
      have hown : ∀ l cc, (l, cc) ∈ wsx → isOwn (look σ l) = true ∧ isOwn cc = true ∧ ∀ t, l ≠ tmpL t := by
        intro l cc hm
        obtain ⟨p, m1, m2⟩ := hzm l cc hm
        have ho1 := pinned_own (g2 p l m1).1
        refine ⟨ho1, pinned_own (hcells p cc m2).2.1, hodd2 l ?_⟩
        cases hcl : look σ l <;> rw [hcl] at ho1 <;> first | rfl | cases ho1
      obtain ⟨R1, hZ1⟩ := R.writeK (w' := w') (β' := βN) (ws := wsx) (fun l => rfl) hown hNo (by
        refine ⟨hk.os, hk.tape, hk.output, hk.size, fun g hg hx => hk.block g hg (fun h => hx (hlentO g h))⟩) (by
        intro l cc g hm hd hg
        obtain ⟨p, m1, m2⟩ := hzm l cc hm
        rw [hNi p l m1] at hg
        exact (hcfrom p cc g m2 (.inr ⟨hd, hg⟩)).imp (hlentO g) id) (by
        intro l c1 l' c2 g hm hm' h h'
        obtain ⟨p, m1, m2⟩ := hzm l c1 hm
        obtain ⟨p', m1', m2'⟩ := hzm l' c2 hm'
        have := hcap p c1 p' c2 g m2 m2' (hOB p l c1 g m1 m2 hm h) (hOB p' l' c2 g m1' m2' hm' h')
        subst this
        have : ((p, l) : Loc × Loc) = (p, l') := nodupN_spec nd2 _ m1 _ m1' rfl
        cases this
        rfl) (by
        intro Z' hz1 hz2 l cc hm
        obtain ⟨p, m1, m2⟩ := hzm l cc hm
        obtain ⟨_, m3, m4⟩ := hcells p cc m2
        have hZZ : ∀ g, (g < w'.heap.size ∧ (w.heap.size ≤ g ∨ Zs Y β σ w g ∨ lentB β0 os g) ∧ ∀ l c, (l, c) ∈ os' → ¬ OwnW β1 c l g) → Z' g := by
          intro g hg
          have hno : (w.heap.size ≤ g ∨ lentB β0 os g) → ∀ l, ¬ Owns βN (put σ wsx) l g := by
            intro hwho l2 ho2
            rcases put_look (ws := wsx) (σ := σ) (l := l2) with ⟨c2, h1, h2⟩ | ⟨h1, h2⟩
            · obtain ⟨p2, n1, n2⟩ := hzm l2 c2 h1
              exact hg.2.2 p2 c2 n2 (hOB p2 l2 c2 g n1 n2 h1 ho2)
            · have hold : Owns β σ l2 g := by
                unfold Owns at ho2 ⊢
                rw [h2, hNo l2 h1] at ho2
                exact ho2
              rcases hwho with h3 | h3
              · have := R.owns_lt hold; omega
              · obtain ⟨l3, c3, h4, h5⟩ := hlentO g h3
                have := R.owns_apart hold h5
                subst this
                exact h1 c3 h4
          rcases hg.2.1 with h | h | h
          · exact hz2 g (.inl h) hg.1 (hno (.inl h))
          · exact hz1 g h
          · obtain ⟨l3, _, _, h5⟩ := hlentO g h
            exact hz2 g (.inr ⟨l3, h5⟩) hg.1 (hno (.inr h))
        have hkn : okC ti cc = true := by
          have := List.all_eq_true.1 hpin (p, cc) m2
          simp only [Bool.and_eq_true] at this
          exact this.2
        cases cc with
        | row own e t xs =>
          obtain ⟨b, b1, b2⟩ := m4
          rw [hβ1, hβ0 p l m1] at b1
          exact ⟨b, b1, b2.mono (fun g hg => ⟨hZZ g hg, rfl⟩) (fun _ _ => rfl), fun h => by subst h; cases m3⟩
        | mem own e cs =>
          obtain ⟨b, i, b1, b2, g, vs, b3, b4, b5, b6⟩ := m4
          rw [hβ1, hβ0 p l m1] at b1
          obtain ⟨i', z, i1, i2, _⟩ := (hti.td e hkn).info
          rw [b2] at i1
          cases i1
          have hpl : cs.all plain1 = true := by
            unfold pinned at m3
            cases own with
            | true => exact m3
            | false => cases m3
          exact ⟨b, b1, ⟨g, vs, b3, b4, VRs_plain hZZ hpl b5, by rw [← i2]; exact b6⟩, fun h => by subst h; cases m3⟩
        | deep e t k xs op =>
          obtain ⟨b, b1, b2⟩ := m4
          rw [hβ1, hβ0 p l m1] at b1
          refine ⟨b, b1, ?_⟩
          rw [hNi p l m1]
          cases op with
          | none => exact b2.closed
          | some q => cases m3
        | dead => cases m3
        | val v => cases m3)
      have hGe : G = [] := Rd_flat hns hG1
      subst hGe
      rcases hout : outCells false rt r new with ⟨cs0, os0, l0⟩
      obtain ⟨rfl, rfl⟩ := outCells_frz hout
      have hv := valOf_sound (β := βN) (Z := Zs Y βN (put σ wsx) w') (VRs_cells (β := βN) hG1 (fun g hg => by cases hg)) hcl hone
      have R2 := R1.set hd hv
      rw [← put_append] at R2
      exact hn _ _ βN (by rw [hout, hws]; exact R2) (fun _ _ => rfl)
    · exact (E_fail.1 h2).elim
  · exact (E_fail.1 h2).elim

section
variable (hti : TiOk P ti) {env : Env} (henv : EnvOk P env) (R : Rel ti N X Y w0 β σ a w) {o : Oper} {new : Loc} (hd : ∀ t, o.dst = some t → t < N) {ws : Ws}
  (hodd : ∀ i t, new + 2 * i ≠ tmpL t) (hf : ∀ j, new ≤ j → j < new + 128 → β j = none)
include hti henv R hd hodd hf

theorem op_call (hodd2 : ∀ l, isObj (look σ l) = true → ∀ t, l ≠ tmpL t) {k : Nat} {c : Call} {f : Operand} (hc : c.callee = .value f) (ho : o.op = .call c) (h : ((opd f).bind fun
      | .fn f => match env f with
        | some s => match s.io with
          | some io => callIO ti s.raw s.rts s.rt io k new o.dst c.args.toList c.argTypes.toList
          | none => (opds c.args.toList).bind fun vs => (argsA ti s.raw (c.argTypes.toList) vs).bind fun xs =>
            Pr.ext (s.f k (xs.map (forgetA s.views))) fun r => bif s.deep then match outCellsD s.rt r new with
              | (cs, os, l') => bif Nat.ble l' (new + 128) then Pr.ret (os ++ setTmp o.dst (outVal s.rts cs)) else .fail
            else match outCells s.own s.rt r new with
              | (cs, os, l') => bif Nat.ble l' (new + 128) then bif flatR s.own s.rt then Pr.ret (os ++ setTmp o.dst (outVal s.rts cs)) else
                (freezeD 3 (refsOf (.agg vs))).bind fun ws => .ret (ws ++ os ++ setTmp o.dst (outVal s.rts cs)) else .fail
        | none => .fail
      | _ => .fail).E σ ws) : Sound P ti N X Y w0 β σ a w o new ws := by
  rw [E_bind] at h
  obtain ⟨fv, h1, h2⟩ := h
  split at h2
  · rename_i n
    split at h2
    · rename_i S hS
      have hok := henv.ok n S hS
      have hfe : a.eval f = .func (.func n) #[] #[] := opd_sound R h1
      cases hio : S.io with
      | some io =>
        rw [hio] at h2 hok
        obtain ⟨hM, fn, hfn, hbody, hname⟩ := hok
        exact op_callIO hti R hodd2 hd hc ho hfe hM hfn hbody hname h2
      | none =>
      rw [hio] at h2 hok
      simp only [E_bind, E_ext] at h2
      obtain ⟨vs, h3, xs, h4, r, h5, h6⟩ := h2
      cases hdp : S.deep with
      | true =>
        rw [hdp] at h6
        rcases hout : outCellsD S.rt r new with ⟨cs, os, l'⟩
        rw [hout] at h6
        cases hble : Nat.ble l' (new + 128) with
        | false => simp only [hble] at h6; exact (E_fail.1 h6).elim
        | true =>
        simp only [hble, cond_true, E_ret] at h6
        subst h6
        have hble := Nat.le_of_ble_eq_true hble
        have hargs : argsR w (fun g => g < w.heap.size) (xs.map (forgetA S.views)) (c.args.toList.map a.eval) := argsR_forget
          (argsA_sound R (Z' := fun g => g < w.heap.size) (fun g hg => hg.1.1) (L := fun _ => True) (fun l _ ho g c len hb => obj_block R ho hb) (fun l _ hd g hg => R.dlt hd hg) (fun _ _ _ _ => trivial) h3 h4 (fun _ _ => trivial))
        intro next Q hn
        have hmap : (c.args.map a.eval) = (c.args.toList.map a.eval).toArray := by rw [← Array.toList_map, Array.toArray_toList]
        suffices hgoal : ∀ u w', Kept (fun _ => False) w w' → ResR S w w' (fun g => g < w.heap.size) r u → next (a.put o.dst u) w' by
          rcases hok with ⟨hM, fn, hfn, hbody, hname⟩ | hM
          · have hcalls := hM k _ r _ w _ (fun g h => h) h5 hargs
            have hrun : (execOp a.eval o).run P w = .ok (.enter n (c.args.toList.map a.eval).toArray) w := by
              rw [← hmap]
              have hname' : ¬ fn.name = "runtime.NumGoroutine" := by simpa using hname
              have hbody' : ¬ fn.body = none := fun h => by rw [h] at hbody; cases hbody
              simp [execOp, ho, resolve, hc, hfe, Deferred.ofValue, invoke, callFunc, program, Sem.run, hfn, hname', hbody']
            unfold Oper.wp
            rw [hrun]
            show Calls P n _ w _
            refine hcalls.mono ?_
            rintro e w' ⟨u, rfl, h8, h9⟩
            exact hgoal u w' h8 h9
          · obtain ⟨u, w', hu, h8, h9⟩ := hM k _ r _ w _ (fun g h => h) h5 hargs
            have hrun : (execOp a.eval o).run P w = .ok (.value u) w' := by
              rw [← hu, ← hmap]
              simp [execOp, ho, resolve, hc, hfe, Deferred.ofValue, invoke]
            unfold Oper.wp
            rw [hrun]
            exact hgoal u w' h8 h9
        rintro _ w' hk ⟨cells, rfl, hcl, hone, hres⟩
        show next (a.put o.dst (valOf S.rts cells)) w'
        rw [hdp, if_pos rfl] at hres
        obtain ⟨F, hR, hnd, hfresh⟩ := hres
        obtain ⟨bs, p1, rfl, p3, p4⟩ := outCellsD_sound (ti := ti) hout hR hnd
        have hbl : 2 * bs.length ≤ 128 := by
          rw [p1] at hble
          exact Nat.le_of_add_le_add_left hble
        have hfr : ∀ i, i < bs.length → β (new + 2 * i) = none := fun i hi => hf _ (Nat.le_add_right _ _) (Nat.add_lt_add_left (by omega) _)
        have hbs : ∀ (i : Nat) p, bs[i]? = some p → extDB β new bs (new + 2 * i) = some p.1 := by
          intro i p hp
          rcases extDB_at (β := β) bs new (new + 2 * i) with ⟨j, q, q1, q2, q3, _⟩ | ⟨q1, _⟩
          · have : i = j := Nat.eq_of_mul_eq_mul_left (show 0 < 2 by decide) (Nat.add_left_cancel q2)
            subst this
            rw [hp] at q1
            cases q1
            exact q3
          · exact absurd rfl (q1 i (List.getElem?_eq_some_iff.1 hp).1)
        obtain ⟨R2, _⟩ := R.addD (ws := []) (β1 := β) (fun _ => rfl) p3 hodd hfr hnd hk (fun _ _ h => h) (fun f hf => .inr (hfresh f hf)) (fun l0 => .inl ⟨rfl, rfl⟩)
        have hv := valOf_sound (p4 (extDB β new bs) hbs (Zs Y (extDB β new bs) (put (put σ []) os) w')) hcl hone
        have R3 := R2.set hd hv
        rw [put_nil, ← put_append] at R3
        refine hn _ _ _ R3 ?_
        intro l hl
        rcases extDB_at (β := β) bs new l with ⟨i, q, q1, q2, _⟩ | ⟨_, q2, _⟩
        · refine absurd ⟨?_, ?_⟩ hl
          · rw [q2]; exact Nat.le_add_right _ _
          · rw [q2]; exact Nat.add_lt_add_left (by have := (List.getElem?_eq_some_iff.1 q1).1; omega) _
        · exact q2
      | false =>
      rw [hdp] at h6
      simp only [cond_false] at h6
      rcases hout : outCells S.own S.rt r new with ⟨cs, os, l'⟩
      rw [hout] at h6
      cases hble : Nat.ble l' (new + 128) with
      | false => simp only [hble] at h6; exact (E_fail.1 h6).elim
      | true =>
      simp only [hble, cond_true] at h6
      have hble := Nat.le_of_ble_eq_true hble
      -- the state before: frozen or not; the places that a result may lie in
      have hpre : ∃ (ws1 : Ws) (Z0 : Nat → Prop), Rel ti N X Y w0 β (put σ ws1) a w ∧ (∀ g, Z0 g → g < w.heap.size) ∧ argsR w Z0 (xs.map (forgetA S.views)) (c.args.toList.map a.eval) ∧ ws = ws1 ++ os ++ setTmp o.dst (outVal S.rts cs) ∧
          ((flatR S.own S.rt = true) ∨ ∀ g, Z0 g → Zs Y β (put σ ws1) w g) := by
        cases hfl : flatR S.own S.rt with
        | true =>
          simp only [hfl, cond_true, E_ret] at h6
          refine ⟨[], fun g => g < w.heap.size, R, fun g h => h, ?_, by rw [← h6]; rfl, .inl rfl⟩
          refine argsR_forget ?_
          exact argsA_sound R (Z' := fun g => g < w.heap.size) (fun g hg => hg.1.1) (L := fun _ => True) (fun l _ ho g c len hb => obj_block R ho hb) (fun l _ hd g hg => R.dlt hd hg) (fun _ _ _ _ => trivial) h3 h4 (fun _ _ => trivial)
        | false =>
          simp only [hfl, cond_false, E_bind, E_ret] at h6
          obtain ⟨ws1, g1, rfl⟩ := h6
          obtain ⟨f1, f2, f3⟩ := freezeD_spec g1
          obtain ⟨R1, hZ1⟩ := R.frz f1
          refine ⟨ws1, Zs Y β (put σ ws1) w, R1, fun g h => h.1.1, ?_, rfl, .inr fun _ h => h⟩
          refine argsR_forget ?_
          exact argsA_sound R (Z' := Zs Y β (put σ ws1) w) hZ1 (L := fun l => l ∈ locsOf ws1) (fun l hl ho g c len hb => frz_Z R f1 hl ho hb) (fun l hl hd g hg => frz_Zi R f1 hl hd hg) (fun l hl l' hl' => f3 l hl l' hl') h3 h4 (fun l hl => f2 l hl)
      obtain ⟨ws1, Z0, R1, hZ0, hargs, rfl, hflat⟩ := hpre
      intro next Q hn
      have hmap : (c.args.map a.eval) = (c.args.toList.map a.eval).toArray := by rw [← Array.toList_map, Array.toArray_toList]
      suffices hgoal : ∀ u w', Kept (fun _ => False) w w' → ResR S w w' Z0 r u → next (a.put o.dst u) w' by
        rcases hok with ⟨hM, fn, hfn, hbody, hname⟩ | hM
        · have hcalls := hM k _ r _ w Z0 hZ0 h5 hargs
          have hrun : (execOp a.eval o).run P w = .ok (.enter n (c.args.toList.map a.eval).toArray) w := by
            rw [← hmap]
            have hname' : ¬ fn.name = "runtime.NumGoroutine" := by simpa using hname
            have hbody' : ¬ fn.body = none := fun h => by rw [h] at hbody; cases hbody
            simp [execOp, ho, resolve, hc, hfe, Deferred.ofValue, invoke, callFunc, program, Sem.run, hfn, hname', hbody']
          unfold Oper.wp
          rw [hrun]
          show Calls P n _ w _
          refine hcalls.mono ?_
          rintro e w' ⟨u, rfl, h8, h9⟩
          exact hgoal u w' h8 h9
        · obtain ⟨u, w', hu, h8, h9⟩ := hM k _ r _ w Z0 hZ0 h5 hargs
          have hrun : (execOp a.eval o).run P w = .ok (.value u) w' := by
            rw [← hu, ← hmap]
            simp [execOp, ho, resolve, hc, hfe, Deferred.ofValue, invoke]
          unfold Oper.wp
          rw [hrun]
          exact hgoal u w' h8 h9
      rintro _ w' hk ⟨cells, rfl, hcl, hone, hres⟩
      show next (a.put o.dst (valOf S.rts cells)) w'
      cases hown : S.own with
      | true =>
        rw [hown] at hout
        rw [hdp, if_neg (by simp), hown, if_pos rfl] at hres
        obtain ⟨bs, hR, hnew, hdis⟩ := hres
        obtain ⟨p1, p2, p3, p4⟩ := outCells_own hout hR
        have hbl : 2 * bs.length ≤ 128 := by
          rw [p1] at hble
          exact Nat.le_of_add_le_add_left hble
        have hfr : ∀ i, i < bs.length → β (new + 2 * i) = none := fun i hi => hf _ (Nat.le_add_right _ _) (Nat.add_lt_add_left (by omega) _)
        -- the inner places are safe
        have hbs : ∀ (i : Nat) b, bs[i]? = some b → extB β new bs (new + 2 * i) = some b := by
          intro i b hb
          rcases extB_at (β := β) bs new (new + 2 * i) with ⟨j, q1, q2, q3⟩ | ⟨q1, q2⟩
          · have : i = j := Nat.eq_of_mul_eq_mul_left (show 0 < 2 by decide) (Nat.add_left_cancel q2)
            subst this
            rw [q3, hb]
          · exact absurd rfl (q1 i (List.getElem?_eq_some_iff.1 hb).1)
        have hZ : ∃ Z : Nat → Prop, (∀ (i : Nat) b, bs[i]? = some b → ∃ e u xs, os[i]? = some (new + 2 * i, .row true e u xs) ∧ RowOk w' Z e u xs b) ∧ ∀ f, Z f → Zs Y (extB β new bs) (put (put σ ws1) os) w' f := by
          rcases hflat with hfl | hz
          · rw [hown] at hfl
            exact ⟨fun _ => False, fun i b hb => by
              obtain ⟨e, u, xs, g1, g2, g3⟩ := p3 i b hb
              exact ⟨e, u, xs, g1, RowOk_flat (g3 hfl) g2⟩, fun f h => h.elim⟩
          · refine ⟨_, fun i b hb => by
              obtain ⟨e, u, xs, g1, g2, g3⟩ := p3 i b hb
              exact ⟨e, u, xs, g1, g2⟩, ?_⟩
            rintro f ⟨h1, h2, h3⟩
            have hseq0 : ∀ (i : Nat) p, os[i]? = some p → p.1 = new + 2 * i ∧ isDeep p.2 = false := by
                intro i p hp
                have hi : i < bs.length := by rw [← p2]; exact (List.getElem?_eq_some_iff.1 hp).1
                obtain ⟨e, u, xs, g1, _⟩ := p3 i _ (List.getElem?_eq_getElem hi)
                rw [hp] at g1
                cases g1
                exact ⟨rfl, rfl⟩
            refine ⟨⟨h1, h2.elim (fun h => R1.yn f (Nat.le_trans R1.kept.size h)) (fun h => (hz f h).1.2)⟩, fun l c n hl hb => ?_, fun l hd hm => ?_⟩
            rotate_left
            · rw [extB_inn] at hm
              rcases seq_look (σ := put σ ws1) (fun i p hp => (hseq0 i p hp).1) l with ⟨i, p, g1, g2, g3⟩ | ⟨g1, g2⟩
              · rw [g3, (hseq0 i p g1).2] at hd; cases hd
              · rw [g2] at hd
                rcases h2 with h2 | h2
                · have := R1.dlt hd hm; omega
                · exact (hz f h2).3 l hd hm
            rcases extB_at (β := β) bs new l with ⟨i, q1, q2, q3⟩ | ⟨q1, q2⟩
            · rw [q3] at hb
              exact h3 c n (List.mem_of_getElem? hb)
            · rw [q2] at hb
              have hseq : ∀ (i : Nat) p, os[i]? = some p → p.1 = new + 2 * i := by
                intro i p hp
                have hi : i < bs.length := by rw [← p2]; exact (List.getElem?_eq_some_iff.1 hp).1
                obtain ⟨e, u, xs, g1, _⟩ := p3 i _ (List.getElem?_eq_getElem hi)
                rw [hp] at g1
                cases g1
                rfl
              rcases seq_look (σ := put σ ws1) hseq l with ⟨i, p, g1, g2, g3⟩ | ⟨g1, g2⟩
              · exact q1 i (by rw [← p2]; exact (List.getElem?_eq_some_iff.1 g1).1) g2
              · rw [g2] at hl
                rcases h2 with h2 | h2
                · have := own_block R1 hl hb
                  omega
                · exact (hz f h2).2 l c n hl hb
        obtain ⟨Z, hZ1, hZ2⟩ := hZ
        obtain ⟨R2, _⟩ := R1.newObjs hk hodd p2 hfr hZ1 hZ2 hnew hdis
        have hv := valOf_sound (p4 (extB β new bs) hbs (Zs Y (extB β new bs) (put (put σ ws1) os) w')) hcl hone
        have R3 := R2.set hd hv
        rw [← put_append, ← put_append] at R3
        refine hn _ _ _ (by rw [List.append_assoc]; exact R3) ?_
        intro l hl
        rcases extB_at (β := β) bs new l with ⟨i, q1, q2, q3⟩ | ⟨q1, q2⟩
        · refine absurd ⟨?_, ?_⟩ hl
          · rw [q2]; exact Nat.le_add_right _ _
          · rw [q2]; exact Nat.add_lt_add_left (by omega) _
        · exact q2
      | false =>
        rw [hown] at hout
        rw [hdp, if_neg (by simp), hown, if_neg (by simp)] at hres
        obtain ⟨F, hR, hF⟩ := hres
        obtain ⟨rfl, rfl⟩ := outCells_frz hout
        have hempty : Kept X w w' := ⟨hk.os, hk.tape, hk.output, hk.size, fun k h _ => hk.block k h (fun x => x)⟩
        have R2 := R1.newObjs (os := []) (bs := []) (l := new) hk hodd rfl (fun i hi => by simp at hi) (Z := fun _ => False) (fun i b hb => by simp at hb) (fun f h => h.elim) (fun g c n h => by simp at h) (fun i j g c n c' n' h => by simp at h)
        obtain ⟨R2, hZ2⟩ := R2
        have hFZ : ∀ f ∈ F, Zs Y β (put σ ws1) w' f := by
          rcases hflat with hfl | hz
          · rw [hown] at hfl
            rw [Rd_flat (flat_false hfl) hR]
            simp
          · intro f hf2
            obtain ⟨h1, h2⟩ := hF f hf2
            refine .of h1 (h2.elim (fun h => R1.yn f (Nat.le_trans R1.kept.size h)) (fun h => (hz f h).1.2)) (fun l ho => ?_)
            rcases h2 with h2 | h2
            · have := R1.owns_lt ho
              omega
            · exact (hz f h2).no l ho
        have hv := valOf_sound (VRs_cells (β := β) hR hFZ) hcl hone
        have R3 := Rel.set (β := β) (σ := put σ ws1) R2 hd hv
        rw [← put_append] at R3
        exact hn _ _ β (by rw [List.append_nil]; exact R3) (fun _ _ => rfl)
    · exact (E_fail.1 h2).elim
  · exact (E_fail.1 h2).elim
end
end
end Go.Proofs.YtchdegcfohegfaaE
