/- The engine, part 15: the call; every operation. -/
import Derived.Test.YtkahcjnkmbbplaaE14
namespace Go.Proofs.YtkahcjnkmbbplaaE
set_option linter.unusedVariables false
set_option linter.unusedSimpArgs false
set_option linter.unusedSectionVars false
open Pr

theorem seq_look : ∀ {os : Ws} {σ : St} {l : Loc}, (∀ (i : Nat) p, os[i]? = some p → p.1 = l + 2 * i) → ∀ l', (∃ i p, os[i]? = some p ∧ l' = l + 2 * i ∧ look (put σ os) l' = p.2) ∨ ((∀ i, i < os.length → l' ≠ l + 2 * i) ∧ look (put σ os) l' = look σ l')
  | [], σ, l, h, l' => .inr ⟨fun i hi => by simp at hi, rfl⟩
  | p :: os, σ, l, h, l' => by
    have h0 := h 0 p rfl
    rw [Nat.mul_zero, Nat.add_zero] at h0
    have h' : ∀ (i : Nat) q, os[i]? = some q → q.1 = (l + 2) + 2 * i := fun i q hq => by
      have := h (i + 1) q (by simpa using hq)
      rw [this, Nat.mul_add, Nat.mul_one, Nat.add_assoc, Nat.add_comm 2]
    rw [put_cons]
    rcases seq_look (σ := p :: σ) h' l' with ⟨i, q, g1, g2, g3⟩ | ⟨g1, g2⟩
    · exact .inl ⟨i + 1, q, by simpa using g1, by rw [g2, Nat.mul_add, Nat.mul_one, Nat.add_assoc, Nat.add_comm 2], g3⟩
    · by_cases e : p.1 = l'
      · refine .inl ⟨0, p, rfl, by rw [← e, h0]; rfl, ?_⟩
        rw [g2]
        obtain ⟨pl, pc⟩ := p
        rw [look_cons, if_pos e]
      · refine .inr ⟨fun i hi => ?_, ?_⟩
        · cases i with
          | zero => intro e2; exact e (by rw [h0, e2]; rfl)
          | succ i =>
            have := g1 i (by simpa using hi)
            rw [Nat.mul_add, Nat.mul_one]
            intro e2
            exact this (by rw [e2, Nat.add_assoc, Nat.add_comm 2])
        · rw [g2]
          obtain ⟨pl, pc⟩ := p
          rw [look_cons, if_neg e]

theorem Rd_flat : ∀ {t : Ty} {w : World} {x : T t} {cs F}, noSlice t = true → Rd w t x cs F → F = [] := by
  intro t
  induction t with
  | pair p q hp hq =>
    rintro w x cs F hn ⟨c1, c2, F1, F2, _, rfl, h1, h2⟩
    simp only [noSlice, Bool.and_eq_true] at hn
    rw [hp hn.1 h1, hq hn.2 h2]
    rfl
  | slice e t _ => intro w x cs F hn; cases hn
  | vslice e t _ => intro w x cs F hn; cases hn
  | int k => intro w x cs F _ h; exact h.2
  | bool => intro w x cs F _ h; exact h.2
  | str => intro w x cs F _ h; exact h.2

theorem flat_false : ∀ {t : Ty}, flatR false t = true → noSlice t = true := by
  intro t
  induction t with
  | pair p q hp hq => intro h; simp only [flatR, noSlice, Bool.and_eq_true] at h ⊢; exact ⟨hp h.1, hq h.2⟩
  | slice e t _ => intro h; simp [flatR] at h
  | vslice e t _ => intro h; simp [flatR] at h
  | _ => intro _; rfl

theorem RowOk_flat {w : World} {Z Z' : Nat → Prop} {e : TypeId} {t : Ty} {xs : List (T t)} {b} (hn : noSlice t = true) (h : RowOk w Z e t xs b) : RowOk w Z' e t xs b := by
  obtain ⟨h1, h2⟩ := h
  refine ⟨h1, ?_⟩
  cases hb : b.1 with
  | none => rw [hb] at h2; exact h2
  | some g =>
    rw [hb] at h2
    obtain ⟨cur, F, h3, h4, h5, h6, h7, h8⟩ := h2
    have hF : ∀ {xs : List (T t)} {cs F}, rowR (Rd w t) xs cs F → F = [] := by
      intro xs
      induction xs with
      | nil => intro cs F h; exact h.2
      | cons x xs ih =>
        rintro cs F ⟨c1, c2, F1, F2, _, rfl, g1, g2⟩
        rw [Rd_flat hn g1, ih g2]
        rfl
    have := hF h7
    subst this
    exact ⟨cur, [], h3, h4, h5, h6, h7, by simp⟩

section
variable {P : Program} {ti : TI} {N : Nat} {X Y : Nat → Prop} {w0 w w' : World} {β β' : Beta} {σ σ' : St} {a a' : Act}

theorem plain1_mono {v : AVal} (h : plain1 v = true) {Z Z' : Nat → Prop} (hZ : ∀ g, Z g → Z' g) {u : Value} (hv : VR1 β w Z v u) : VR1 β' w Z' v u := by
  cases v <;> first | (cases h; done) | skip
  case slc e t xs => obtain ⟨F, h1, h2⟩ := hv; exact ⟨F, h1, fun g hg => hZ g (h2 g hg)⟩
  case vslc e t xs n => obtain ⟨F, h1, h2⟩ := hv; exact ⟨F, h1, fun g hg => hZ g (h2 g hg)⟩
  case fptr t x => obtain ⟨ad, cs, F, h1, h2, h3, h4, h5⟩ := hv; exact ⟨ad, cs, F, h1, h2, h3, hZ _ h4, fun g hg => hZ g (h5 g hg)⟩
  all_goals exact hv

theorem pinned_own {c : Cell} (h : pinned c = true) : isOwn c = true := by
  unfold pinned at h
  split at h
  · rfl
  · rfl
  · cases h
theorem VRs_plain {Z Z' : Nat → Prop} (hZ : ∀ g, Z g → Z' g) : ∀ {cs : List AVal} {vs : List Value}, cs.all plain1 = true → VRs β w Z cs vs → VRs β' w Z' cs vs
  | [], vs, _, h => h
  | c :: cs, vs, hp, ⟨u, us, e, h1, h2, h3⟩ => by
    rw [List.all_cons, Bool.and_eq_true] at hp
    exact ⟨u, us, e, plain1_mono hp.1 hZ h1, h2, VRs_plain hZ hp.2 h3⟩

theorem put_look : ∀ {ws : Ws} {σ : St} {l : Loc}, (∃ c, (l, c) ∈ ws ∧ look (put σ ws) l = c) ∨ ((∀ c, (l, c) ∉ ws) ∧ look (put σ ws) l = look σ l)
  | [], σ, l => .inr ⟨fun c h => (by cases h), rfl⟩
  | (l', c') :: ws, σ, l => by
    rw [put_cons]
    rcases put_look (ws := ws) (σ := (l', c') :: σ) (l := l) with ⟨c, h1, h2⟩ | ⟨h1, h2⟩
    · exact .inl ⟨c, List.mem_cons_of_mem _ h1, h2⟩
    · by_cases e : l' = l
      · subst e
        exact .inl ⟨c', List.mem_cons_self .., by rw [h2, look_cons, if_pos rfl]⟩
      · refine .inr ⟨fun c h => ?_, by rw [h2, look_cons, if_neg e]⟩
        rcases List.mem_cons.1 h with e2 | h
        · cases e2; exact e rfl
        · exact h1 c h

/-- Own objects are written by another; all else stays. -/
theorem Rel.writeK (R : Rel ti N X Y w0 β σ a w) {ws : Ws} (hown : ∀ l c, (l, c) ∈ ws → isOwn (look σ l) = true ∧ isOwn c = true ∧ ∀ t, l ≠ tmpL t)
    (hk : Kept (fun g => ∃ l c k n, (l, c) ∈ ws ∧ β l = some (some g, k, n)) w w')
    (hc : ∀ Z' : Nat → Prop, (∀ k, Zs Y β σ w k → Z' k) → (∀ k, w.heap.size ≤ k → k < w'.heap.size → Z' k) → ∀ l c, (l, c) ∈ ws → CellOk ti β w' Z' l c) :
    Rel ti N X Y w0 β (put σ ws) a w' ∧ (∀ k, Zs Y β σ w k → Zs Y β (put σ ws) w' k ∧ w'.heap[k]? = w.heap[k]?) ∧ (∀ k, w.heap.size ≤ k → k < w'.heap.size → Zs Y β (put σ ws) w' k) := by
  have ho : ∀ l, isOwn (look (put σ ws) l) = true → isOwn (look σ l) = true := by
    intro l h
    rcases put_look (ws := ws) (σ := σ) (l := l) with ⟨c, h1, h2⟩ | ⟨h1, h2⟩
    · exact (hown l c h1).1
    · rw [h2] at h; exact h
  have hnl : ∀ k, Zs Y β σ w k → ¬ ∃ l c k' n, (l, c) ∈ ws ∧ β l = some (some k, k', n) := by
    rintro k hk' ⟨l, c, k', n, h1, h2⟩
    exact hk'.2 l k' n (hown l c h1).1 h2
  have hsame : ∀ k, Zs Y β σ w k → w'.heap[k]? = w.heap[k]? := fun k h => hk.block k h.1.1 (hnl k h)
  have hZ : ∀ k, Zs Y β σ w k → Zs Y β (put σ ws) w' k ∧ w'.heap[k]? = w.heap[k]? :=
    fun k h => ⟨⟨⟨Nat.lt_of_lt_of_le h.1.1 hk.size, h.1.2⟩, fun l c n hl => h.2 l c n (ho l hl)⟩, hsame k h⟩
  have hnew : ∀ k, w.heap.size ≤ k → k < w'.heap.size → Zs Y β (put σ ws) w' k := fun k h1 h2 =>
    ⟨⟨h2, R.yn k (Nat.le_trans R.kept.size h1)⟩, fun l c n hl hb => by have := own_block R (ho l hl) hb; omega⟩
  refine ⟨R.step (fun _ _ h => h) ⟨hk.os.trans R.kept.os, hk.tape.trans R.kept.tape, hk.output.trans R.kept.output, Nat.le_trans R.kept.size hk.size, fun k hlt hx => ?_⟩ hZ R.size R.dfr ?_ ?_
    (fun l g c n h => R.new l g c n (ho l h)) (fun l1 l2 g c1 n1 c2 n2 h1 h2 => R.apart l1 l2 g c1 n1 c2 n2 (ho l1 h1) (ho l2 h2)), hZ, hnew⟩
  · refine (hk.block k (Nat.lt_of_lt_of_le hlt R.kept.size) ?_).trans (R.kept.block k hlt hx)
    rintro ⟨l, c, k', n, h1, h2⟩
    rcases R.new l k k' n (hown l c h1).1 h2 with h | h
    · omega
    · exact hx h
  · intro t v hv
    rcases put_look (ws := ws) (σ := σ) (l := tmpL t) with ⟨c, h1, h2⟩ | ⟨h1, h2⟩
    · exact absurd rfl ((hown _ c h1).2.2 t)
    · rw [h2] at hv; exact .inl ⟨hv, rfl⟩
  · intro l
    rcases put_look (ws := ws) (σ := σ) (l := l) with ⟨c, h1, h2⟩ | ⟨h1, h2⟩
    · rw [h2]; exact .inr (hc _ (fun k h => (hZ k h).1) hnew l c h1)
    · rw [h2]
      refine .inl ⟨rfl, fun g c n hl hb => hk.block g (own_block R hl hb) ?_⟩
      rintro ⟨l', c', k', n', h3, h4⟩
      have := R.apart l l' g c n k' n' hl (hown l' c' h3).1 hb h4
      subst this
      exact h1 c' h3

theorem nodupN_spec {α : Type} {f : α → Nat} : ∀ {ls : List α}, nodupN (ls.map f) = true → ∀ x ∈ ls, ∀ y ∈ ls, f x = f y → x = y
  | [], _, x, hx => by cases hx
  | z :: ls, h, x, hx => by
    intro y hy e
    simp only [List.map_cons, nodupN, Bool.and_eq_true, Bool.not_eq_true'] at h
    have hn : ∀ u ∈ ls, f u ≠ f z := by
      intro u hu e2
      have : memN (f z) (ls.map f) = true := memN_iff.2 (by rw [← e2]; exact List.mem_map_of_mem hu)
      rw [h.1] at this; cases this
    rcases List.mem_cons.1 hx with hx1 | hx1 <;> rcases List.mem_cons.1 hy with hy1 | hy1
    · rw [hx1, hy1]
    · rw [hx1] at e; exact absurd e.symm (hn y hy1)
    · rw [hy1] at e; exact absurd e (hn x hx1)
    · exact nodupN_spec h.2 x hx1 y hy1 e

theorem getAll_spec : ∀ {prs : List (Loc × Loc)} {os : St}, (getAll ti prs).E σ os → (∀ p c, (p, c) ∈ os → ∃ l, (p, l) ∈ prs ∧ c = look σ l) ∧ (∀ p l, (p, l) ∈ prs → pinned (look σ l) = true ∧ okC ti (look σ l) = true ∧ (p, look σ l) ∈ os)
  | [], os, h => by
    rw [getAll, E_ret] at h
    subst h
    exact ⟨fun p c h => (by cases h), fun p l h => (by cases h)⟩
  | (p, l) :: r, os, h => by
    rw [getAll, E_get] at h
    cases hp : pinned (look σ l) && okC ti (look σ l) with
    | false => rw [hp] at h; exact (E_fail.1 h).elim
    | true =>
      rw [hp] at h
      simp only [cond_true, E_bind, E_ret] at h
      obtain ⟨os2, h1, rfl⟩ := h
      rw [Bool.and_eq_true] at hp
      obtain ⟨g1, g2⟩ := getAll_spec h1
      constructor
      · intro p' c hm
        rcases List.mem_cons.1 hm with e | hm
        · cases e; exact ⟨l, List.mem_cons_self .., rfl⟩
        · obtain ⟨l', q1, q2⟩ := g1 p' c hm
          exact ⟨l', List.mem_cons_of_mem _ q1, q2⟩
      · intro p' l' hm
        rcases List.mem_cons.1 hm with e | hm
        · cases e; exact ⟨hp.1, hp.2, List.mem_cons_self ..⟩
        · obtain ⟨q1, q2, q3⟩ := g2 p' l' hm
          exact ⟨q1, q2, List.mem_cons_of_mem _ q3⟩

theorem lendC_sound {β0 : Beta} {Z Z' : Nat → Prop} (hZ : ∀ g, Z g → Z' g) : ∀ {cs : List AVal} {ps : List Loc} {ds : List AVal} {prs : List (Loc × Loc)} {us : List Value}, lendC cs ps = some (ds, prs) → (∀ p l, (p, l) ∈ prs → β0 p = β l) → VRs β w Z cs us → VRs β0 w Z' ds us ∧ ∀ p l, (p, l) ∈ prs → p ∈ ps
  | [], ps, ds, prs, us, h, _, hv => by
    simp only [lendC] at h
    cases h
    exact ⟨hv, fun p l h => (by cases h)⟩
  | c :: cs, ps, ds, prs, us, h, hb, ⟨u, us', e, h1, h2, h3⟩ => by
    have plain : (bif plain1 c then match lendC cs ps with | some r => some (c :: r.1, r.2) | none => none else none) = some (ds, prs) → VRs β0 w Z' ds us ∧ ∀ p l, (p, l) ∈ prs → p ∈ ps := by
      intro h
      cases hp : plain1 c with
      | false => rw [hp] at h; cases h
      | true =>
        rw [hp] at h
        simp only [cond_true] at h
        split at h
        · rename_i r hr
          cases h
          obtain ⟨q1, q2⟩ := lendC_sound hZ hr hb h3
          exact ⟨⟨u, us', e, plain1_mono hp hZ h1, h2, q1⟩, q2⟩
        · cases h
    cases c with
    | ref l n =>
      cases ps with
      | nil => simp [lendC, plain1] at h
      | cons p ps2 =>
        simp only [lendC] at h
        split at h
        · rename_i r hr
          cases h
          obtain ⟨q1, q2⟩ := lendC_sound hZ hr (fun p l hm => hb p l (List.mem_cons_of_mem _ hm)) h3
          refine ⟨⟨u, us', e, ?_, h2, q1⟩, fun p' l' hm => ?_⟩
          · obtain ⟨b, k, n, g1, g2⟩ := h1
            exact ⟨b, k, n, by rw [hb p l (List.mem_cons_self ..)]; exact g1, g2⟩
          · rcases List.mem_cons.1 hm with e2 | hm
            · cases e2; exact List.mem_cons_self ..
            · exact List.mem_cons_of_mem _ (q2 p' l' hm)
        · cases h
    | _ =>
      simp only [lendC] at h
      exact plain h

theorem lendA_sound {β0 : Beta} {Z Z' : Nat → Prop} (hZ : ∀ g, Z g → Z' g) {v u0 : AVal} {prs : List (Loc × Loc)} {u : Value} (h : lendA v = some (u0, prs)) (hb : ∀ p l, (p, l) ∈ prs → β0 p = β l) (hv : VR β w Z v u) : VR β0 w Z' u0 u ∧ ∀ p l, (p, l) ∈ prs → p ∈ pinL := by
  unfold lendA at h
  split at h
  · rename_i l o
    cases h
    obtain ⟨b, k, n, g1, g2⟩ := hv
    exact ⟨⟨b, k, n, by rw [hb 3 l (List.mem_cons_self ..)]; exact g1, g2⟩, fun p l' hm => by have e := List.mem_singleton.1 hm; cases e; decide⟩
  · rename_i l off
    cases ho : Nat.beq off 0 with
    | false => rw [ho] at h; cases h
    | true =>
      rw [ho] at h
      obtain rfl := Nat.eq_of_beq_eq_true ho
      cases h
      obtain ⟨g, k, n, g1, g2⟩ := hv
      exact ⟨⟨g, k, n, by rw [hb 3 l (List.mem_cons_self ..)]; exact g1, g2⟩, fun p l' hm => by have e := List.mem_singleton.1 hm; cases e; decide⟩
  · split at h
    · rename_i cs r hr
      cases h
      obtain ⟨us, rfl, hv⟩ := hv
      obtain ⟨q1, q2⟩ := lendC_sound hZ hr hb hv
      exact ⟨⟨us, rfl, q1⟩, q2⟩
    · cases h
  · cases h

theorem obj_block (R : Rel ti N X Y w0 β σ a w) {l : Loc} (ho : isObj (look σ l) = true) {g c len} (hb : β l = some (some g, c, len)) : g < w.heap.size := by
  have h1 := R.obj l
  cases hcell : look σ l with
  | row own e t xs =>
    rw [hcell] at h1
    obtain ⟨b, hb', ⟨_, hr⟩, _⟩ := h1
    rw [hb] at hb'
    cases hb'
    obtain ⟨cur, F, hh, _⟩ := hr
    exact (Array.getElem?_eq_some_iff.1 hh).1
  | mem own e cs =>
    rw [hcell] at h1
    obtain ⟨b, hb', ⟨g2, vs, e1, hh, _⟩, _⟩ := h1
    rw [hb] at hb'
    cases hb'
    cases e1
    exact (Array.getElem?_eq_some_iff.1 hh).1
  | dead => rw [hcell] at ho; cases ho
  | val v => rw [hcell] at ho; cases ho

/-- New own rows, all at once: memory has grown. -/
theorem Rel.newObjs (R : Rel ti N X Y w0 β σ a w) {l : Loc} {os : Ws} {bs : List (Option Nat × Nat × Nat)} (hk : Kept (fun _ => False) w w') (hodd : ∀ i t, l + 2 * i ≠ tmpL t) (hlen : os.length = bs.length)
    (hfr : ∀ i, i < bs.length → β (l + 2 * i) = none) {Z : Nat → Prop}
    (hos : ∀ (i : Nat) b, bs[i]? = some b → ∃ e u xs, os[i]? = some (l + 2 * i, .row true e u xs) ∧ RowOk w' Z e u xs b)
    (hZ : ∀ f, Z f → Zs Y (extB β l bs) (put σ os) w' f)
    (hnew : ∀ g c n, (some g, c, n) ∈ bs → w.heap.size ≤ g)
    (hdis : ∀ (i j : Nat) g c n c' n', bs[i]? = some (some g, c, n) → bs[j]? = some (some g, c', n') → i = j) :
    Rel ti N X Y w0 (extB β l bs) (put σ os) a w' ∧ ∀ g, Zs Y β σ w g → Zs Y (extB β l bs) (put σ os) w' g := by
  have hseq : ∀ (i : Nat) p, os[i]? = some p → p.1 = l + 2 * i := by
    intro i p hp
    have hi : i < bs.length := by rw [← hlen]; exact (List.getElem?_eq_some_iff.1 hp).1
    obtain ⟨e, u, xs, h1, _⟩ := hos i _ (List.getElem?_eq_getElem hi)
    rw [hp] at h1
    cases h1
    rfl
  have hlk := seq_look (σ := σ) hseq
  have hβ := extB_ext (β := β) hfr
  have hkk : ∀ k, k < w.heap.size → w'.heap[k]? = w.heap[k]? := fun k h => hk.block k h (fun x => x)
  have hodd' : ∀ t i, i < os.length → tmpL t ≠ l + 2 * i := fun t i _ h => hodd i t h.symm
  -- own objects behind
  have hcase : ∀ l', isOwn (look (put σ os) l') = true → (∃ i, i < bs.length ∧ l' = l + 2 * i ∧ extB β l bs l' = bs[i]?) ∨ (isOwn (look σ l') = true ∧ extB β l bs l' = β l') := by
    intro l' h
    rcases extB_at (β := β) bs l l' with ⟨i, h1, h2, h3⟩ | ⟨h1, h2⟩
    · exact .inl ⟨i, h1, h2, h3⟩
    · rcases hlk l' with ⟨i, p, g1, g2, g3⟩ | ⟨g1, g2⟩
      · exact absurd g2 (h1 i (by rw [← hlen]; exact (List.getElem?_eq_some_iff.1 g1).1))
      · rw [g2] at h; exact .inr ⟨h, h2⟩
  have hZ2 : ∀ k, Zs Y β σ w k → Zs Y (extB β l bs) (put σ os) w' k ∧ w'.heap[k]? = w.heap[k]? := by
    intro k hk'
    refine ⟨⟨⟨Nat.lt_of_lt_of_le hk'.1.1 hk.size, hk'.1.2⟩, fun l' c n ho hb => ?_⟩, hkk k hk'.1.1⟩
    rcases hcase l' ho with ⟨i, h1, h2, h3⟩ | ⟨h1, h2⟩
    · rw [h3] at hb
      have := hnew k c n (List.mem_of_getElem? hb)
      have := hk'.1.1
      omega
    · rw [h2] at hb
      exact hk'.2 l' c n h1 hb
  refine ⟨R.step hβ (R.kept.trans ⟨hk.os, hk.tape, hk.output, hk.size, fun k h _ => hkk k h⟩) hZ2 R.size R.dfr ?_ ?_ ?_ ?_, fun g hg => (hZ2 g hg).1⟩
  · intro t v h
    rcases hlk (tmpL t) with ⟨i, p, g1, g2, g3⟩ | ⟨g1, g2⟩
    · exact absurd g2.symm (hodd i t)
    · rw [g2] at h; exact .inl ⟨h, rfl⟩
  · intro l'
    rcases hlk l' with ⟨i, p, g1, g2, g3⟩ | ⟨g1, g2⟩
    · right
      have hi : i < bs.length := by rw [← hlen]; exact (List.getElem?_eq_some_iff.1 g1).1
      obtain ⟨e, u, xs, h1, h2⟩ := hos i _ (List.getElem?_eq_getElem hi)
      rw [g1] at h1
      cases h1
      rw [g3]
      refine ⟨bs[i], ?_, h2.mono (fun f hf => ⟨hZ f hf, rfl⟩) (fun _ _ => rfl), fun h => by cases h⟩
      rcases extB_at (β := β) bs l l' with ⟨j, q1, q2, q3⟩ | ⟨q1, q2⟩
      · have : i = j := by
          rw [g2] at q2
          exact Nat.eq_of_mul_eq_mul_left (show 0 < 2 by decide) (Nat.add_left_cancel q2)
        subst this
        rw [q3, List.getElem?_eq_getElem hi]
      · exact absurd g2 (q1 i hi)
    · rw [g2]
      exact .inl ⟨rfl, fun g c n ho hb => hkk g (own_block R ho hb)⟩
  · intro l' g c n ho hb
    rcases hcase l' ho with ⟨i, h1, h2, h3⟩ | ⟨h1, h2⟩
    · rw [h3] at hb
      exact .inl (Nat.le_trans R.kept.size (hnew g c n (List.mem_of_getElem? hb)))
    · rw [h2] at hb
      exact R.new l' g c n h1 hb
  · intro l1 l2 g c1 n1 c2 n2 ho1 ho2 hb1 hb2
    rcases hcase l1 ho1 with ⟨i, h1, h2, h3⟩ | ⟨h1, h2⟩ <;> rcases hcase l2 ho2 with ⟨j, q1, q2, q3⟩ | ⟨q1, q2⟩
    · rw [h3] at hb1
      rw [q3] at hb2
      rw [h2, q2, hdis i j g c1 n1 c2 n2 hb1 hb2]
    · rw [h3] at hb1
      rw [q2] at hb2
      have := hnew g c1 n1 (List.mem_of_getElem? hb1)
      have := own_block R q1 hb2
      omega
    · rw [h2] at hb1
      rw [q3] at hb2
      have := hnew g c2 n2 (List.mem_of_getElem? hb2)
      have := own_block R h1 hb1
      omega
    · rw [h2] at hb1
      rw [q2] at hb2
      exact R.apart l1 l2 g c1 n1 c2 n2 h1 q1 hb1 hb2

theorem locEq_eq : ∀ {a b : List Nat}, locEq a b = true → a = b
  | [], [], _ => rfl
  | [], _ :: _, h => by cases h
  | _ :: _, [], h => by cases h
  | x :: a, y :: b, h => by
    simp only [locEq, Bool.and_eq_true] at h
    rw [Nat.eq_of_beq_eq_true h.1, locEq_eq h.2]
theorem zip_mem : ∀ {prs : List (Loc × Loc)} {os : St} {l : Loc} {c : Cell}, os.map Prod.fst = prs.map Prod.fst → (l, c) ∈ (prs.map Prod.snd).zip (os.map Prod.snd) → ∃ p, (p, l) ∈ prs ∧ (p, c) ∈ os
  | [], os, l, c, _, h => by simp at h
  | (p, l') :: prs, [], l, c, e, h => by simp at e
  | (p, l') :: prs, (p', c') :: os, l, c, e, h => by
    simp only [List.map_cons, List.cons.injEq] at e
    obtain ⟨rfl, e⟩ := e
    simp only [List.map_cons, List.zip_cons_cons] at h
    rcases List.mem_cons.1 h with e2 | h
    · cases e2; exact ⟨p', List.mem_cons_self .., List.mem_cons_self ..⟩
    · obtain ⟨q, h1, h2⟩ := zip_mem e h
      exact ⟨q, List.mem_cons_of_mem _ h1, List.mem_cons_of_mem _ h2⟩
theorem zip_has : ∀ {prs : List (Loc × Loc)} {os : St} {p l : Loc}, os.map Prod.fst = prs.map Prod.fst → (p, l) ∈ prs → ∃ c, (l, c) ∈ (prs.map Prod.snd).zip (os.map Prod.snd)
  | [], os, p, l, _, h => by cases h
  | (p, l') :: prs, [], q, l, e, h => by simp at e
  | (p, l') :: prs, (p', c') :: os, q, l, e, h => by
    simp only [List.map_cons, List.cons.injEq] at e
    simp only [List.map_cons, List.zip_cons_cons]
    rcases List.mem_cons.1 h with e2 | h
    · cases e2; exact ⟨c', List.mem_cons_self ..⟩
    · obtain ⟨c, hc⟩ := zip_has e.2 h
      exact ⟨c, List.mem_cons_of_mem _ hc⟩

theorem op_callIO (hti : TiOk P ti) (R : Rel ti N X Y w0 β σ a w) (hodd2 : ∀ l, isObj (look σ l) = true → ∀ t, l ≠ tmpL t) {o : Oper} {new : Loc} (hd : ∀ t, o.dst = some t → t < N) {ws : Ws} {k : Nat} {c : Call} {f : Operand} (hc : c.callee = .value f) (ho : o.op = .call c)
    {n : FuncId} (hfe : a.eval f = .func (.func n) #[] #[]) {raw : Bool} {rts : List (Ty × Bool)} {rt : Ty} {io : IO rt} (hM : MeetsIO P n rts rt io.G) {fn : Func} (hfn : P.funcs[n]? = some fn) (hbody : fn.body.isNone = false) (hname : (fn.name == "runtime.NumGoroutine") = false)
    (h : (callIO ti raw rts rt io k new o.dst c.args.toList c.argTypes.toList).E σ ws) : Sound P ti N X Y w0 β σ a w o new ws := by
  unfold callIO at h
  rw [E_bind] at h
  obtain ⟨avs, h1, h2⟩ := h
  split at h2
  · rename_i v0 vs
    split at h2
    · rename_i u0 prs hl
      cases hcnd : (nodupN (prs.map Prod.snd) && (nodupN (prs.map Prod.fst) && (refsOf (.agg vs)).isEmpty)) with
      | false => rw [hcnd] at h2; exact (E_fail.1 h2).elim
      | true =>
      rw [hcnd] at h2
      simp only [cond_true, E_bind, E_ext] at h2
      obtain ⟨os, h3, xs, h4, r, h5, h6⟩ := h2
      have h5 := IO.G_of h5
      obtain ⟨cc0, r⟩ := r
      generalize hos' : io.out cc0 = os' at h5
      have h6 := h6
      simp only [hos'] at h6
      cases hcd2 : (locEq (os'.map Prod.fst) (prs.map Prod.fst) && (os'.all (fun p => pinned p.2 && okC ti p.2) && noSlice rt)) with
      | false => rw [hcd2] at h6; exact (E_fail.1 h6).elim
      | true =>
      rw [hcd2] at h6
      simp only [cond_true, E_ret] at h6
      subst h6
      simp only [Bool.and_eq_true] at hcnd hcd2
      obtain ⟨nd1, nd2, hem⟩ := hcnd
      obtain ⟨hle, hpin, hns⟩ := hcd2
      have hle := locEq_eq hle
      have hno : ∀ l, l ∉ refsOf (.agg vs) := by
        intro l hl
        cases he : refsOf (.agg vs) with
        | nil => rw [he] at hl; cases hl
        | cons x y => rw [he] at hem; cases hem
      obtain ⟨g1, g2⟩ := getAll_spec h3
      let β0 : Beta := fun m => match prs.find? (fun p => p.1 == m) with | some p => β p.2 | none => none
      have hβ0 : ∀ p l, (p, l) ∈ prs → β0 p = β l := by
        intro p l hm
        show (match prs.find? (fun q => q.1 == p) with | some q => β q.2 | none => none) = β l
        cases hfd : prs.find? (fun q => q.1 == p) with
        | none =>
          have := List.find?_eq_none.1 hfd (p, l) hm
          simp at this
        | some q =>
          have h1 := List.mem_of_find?_eq_some hfd
          have h2 := List.find?_some hfd
          have : q = (p, l) := nodupN_spec nd2 q h1 (p, l) hm (by simpa using h2)
          rw [this]
      -- the arguments
      obtain ⟨hlen, hva⟩ := opds_sound R h1
      obtain ⟨x0, args', hx⟩ : ∃ x0 args', c.args.toList = x0 :: args' := by
        cases hh : c.args.toList with
        | nil => rw [hh] at hlen; cases hlen
        | cons x y => exact ⟨x, y, rfl⟩
      rw [hx] at h1
      simp only [opds, E_bind, E_ret] at h1
      obtain ⟨v0', k1, vs', k2, k3⟩ := h1
      cases k3
      have hv0 := opd_sound R k1
      obtain ⟨q1, q2⟩ := lendA_sound (β0 := β0) (Z := Zs Y β σ w) (Z' := Zs Y β σ w) (fun _ h => h) hl hβ0 hv0
      have hrest : argsR w (Zs Y β σ w) xs (args'.map a.eval) := argsA_sound R (fun _ h => h) (L := fun _ => False) (fun l hl => hl.elim) (fun l hl => hl.elim) k2 h4 (fun l hl => (hno l hl).elim)
      have hargs : argsB β0 w (Zs Y β σ w) (u0 :: xs.map (forgetA false)) (c.args.toList.map a.eval) := by
        rw [hx]
        exact ⟨_, _, rfl, q1, argsB_of (argsR_forget hrest)⟩
      have hfull : ∀ m, β0 m ≠ none → ∃ c, (m, c) ∈ os := by
        intro m hm
        have hm : (match prs.find? (fun q => q.1 == m) with | some q => β q.2 | none => none) ≠ none := hm
        cases hfd : prs.find? (fun q => q.1 == m) with
        | none => rw [hfd] at hm; exact absurd rfl hm
        | some q =>
          have h1 := List.mem_of_find?_eq_some hfd
          have h2 := List.find?_some hfd
          obtain ⟨q1, q2⟩ := q
          have h2 : q1 = m := by simpa using h2
          subst h2
          exact ⟨_, (g2 q1 q2 h1).2.2⟩
      have hlent : LentOk P β0 w (Zs Y β σ w) os := by
        refine ⟨fun p cc hm => ?_, fun p c1 c2 hm1 hm2 => ?_, fun p c1 p' c2 g kk nn kk' nn' hm1 hm2 e1 e2 => ?_, fun p c1 g kk nn hm e1 hz => ?_, hfull⟩
        · obtain ⟨l, m1, rfl⟩ := g1 p cc hm
          obtain ⟨m2, m3, _⟩ := g2 p l m1
          refine ⟨q2 p l m1, m2, ?_⟩
          have hcell := R.obj l
          cases hcl : look σ l with
          | row own e t xs =>
            rw [hcl] at hcell
            obtain ⟨b, b1, b2, _⟩ := hcell
            exact ⟨b, by rw [hβ0 p l m1]; exact b1, b2⟩
          | mem own e cs =>
            rw [hcl] at hcell m3 m2
            obtain ⟨b, b1, ⟨g, vs, b2, b3, b4, b5⟩, _⟩ := hcell
            obtain ⟨i, z, i1, i2, _⟩ := (hti.td e m3).info
            refine ⟨b, i, by rw [hβ0 p l m1]; exact b1, i1, g, vs, b2, b3, ?_, ?_⟩
            · have hpl : cs.all plain1 = true := by
                unfold pinned at m2
                cases own with
                | true => exact m2
                | false => cases m2
              exact VRs_plain (fun _ h => h) hpl b4
            · rw [i2]; exact b5
          | dead => rw [hcl] at m2; cases m2
          | val v => rw [hcl] at m2; cases m2
        · obtain ⟨l1, m1, rfl⟩ := g1 p c1 hm1
          obtain ⟨l2, m2, rfl⟩ := g1 p c2 hm2
          have : ((p, l1) : Loc × Loc) = (p, l2) := nodupN_spec nd2 _ m1 _ m2 rfl
          cases this
          rfl
        · obtain ⟨l1, m1, rfl⟩ := g1 p c1 hm1
          obtain ⟨l2, m2, rfl⟩ := g1 p' c2 hm2
          rw [hβ0 p l1 m1] at e1
          rw [hβ0 p' l2 m2] at e2
          have := R.apart l1 l2 g kk nn kk' nn' (pinned_own (g2 p l1 m1).1) (pinned_own (g2 p' l2 m2).1) e1 e2
          have : ((p, l1) : Loc × Loc) = (p', l2) := nodupN_spec nd1 _ m1 _ m2 this
          cases this
          rfl
        · obtain ⟨l1, m1, rfl⟩ := g1 p c1 hm
          rw [hβ0 p l1 m1] at e1
          exact hz.2 l1 kk nn (pinned_own (g2 p l1 m1).1) e1
      intro next Q hn
      have hmap : (c.args.map a.eval) = (c.args.toList.map a.eval).toArray := by rw [← Array.toList_map, Array.toArray_toList]
      have hcalls := hM k os _ os' r _ w (Zs Y β σ w) β0 (fun g h => h.1.1) h5 hargs hlent
      have hrun : (execOp a.eval o).run P w = .ok (.enter n (c.args.toList.map a.eval).toArray) w := by
        rw [← hmap]
        have hname' : ¬ fn.name = "runtime.NumGoroutine" := by simpa using hname
        have hbody' : ¬ fn.body = none := fun h => by rw [h] at hbody; cases hbody
        simp [execOp, ho, resolve, hc, hfe, Deferred.ofValue, invoke, callFunc, program, Sem.run, hfn, hname', hbody']
      unfold Oper.wp
      rw [hrun]
      show Calls P n _ w _
      refine hcalls.mono ?_
      rintro e w' ⟨cells', rfl, hcl, hone, hk, hcells, G, hG1, hG2⟩
      show next (a.put o.dst (valOf rts cells')) w'
      have hown : ∀ l cc, (l, cc) ∈ (prs.map Prod.snd).zip (os'.map Prod.snd) → isOwn (look σ l) = true ∧ isOwn cc = true ∧ ∀ t, l ≠ tmpL t := by
        intro l cc hm
        obtain ⟨p, m1, m2⟩ := zip_mem hle hm
        have ho1 := pinned_own (g2 p l m1).1
        refine ⟨ho1, pinned_own (hcells p cc m2).2.1, hodd2 l ?_⟩
        cases hcl : look σ l <;> rw [hcl] at ho1 <;> first | rfl | cases ho1
      obtain ⟨R1, hZ1, hN1⟩ := R.writeK (w' := w') (ws := (prs.map Prod.snd).zip (os'.map Prod.snd)) hown (by
        refine ⟨hk.os, hk.tape, hk.output, hk.size, fun g hg hx => hk.block g hg ?_⟩
        rintro ⟨p, cc, kk, nn, m1, e1⟩
        obtain ⟨l, m2, rfl⟩ := g1 p cc m1
        rw [hβ0 p l m2] at e1
        obtain ⟨c2, m3⟩ := zip_has hle m2
        exact hx ⟨l, c2, kk, nn, m3, e1⟩) (by
        intro Z' hz1 hz2 l cc hm
        obtain ⟨p, m1, m2⟩ := zip_mem hle hm
        obtain ⟨_, m3, m4⟩ := hcells p cc m2
        have hZZ : ∀ g, (g < w'.heap.size ∧ (w.heap.size ≤ g ∨ Zs Y β σ w g)) → Z' g := fun g hg => hg.2.elim (fun h => hz2 g h hg.1) (fun h => hz1 g h)
        have hkn : okC ti cc = true := by
          have := List.all_eq_true.1 hpin (p, cc) m2
          simp only [Bool.and_eq_true] at this
          exact this.2
        cases cc with
        | row own e t xs =>
          obtain ⟨b, b1, b2⟩ := m4
          rw [hβ0 p l m1] at b1
          exact ⟨b, b1, b2.mono (fun g hg => ⟨hZZ g hg, rfl⟩) (fun _ _ => rfl), fun h => by subst h; cases m3⟩
        | mem own e cs =>
          obtain ⟨b, i, b1, b2, g, vs, b3, b4, b5, b6⟩ := m4
          rw [hβ0 p l m1] at b1
          obtain ⟨i', z, i1, i2, _⟩ := (hti.td e hkn).info
          rw [b2] at i1
          cases i1
          have hpl : cs.all plain1 = true := by
            unfold pinned at m3
            cases own with
            | true => exact m3
            | false => cases m3
          exact ⟨b, b1, ⟨g, vs, b3, b4, VRs_plain hZZ hpl b5, by rw [← i2]; exact b6⟩, fun h => by subst h; cases m3⟩
        | dead => cases m3
        | val v => cases m3)
      have hGe : G = [] := Rd_flat hns hG1
      subst hGe
      rcases hout : outCells false rt r new with ⟨cs0, os0, l0⟩
      obtain ⟨rfl, rfl⟩ := outCells_frz hout
      have hv := valOf_sound (β := β) (Z := Zs Y β (put σ ((prs.map Prod.snd).zip (os'.map Prod.snd))) w') (VRs_cells (β := β) hG1 (fun g hg => by cases hg)) hcl hone
      have R2 := R1.set hd hv
      rw [← put_append] at R2
      exact hn _ _ β (by rw [hout]; exact R2) (fun _ _ => rfl)
    · exact (E_fail.1 h2).elim
  · exact (E_fail.1 h2).elim

section
variable (hti : TiOk P ti) {env : Env} (henv : EnvOk P env) (R : Rel ti N X Y w0 β σ a w) {o : Oper} {new : Loc} (hd : ∀ t, o.dst = some t → t < N) {ws : Ws}
  (hodd : ∀ i t, new + 2 * i ≠ tmpL t) (hf : ∀ j, new ≤ j → j < new + 128 → β j = none)
include hti henv R hd hodd hf

theorem op_call (hodd2 : ∀ l, isObj (look σ l) = true → ∀ t, l ≠ tmpL t) {k : Nat} {c : Call} {f : Operand} (hc : c.callee = .value f) (ho : o.op = .call c) (h : ((opd f).bind fun
      | .fn f => match env f with
        | some s => match s.io with
          | some io => callIO ti s.raw s.rts s.rt io k new o.dst c.args.toList c.argTypes.toList
          | none => (opds c.args.toList).bind fun vs => (argsA ti s.raw (c.argTypes.toList) vs).bind fun xs =>
            Pr.ext (s.f k (xs.map (forgetA s.views))) fun r => match outCells s.own s.rt r new with
              | (cs, os, l') => bif Nat.ble l' (new + 128) then bif flatR s.own s.rt then Pr.ret (os ++ setTmp o.dst (outVal s.rts cs)) else
                (freezeD 3 (refsOf (.agg vs))).bind fun ws => .ret (ws ++ os ++ setTmp o.dst (outVal s.rts cs)) else .fail
        | none => .fail
      | _ => .fail).E σ ws) : Sound P ti N X Y w0 β σ a w o new ws := by
  rw [E_bind] at h
  obtain ⟨fv, h1, h2⟩ := h
  split at h2
  · rename_i n
    split at h2
    · rename_i S hS
      have hok := henv.ok n S hS
      have hfe : a.eval f = .func (.func n) #[] #[] := opd_sound R h1
      cases hio : S.io with
      | some io =>
        rw [hio] at h2 hok
        obtain ⟨hM, fn, hfn, hbody, hname⟩ := hok
        exact op_callIO hti R hodd2 hd hc ho hfe hM hfn hbody hname h2
      | none =>
      rw [hio] at h2 hok
      simp only [E_bind, E_ext] at h2
      obtain ⟨vs, h3, xs, h4, r, h5, h6⟩ := h2
      rcases hout : outCells S.own S.rt r new with ⟨cs, os, l'⟩
      rw [hout] at h6
      cases hble : Nat.ble l' (new + 128) with
      | false => simp only [hble] at h6; exact (E_fail.1 h6).elim
      | true =>
      simp only [hble, cond_true] at h6
      have hble := Nat.le_of_ble_eq_true hble
      -- the state before: frozen or not; the places that a result may lie in
      have hpre : ∃ (ws1 : Ws) (Z0 : Nat → Prop), Rel ti N X Y w0 β (put σ ws1) a w ∧ (∀ g, Z0 g → g < w.heap.size) ∧ argsR w Z0 (xs.map (forgetA S.views)) (c.args.toList.map a.eval) ∧ ws = ws1 ++ os ++ setTmp o.dst (outVal S.rts cs) ∧
          ((flatR S.own S.rt = true) ∨ ∀ g, Z0 g → Zs Y β (put σ ws1) w g) := by
        cases hfl : flatR S.own S.rt with
        | true =>
          simp only [hfl, cond_true, E_ret] at h6
          refine ⟨[], fun g => g < w.heap.size, R, fun g h => h, ?_, by rw [← h6]; rfl, .inl rfl⟩
          refine argsR_forget ?_
          exact argsA_sound R (Z' := fun g => g < w.heap.size) (fun g hg => hg.1.1) (L := fun _ => True) (fun l _ ho g c len hb => obj_block R ho hb) (fun _ _ _ _ => trivial) h3 h4 (fun _ _ => trivial)
        | false =>
          simp only [hfl, cond_false, E_bind, E_ret] at h6
          obtain ⟨ws1, g1, rfl⟩ := h6
          obtain ⟨f1, f2, f3⟩ := freezeD_spec g1
          obtain ⟨R1, hZ1⟩ := R.frz f1
          refine ⟨ws1, Zs Y β (put σ ws1) w, R1, fun g h => h.1.1, ?_, rfl, .inr fun _ h => h⟩
          refine argsR_forget ?_
          exact argsA_sound R (Z' := Zs Y β (put σ ws1) w) hZ1 (L := fun l => l ∈ locsOf ws1) (fun l hl ho g c len hb => frz_Z R f1 hl ho hb) (fun l hl l' hl' => f3 l hl l' hl') h3 h4 (fun l hl => f2 l hl)
      obtain ⟨ws1, Z0, R1, hZ0, hargs, rfl, hflat⟩ := hpre
      intro next Q hn
      have hmap : (c.args.map a.eval) = (c.args.toList.map a.eval).toArray := by rw [← Array.toList_map, Array.toArray_toList]
      suffices hgoal : ∀ u w', Kept (fun _ => False) w w' → ResR S w w' Z0 r u → next (a.put o.dst u) w' by
        rcases hok with ⟨hM, fn, hfn, hbody, hname⟩ | hM
        · have hcalls := hM k _ r _ w Z0 hZ0 h5 hargs
          have hrun : (execOp a.eval o).run P w = .ok (.enter n (c.args.toList.map a.eval).toArray) w := by
            rw [← hmap]
            have hname' : ¬ fn.name = "runtime.NumGoroutine" := by simpa using hname
            have hbody' : ¬ fn.body = none := fun h => by rw [h] at hbody; cases hbody
            simp [execOp, ho, resolve, hc, hfe, Deferred.ofValue, invoke, callFunc, program, Sem.run, hfn, hname', hbody']
          unfold Oper.wp
          rw [hrun]
          show Calls P n _ w _
          refine hcalls.mono ?_
          rintro e w' ⟨u, rfl, h8, h9⟩
          exact hgoal u w' h8 h9
        · obtain ⟨u, w', hu, h8, h9⟩ := hM k _ r _ w Z0 hZ0 h5 hargs
          have hrun : (execOp a.eval o).run P w = .ok (.value u) w' := by
            rw [← hu, ← hmap]
            simp [execOp, ho, resolve, hc, hfe, Deferred.ofValue, invoke]
          unfold Oper.wp
          rw [hrun]
          exact hgoal u w' h8 h9
      rintro _ w' hk ⟨cells, rfl, hcl, hone, hres⟩
      show next (a.put o.dst (valOf S.rts cells)) w'
      cases hown : S.own with
      | true =>
        rw [hown] at hout
        rw [hown, if_pos rfl] at hres
        obtain ⟨bs, hR, hnew, hdis⟩ := hres
        obtain ⟨p1, p2, p3, p4⟩ := outCells_own hout hR
        have hbl : 2 * bs.length ≤ 128 := by
          rw [p1] at hble
          exact Nat.le_of_add_le_add_left hble
        have hfr : ∀ i, i < bs.length → β (new + 2 * i) = none := fun i hi => hf _ (Nat.le_add_right _ _) (Nat.add_lt_add_left (by omega) _)
        -- the inner places are safe
        have hbs : ∀ (i : Nat) b, bs[i]? = some b → extB β new bs (new + 2 * i) = some b := by
          intro i b hb
          rcases extB_at (β := β) bs new (new + 2 * i) with ⟨j, q1, q2, q3⟩ | ⟨q1, q2⟩
          · have : i = j := Nat.eq_of_mul_eq_mul_left (show 0 < 2 by decide) (Nat.add_left_cancel q2)
            subst this
            rw [q3, hb]
          · exact absurd rfl (q1 i (List.getElem?_eq_some_iff.1 hb).1)
        have hZ : ∃ Z : Nat → Prop, (∀ (i : Nat) b, bs[i]? = some b → ∃ e u xs, os[i]? = some (new + 2 * i, .row true e u xs) ∧ RowOk w' Z e u xs b) ∧ ∀ f, Z f → Zs Y (extB β new bs) (put (put σ ws1) os) w' f := by
          rcases hflat with hfl | hz
          · rw [hown] at hfl
            exact ⟨fun _ => False, fun i b hb => by
              obtain ⟨e, u, xs, g1, g2, g3⟩ := p3 i b hb
              exact ⟨e, u, xs, g1, RowOk_flat (g3 hfl) g2⟩, fun f h => h.elim⟩
          · refine ⟨_, fun i b hb => by
              obtain ⟨e, u, xs, g1, g2, g3⟩ := p3 i b hb
              exact ⟨e, u, xs, g1, g2⟩, ?_⟩
            rintro f ⟨h1, h2, h3⟩
            refine ⟨⟨h1, h2.elim (fun h => R1.yn f (Nat.le_trans R1.kept.size h)) (fun h => (hz f h).1.2)⟩, fun l c n hl hb => ?_⟩
            rcases extB_at (β := β) bs new l with ⟨i, q1, q2, q3⟩ | ⟨q1, q2⟩
            · rw [q3] at hb
              exact h3 c n (List.mem_of_getElem? hb)
            · rw [q2] at hb
              have hseq : ∀ (i : Nat) p, os[i]? = some p → p.1 = new + 2 * i := by
                intro i p hp
                have hi : i < bs.length := by rw [← p2]; exact (List.getElem?_eq_some_iff.1 hp).1
                obtain ⟨e, u, xs, g1, _⟩ := p3 i _ (List.getElem?_eq_getElem hi)
                rw [hp] at g1
                cases g1
                rfl
              rcases seq_look (σ := put σ ws1) hseq l with ⟨i, p, g1, g2, g3⟩ | ⟨g1, g2⟩
              · exact q1 i (by rw [← p2]; exact (List.getElem?_eq_some_iff.1 g1).1) g2
              · rw [g2] at hl
                rcases h2 with h2 | h2
                · have := own_block R1 hl hb
                  omega
                · exact (hz f h2).2 l c n hl hb
        obtain ⟨Z, hZ1, hZ2⟩ := hZ
        obtain ⟨R2, _⟩ := R1.newObjs hk hodd p2 hfr hZ1 hZ2 hnew hdis
        have hv := valOf_sound (p4 (extB β new bs) hbs (Zs Y (extB β new bs) (put (put σ ws1) os) w')) hcl hone
        have R3 := R2.set hd hv
        rw [← put_append, ← put_append] at R3
        refine hn _ _ _ (by rw [List.append_assoc]; exact R3) ?_
        intro l hl
        rcases extB_at (β := β) bs new l with ⟨i, q1, q2, q3⟩ | ⟨q1, q2⟩
        · refine absurd ⟨?_, ?_⟩ hl
          · rw [q2]; exact Nat.le_add_right _ _
          · rw [q2]; exact Nat.add_lt_add_left (by omega) _
        · exact q2
      | false =>
        rw [hown] at hout
        rw [hown, if_neg (by simp)] at hres
        obtain ⟨F, hR, hF⟩ := hres
        obtain ⟨rfl, rfl⟩ := outCells_frz hout
        have hempty : Kept X w w' := ⟨hk.os, hk.tape, hk.output, hk.size, fun k h _ => hk.block k h (fun x => x)⟩
        have R2 := R1.newObjs (os := []) (bs := []) (l := new) hk hodd rfl (fun i hi => by simp at hi) (Z := fun _ => False) (fun i b hb => by simp at hb) (fun f h => h.elim) (fun g c n h => by simp at h) (fun i j g c n c' n' h => by simp at h)
        obtain ⟨R2, hZ2⟩ := R2
        have hFZ : ∀ f ∈ F, Zs Y β (put σ ws1) w' f := by
          rcases hflat with hfl | hz
          · rw [hown] at hfl
            rw [Rd_flat (flat_false hfl) hR]
            simp
          · intro f hf2
            obtain ⟨h1, h2⟩ := hF f hf2
            refine ⟨⟨h1, h2.elim (fun h => R1.yn f (Nat.le_trans R1.kept.size h)) (fun h => (hz f h).1.2)⟩, fun l c n hl hb => ?_⟩
            rcases h2 with h2 | h2
            · have := own_block R1 hl hb
              omega
            · exact (hz f h2).2 l c n hl hb
        have hv := valOf_sound (VRs_cells (β := β) hR hFZ) hcl hone
        have R3 := Rel.set (β := β) (σ := put σ ws1) R2 hd hv
        rw [← put_append] at R3
        exact hn _ _ β (by rw [List.append_nil]; exact R3) (fun _ _ => rfl)
    · exact (E_fail.1 h2).elim
  · exact (E_fail.1 h2).elim
end
end
end Go.Proofs.YtkahcjnkmbbplaaE
