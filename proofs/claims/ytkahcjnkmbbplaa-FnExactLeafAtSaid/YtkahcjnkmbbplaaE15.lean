/- The engine, part 15: the call; every operation. -/
import Derived.Test.YtkahcjnkmbbplaaE14
namespace Go.Proofs.YtkahcjnkmbbplaaE
set_option linter.unusedVariables false
set_option linter.unusedSimpArgs false
set_option linter.unusedSectionVars false
open Pr

theorem seq_look : ∀ {os : Ws} {σ : St} {l : Loc}, (∀ (i : Nat) p, os[i]? = some p → p.1 = l + 2 * i) → ∀ l', (∃ i p, os[i]? = some p ∧ l' = l + 2 * i ∧ look (put σ os) l' = p.2) ∨ ((∀ i, i < os.length → l' ≠ l + 2 * i) ∧ look (put σ os) l' = look σ l')
  | [], σ, l, h, l' => .inr ⟨fun i hi => by simp at hi, rfl⟩
  | p :: os, σ, l, h, l' => by
    have h0 := h 0 p rfl
    rw [Nat.mul_zero, Nat.add_zero] at h0
    have h' : ∀ (i : Nat) q, os[i]? = some q → q.1 = (l + 2) + 2 * i := fun i q hq => by
      have := h (i + 1) q (by simpa using hq)
      rw [this, Nat.mul_add, Nat.mul_one, Nat.add_assoc, Nat.add_comm 2]
    rw [put_cons]
    rcases seq_look (σ := p :: σ) h' l' with ⟨i, q, g1, g2, g3⟩ | ⟨g1, g2⟩
    · exact .inl ⟨i + 1, q, by simpa using g1, by rw [g2, Nat.mul_add, Nat.mul_one, Nat.add_assoc, Nat.add_comm 2], g3⟩
    · by_cases e : p.1 = l'
      · refine .inl ⟨0, p, rfl, by rw [← e, h0]; rfl, ?_⟩
        rw [g2]
        obtain ⟨pl, pc⟩ := p
        rw [look_cons, if_pos e]
      · refine .inr ⟨fun i hi => ?_, ?_⟩
        · cases i with
          | zero => intro e2; exact e (by rw [h0, e2]; rfl)
          | succ i =>
            have := g1 i (by simpa using hi)
            rw [Nat.mul_add, Nat.mul_one]
            intro e2
            exact this (by rw [e2, Nat.add_assoc, Nat.add_comm 2])
        · rw [g2]
          obtain ⟨pl, pc⟩ := p
          rw [look_cons, if_neg e]

theorem Rd_flat : ∀ {t : Ty} {w : World} {x : T t} {cs F}, noSlice t = true → Rd w t x cs F → F = [] := by
  intro t
  induction t with
  | pair p q hp hq =>
    rintro w x cs F hn ⟨c1, c2, F1, F2, _, rfl, h1, h2⟩
    simp only [noSlice, Bool.and_eq_true] at hn
    rw [hp hn.1 h1, hq hn.2 h2]
    rfl
  | slice e t _ => intro w x cs F hn; cases hn
  | vslice e t _ => intro w x cs F hn; cases hn
  | int k => intro w x cs F _ h; exact h.2
  | bool => intro w x cs F _ h; exact h.2
  | str => intro w x cs F _ h; exact h.2

theorem flat_false : ∀ {t : Ty}, flatR false t = true → noSlice t = true := by
  intro t
  induction t with
  | pair p q hp hq => intro h; simp only [flatR, noSlice, Bool.and_eq_true] at h ⊢; exact ⟨hp h.1, hq h.2⟩
  | slice e t _ => intro h; simp [flatR] at h
  | vslice e t _ => intro h; simp [flatR] at h
  | _ => intro _; rfl

theorem RowOk_flat {w : World} {Z Z' : Nat → Prop} {e : TypeId} {t : Ty} {xs : List (T t)} {b} (hn : noSlice t = true) (h : RowOk w Z e t xs b) : RowOk w Z' e t xs b := by
  obtain ⟨h1, h2⟩ := h
  refine ⟨h1, ?_⟩
  cases hb : b.1 with
  | none => rw [hb] at h2; exact h2
  | some g =>
    rw [hb] at h2
    obtain ⟨cur, F, h3, h4, h5, h6, h7, h8⟩ := h2
    have hF : ∀ {xs : List (T t)} {cs F}, rowR (Rd w t) xs cs F → F = [] := by
      intro xs
      induction xs with
      | nil => intro cs F h; exact h.2
      | cons x xs ih =>
        rintro cs F ⟨c1, c2, F1, F2, _, rfl, g1, g2⟩
        rw [Rd_flat hn g1, ih g2]
        rfl
    have := hF h7
    subst this
    exact ⟨cur, [], h3, h4, h5, h6, h7, by simp⟩

section
variable {P : Program} {ti : TI} {N : Nat} {X Y : Nat → Prop} {w0 w w' : World} {β β' : Beta} {σ σ' : St} {a a' : Act}

theorem obj_block (R : Rel ti N X Y w0 β σ a w) {l : Loc} (ho : isObj (look σ l) = true) {g c len} (hb : β l = some (some g, c, len)) : g < w.heap.size := by
  have h1 := R.obj l
  cases hcell : look σ l with
  | row own e t xs =>
    rw [hcell] at h1
    obtain ⟨b, hb', ⟨_, hr⟩, _⟩ := h1
    rw [hb] at hb'
    cases hb'
    obtain ⟨cur, F, hh, _⟩ := hr
    exact (Array.getElem?_eq_some_iff.1 hh).1
  | mem own e cs =>
    rw [hcell] at h1
    obtain ⟨b, hb', ⟨g2, vs, e1, hh, _⟩, _⟩ := h1
    rw [hb] at hb'
    cases hb'
    cases e1
    exact (Array.getElem?_eq_some_iff.1 hh).1
  | dead => rw [hcell] at ho; cases ho
  | val v => rw [hcell] at ho; cases ho

/-- New own rows, all at once: memory has grown. -/
theorem Rel.newObjs (R : Rel ti N X Y w0 β σ a w) {l : Loc} {os : Ws} {bs : List (Option Nat × Nat × Nat)} (hk : Kept (fun _ => False) w w') (hodd : ∀ i t, l + 2 * i ≠ tmpL t) (hlen : os.length = bs.length)
    (hfr : ∀ i, i < bs.length → β (l + 2 * i) = none) {Z : Nat → Prop}
    (hos : ∀ (i : Nat) b, bs[i]? = some b → ∃ e u xs, os[i]? = some (l + 2 * i, .row true e u xs) ∧ RowOk w' Z e u xs b)
    (hZ : ∀ f, Z f → Zs Y (extB β l bs) (put σ os) w' f)
    (hnew : ∀ g c n, (some g, c, n) ∈ bs → w.heap.size ≤ g)
    (hdis : ∀ (i j : Nat) g c n c' n', bs[i]? = some (some g, c, n) → bs[j]? = some (some g, c', n') → i = j) :
    Rel ti N X Y w0 (extB β l bs) (put σ os) a w' ∧ ∀ g, Zs Y β σ w g → Zs Y (extB β l bs) (put σ os) w' g := by
  have hseq : ∀ (i : Nat) p, os[i]? = some p → p.1 = l + 2 * i := by
    intro i p hp
    have hi : i < bs.length := by rw [← hlen]; exact (List.getElem?_eq_some_iff.1 hp).1
    obtain ⟨e, u, xs, h1, _⟩ := hos i _ (List.getElem?_eq_getElem hi)
    rw [hp] at h1
    cases h1
    rfl
  have hlk := seq_look (σ := σ) hseq
  have hβ := extB_ext (β := β) hfr
  have hkk : ∀ k, k < w.heap.size → w'.heap[k]? = w.heap[k]? := fun k h => hk.block k h (fun x => x)
  have hodd' : ∀ t i, i < os.length → tmpL t ≠ l + 2 * i := fun t i _ h => hodd i t h.symm
  -- own objects behind
  have hcase : ∀ l', isOwn (look (put σ os) l') = true → (∃ i, i < bs.length ∧ l' = l + 2 * i ∧ extB β l bs l' = bs[i]?) ∨ (isOwn (look σ l') = true ∧ extB β l bs l' = β l') := by
    intro l' h
    rcases extB_at (β := β) bs l l' with ⟨i, h1, h2, h3⟩ | ⟨h1, h2⟩
    · exact .inl ⟨i, h1, h2, h3⟩
    · rcases hlk l' with ⟨i, p, g1, g2, g3⟩ | ⟨g1, g2⟩
      · exact absurd g2 (h1 i (by rw [← hlen]; exact (List.getElem?_eq_some_iff.1 g1).1))
      · rw [g2] at h; exact .inr ⟨h, h2⟩
  have hZ2 : ∀ k, Zs Y β σ w k → Zs Y (extB β l bs) (put σ os) w' k ∧ w'.heap[k]? = w.heap[k]? := by
    intro k hk'
    refine ⟨⟨⟨Nat.lt_of_lt_of_le hk'.1.1 hk.size, hk'.1.2⟩, fun l' c n ho hb => ?_⟩, hkk k hk'.1.1⟩
    rcases hcase l' ho with ⟨i, h1, h2, h3⟩ | ⟨h1, h2⟩
    · rw [h3] at hb
      have := hnew k c n (List.mem_of_getElem? hb)
      have := hk'.1.1
      omega
    · rw [h2] at hb
      exact hk'.2 l' c n h1 hb
  refine ⟨R.step hβ (R.kept.trans ⟨hk.os, hk.tape, hk.output, hk.size, fun k h _ => hkk k h⟩) hZ2 R.size R.dfr ?_ ?_ ?_ ?_, fun g hg => (hZ2 g hg).1⟩
  · intro t v h
    rcases hlk (tmpL t) with ⟨i, p, g1, g2, g3⟩ | ⟨g1, g2⟩
    · exact absurd g2.symm (hodd i t)
    · rw [g2] at h; exact .inl ⟨h, rfl⟩
  · intro l'
    rcases hlk l' with ⟨i, p, g1, g2, g3⟩ | ⟨g1, g2⟩
    · right
      have hi : i < bs.length := by rw [← hlen]; exact (List.getElem?_eq_some_iff.1 g1).1
      obtain ⟨e, u, xs, h1, h2⟩ := hos i _ (List.getElem?_eq_getElem hi)
      rw [g1] at h1
      cases h1
      rw [g3]
      refine ⟨bs[i], ?_, h2.mono (fun f hf => ⟨hZ f hf, rfl⟩) (fun _ _ => rfl), fun h => by cases h⟩
      rcases extB_at (β := β) bs l l' with ⟨j, q1, q2, q3⟩ | ⟨q1, q2⟩
      · have : i = j := by
          rw [g2] at q2
          exact Nat.eq_of_mul_eq_mul_left (show 0 < 2 by decide) (Nat.add_left_cancel q2)
        subst this
        rw [q3, List.getElem?_eq_getElem hi]
      · exact absurd g2 (q1 i hi)
    · rw [g2]
      exact .inl ⟨rfl, fun g c n ho hb => hkk g (own_block R ho hb)⟩
  · intro l' g c n ho hb
    rcases hcase l' ho with ⟨i, h1, h2, h3⟩ | ⟨h1, h2⟩
    · rw [h3] at hb
      exact .inl (Nat.le_trans R.kept.size (hnew g c n (List.mem_of_getElem? hb)))
    · rw [h2] at hb
      exact R.new l' g c n h1 hb
  · intro l1 l2 g c1 n1 c2 n2 ho1 ho2 hb1 hb2
    rcases hcase l1 ho1 with ⟨i, h1, h2, h3⟩ | ⟨h1, h2⟩ <;> rcases hcase l2 ho2 with ⟨j, q1, q2, q3⟩ | ⟨q1, q2⟩
    · rw [h3] at hb1
      rw [q3] at hb2
      rw [h2, q2, hdis i j g c1 n1 c2 n2 hb1 hb2]
    · rw [h3] at hb1
      rw [q2] at hb2
      have := hnew g c1 n1 (List.mem_of_getElem? hb1)
      have := own_block R q1 hb2
      omega
    · rw [h2] at hb1
      rw [q3] at hb2
      have := hnew g c2 n2 (List.mem_of_getElem? hb2)
      have := own_block R h1 hb1
      omega
    · rw [h2] at hb1
      rw [q2] at hb2
      exact R.apart l1 l2 g c1 n1 c2 n2 h1 q1 hb1 hb2

section
variable (hti : TiOk P ti) {env : Env} (henv : EnvOk P env) (R : Rel ti N X Y w0 β σ a w) {o : Oper} {new : Loc} (hd : ∀ t, o.dst = some t → t < N) {ws : Ws}
  (hodd : ∀ i t, new + 2 * i ≠ tmpL t) (hf : ∀ j, new ≤ j → j < new + 128 → β j = none)
include hti henv R hd hodd hf

theorem op_call {k : Nat} {c : Call} {f : Operand} (hc : c.callee = .value f) (ho : o.op = .call c) (h : ((opd f).bind fun
      | .fn f => match env f with
        | some s => (opds c.args.toList).bind fun vs => (argsA ti s.raw (c.argTypes.toList) vs).bind fun xs =>
            Pr.ext (s.f k (xs.map (forgetA s.views))) fun r => match outCells s.own s.rt r new with
              | (cs, os, l') => bif Nat.ble l' (new + 128) then bif flatR s.own s.rt then Pr.ret (os ++ setTmp o.dst (outVal s.rts cs)) else
                (freezeD 3 (refsOf (.agg vs))).bind fun ws => .ret (ws ++ os ++ setTmp o.dst (outVal s.rts cs)) else .fail
        | none => .fail
      | _ => .fail).E σ ws) : Sound P ti N X Y w0 β σ a w o new ws := by
  rw [E_bind] at h
  obtain ⟨fv, h1, h2⟩ := h
  split at h2
  · rename_i n
    split at h2
    · rename_i S hS
      simp only [E_bind, E_ext] at h2
      obtain ⟨vs, h3, xs, h4, r, h5, h6⟩ := h2
      rcases hout : outCells S.own S.rt r new with ⟨cs, os, l'⟩
      rw [hout] at h6
      cases hble : Nat.ble l' (new + 128) with
      | false => simp only [hble] at h6; exact (E_fail.1 h6).elim
      | true =>
      simp only [hble, cond_true] at h6
      have hble := Nat.le_of_ble_eq_true hble
      have hfe : a.eval f = .func (.func n) #[] #[] := opd_sound R h1
      -- the state before: frozen or not; the places that a result may lie in
      have hpre : ∃ (ws1 : Ws) (Z0 : Nat → Prop), Rel ti N X Y w0 β (put σ ws1) a w ∧ (∀ g, Z0 g → g < w.heap.size) ∧ argsR w Z0 (xs.map (forgetA S.views)) (c.args.toList.map a.eval) ∧ ws = ws1 ++ os ++ setTmp o.dst (outVal S.rts cs) ∧
          ((flatR S.own S.rt = true) ∨ ∀ g, Z0 g → Zs Y β (put σ ws1) w g) := by
        cases hfl : flatR S.own S.rt with
        | true =>
          simp only [hfl, cond_true, E_ret] at h6
          refine ⟨[], fun g => g < w.heap.size, R, fun g h => h, ?_, by rw [← h6]; rfl, .inl rfl⟩
          refine argsR_forget ?_
          exact argsA_sound R (Z' := fun g => g < w.heap.size) (fun g hg => hg.1.1) (L := fun _ => True) (fun l _ ho g c len hb => obj_block R ho hb) (fun _ _ _ _ => trivial) h3 h4 (fun _ _ => trivial)
        | false =>
          simp only [hfl, cond_false, E_bind, E_ret] at h6
          obtain ⟨ws1, g1, rfl⟩ := h6
          obtain ⟨f1, f2, f3⟩ := freezeD_spec g1
          obtain ⟨R1, hZ1⟩ := R.frz f1
          refine ⟨ws1, Zs Y β (put σ ws1) w, R1, fun g h => h.1.1, ?_, rfl, .inr fun _ h => h⟩
          refine argsR_forget ?_
          exact argsA_sound R (Z' := Zs Y β (put σ ws1) w) hZ1 (L := fun l => l ∈ locsOf ws1) (fun l hl ho g c len hb => frz_Z R f1 hl ho hb) (fun l hl l' hl' => f3 l hl l' hl') h3 h4 (fun l hl => f2 l hl)
      obtain ⟨ws1, Z0, R1, hZ0, hargs, rfl, hflat⟩ := hpre
      intro next Q hn
      have hmap : (c.args.map a.eval) = (c.args.toList.map a.eval).toArray := by rw [← Array.toList_map, Array.toArray_toList]
      suffices hgoal : ∀ u w', Kept (fun _ => False) w w' → ResR S w w' Z0 r u → next (a.put o.dst u) w' by
        rcases henv.ok n S hS with ⟨hM, fn, hfn, hbody, hname⟩ | hM
        · have hcalls := hM k _ r _ w Z0 hZ0 h5 hargs
          have hrun : (execOp a.eval o).run P w = .ok (.enter n (c.args.toList.map a.eval).toArray) w := by
            rw [← hmap]
            have hname' : ¬ fn.name = "runtime.NumGoroutine" := by simpa using hname
            have hbody' : ¬ fn.body = none := fun h => by rw [h] at hbody; cases hbody
            simp [execOp, ho, resolve, hc, hfe, Deferred.ofValue, invoke, callFunc, program, Sem.run, hfn, hname', hbody']
          unfold Oper.wp
          rw [hrun]
          show Calls P n _ w _
          refine hcalls.mono ?_
          rintro e w' ⟨u, rfl, h8, h9⟩
          exact hgoal u w' h8 h9
        · obtain ⟨u, w', hu, h8, h9⟩ := hM k _ r _ w Z0 hZ0 h5 hargs
          have hrun : (execOp a.eval o).run P w = .ok (.value u) w' := by
            rw [← hu, ← hmap]
            simp [execOp, ho, resolve, hc, hfe, Deferred.ofValue, invoke]
          unfold Oper.wp
          rw [hrun]
          exact hgoal u w' h8 h9
      rintro _ w' hk ⟨cells, rfl, hcl, hone, hres⟩
      show next (a.put o.dst (valOf S.rts cells)) w'
      cases hown : S.own with
      | true =>
        rw [hown] at hout
        rw [hown, if_pos rfl] at hres
        obtain ⟨bs, hR, hnew, hdis⟩ := hres
        obtain ⟨p1, p2, p3, p4⟩ := outCells_own hout hR
        have hbl : 2 * bs.length ≤ 128 := by
          rw [p1] at hble
          exact Nat.le_of_add_le_add_left hble
        have hfr : ∀ i, i < bs.length → β (new + 2 * i) = none := fun i hi => hf _ (Nat.le_add_right _ _) (Nat.add_lt_add_left (by omega) _)
        -- the inner places are safe
        have hbs : ∀ (i : Nat) b, bs[i]? = some b → extB β new bs (new + 2 * i) = some b := by
          intro i b hb
          rcases extB_at (β := β) bs new (new + 2 * i) with ⟨j, q1, q2, q3⟩ | ⟨q1, q2⟩
          · have : i = j := Nat.eq_of_mul_eq_mul_left (show 0 < 2 by decide) (Nat.add_left_cancel q2)
            subst this
            rw [q3, hb]
          · exact absurd rfl (q1 i (List.getElem?_eq_some_iff.1 hb).1)
        have hZ : ∃ Z : Nat → Prop, (∀ (i : Nat) b, bs[i]? = some b → ∃ e u xs, os[i]? = some (new + 2 * i, .row true e u xs) ∧ RowOk w' Z e u xs b) ∧ ∀ f, Z f → Zs Y (extB β new bs) (put (put σ ws1) os) w' f := by
          rcases hflat with hfl | hz
          · rw [hown] at hfl
            exact ⟨fun _ => False, fun i b hb => by
              obtain ⟨e, u, xs, g1, g2, g3⟩ := p3 i b hb
              exact ⟨e, u, xs, g1, RowOk_flat (g3 hfl) g2⟩, fun f h => h.elim⟩
          · refine ⟨_, fun i b hb => by
              obtain ⟨e, u, xs, g1, g2, g3⟩ := p3 i b hb
              exact ⟨e, u, xs, g1, g2⟩, ?_⟩
            rintro f ⟨h1, h2, h3⟩
            refine ⟨⟨h1, h2.elim (fun h => R1.yn f (Nat.le_trans R1.kept.size h)) (fun h => (hz f h).1.2)⟩, fun l c n hl hb => ?_⟩
            rcases extB_at (β := β) bs new l with ⟨i, q1, q2, q3⟩ | ⟨q1, q2⟩
            · rw [q3] at hb
              exact h3 c n (List.mem_of_getElem? hb)
            · rw [q2] at hb
              have hseq : ∀ (i : Nat) p, os[i]? = some p → p.1 = new + 2 * i := by
                intro i p hp
                have hi : i < bs.length := by rw [← p2]; exact (List.getElem?_eq_some_iff.1 hp).1
                obtain ⟨e, u, xs, g1, _⟩ := p3 i _ (List.getElem?_eq_getElem hi)
                rw [hp] at g1
                cases g1
                rfl
              rcases seq_look (σ := put σ ws1) hseq l with ⟨i, p, g1, g2, g3⟩ | ⟨g1, g2⟩
              · exact q1 i (by rw [← p2]; exact (List.getElem?_eq_some_iff.1 g1).1) g2
              · rw [g2] at hl
                rcases h2 with h2 | h2
                · have := own_block R1 hl hb
                  omega
                · exact (hz f h2).2 l c n hl hb
        obtain ⟨Z, hZ1, hZ2⟩ := hZ
        obtain ⟨R2, _⟩ := R1.newObjs hk hodd p2 hfr hZ1 hZ2 hnew hdis
        have hv := valOf_sound (p4 (extB β new bs) hbs (Zs Y (extB β new bs) (put (put σ ws1) os) w')) hcl hone
        have R3 := R2.set hd hv
        rw [← put_append, ← put_append] at R3
        refine hn _ _ _ (by rw [List.append_assoc]; exact R3) ?_
        intro l hl
        rcases extB_at (β := β) bs new l with ⟨i, q1, q2, q3⟩ | ⟨q1, q2⟩
        · refine absurd ⟨?_, ?_⟩ hl
          · rw [q2]; exact Nat.le_add_right _ _
          · rw [q2]; exact Nat.add_lt_add_left (by omega) _
        · exact q2
      | false =>
        rw [hown] at hout
        rw [hown, if_neg (by simp)] at hres
        obtain ⟨F, hR, hF⟩ := hres
        obtain ⟨rfl, rfl⟩ := outCells_frz hout
        have hempty : Kept X w w' := ⟨hk.os, hk.tape, hk.output, hk.size, fun k h _ => hk.block k h (fun x => x)⟩
        have R2 := R1.newObjs (os := []) (bs := []) (l := new) hk hodd rfl (fun i hi => by simp at hi) (Z := fun _ => False) (fun i b hb => by simp at hb) (fun f h => h.elim) (fun g c n h => by simp at h) (fun i j g c n c' n' h => by simp at h)
        obtain ⟨R2, hZ2⟩ := R2
        have hFZ : ∀ f ∈ F, Zs Y β (put σ ws1) w' f := by
          rcases hflat with hfl | hz
          · rw [hown] at hfl
            rw [Rd_flat (flat_false hfl) hR]
            simp
          · intro f hf2
            obtain ⟨h1, h2⟩ := hF f hf2
            refine ⟨⟨h1, h2.elim (fun h => R1.yn f (Nat.le_trans R1.kept.size h)) (fun h => (hz f h).1.2)⟩, fun l c n hl hb => ?_⟩
            rcases h2 with h2 | h2
            · have := own_block R1 hl hb
              omega
            · exact (hz f h2).2 l c n hl hb
        have hv := valOf_sound (VRs_cells (β := β) hR hFZ) hcl hone
        have R3 := Rel.set (β := β) (σ := put σ ws1) R2 hd hv
        rw [← put_append] at R3
        exact hn _ _ β (by rw [List.append_nil]; exact R3) (fun _ _ => rfl)
    · exact (E_fail.1 h2).elim
  · exact (E_fail.1 h2).elim
end
end
end Go.Proofs.YtkahcjnkmbbplaaE
