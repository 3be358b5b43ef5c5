/- The engine, part 20: a function's contract out of its run. -/
import Derived.Test.YtchdegcfohegfaaE19
namespace Go.Proofs.YtchdegcfohegfaaE
set_option linter.unusedVariables false
set_option linter.unusedSimpArgs false
set_option linter.unusedSectionVars false
open Pr

section
variable {P : Program} {ti : TI} {N : Nat} {X Y : Nat → Prop} {w0 w w' : World} {β β' : Beta} {σ σ' : St} {a a' : Act} {env : Env}

theorem outT_frz (R : Rel ti N X Y w0 β σ a w) : ∀ {t : Ty} {as rest : List AVal} {us us' : List Loc} {x : T t} {vs : List Value}, outT ti false σ t as us = some (x, rest, us') → VRs β w (Zs Y β σ w) as vs →
    ∃ (cs vs' : List Value) (F : List Nat), vs = cs ++ vs' ∧ VRs β w (Zs Y β σ w) rest vs' ∧ Rd w t x cs F ∧ ∀ f ∈ F, f < w.heap.size ∧ Y f := by
  intro t
  induction t with
  | pair p q hp hq =>
    intro as rest us us' x vs h hv
    simp only [outT] at h
    split at h
    · rename_i x1 as1 us1 h1
      split at h
      · rename_i x2 as2 us2 h2
        cases h
        obtain ⟨c1, v1, F1, rfl, hv1, o1, m1⟩ := hp h1 hv
        obtain ⟨c2, v2, F2, rfl, hv2, o2, m2⟩ := hq h2 hv1
        exact ⟨c1 ++ c2, v2, F1 ++ F2, (List.append_assoc ..).symm, hv2, ⟨c1, c2, F1, F2, rfl, rfl, o1, o2⟩, fun f hf => (List.mem_append.1 hf).elim (m1 f) (m2 f)⟩
      · cases h
    · cases h
  | slice e t _ =>
    intro as rest us us' x vs h hv
    cases as with
    | nil => simp [outT] at h
    | cons c cs =>
      obtain ⟨u, vs', rfl, hu, _, hv'⟩ := hv
      simp only [outT] at h
      split at h
      · cases h
        exact ⟨[u], vs', [], rfl, hv', ⟨none, 0, by rw [show u = _ from hu]; rfl, Nat.le_refl _, .inl ⟨rfl, rfl⟩⟩, by simp⟩
      · rename_i e' t' xs
        cases hee : Nat.beq e' e with
        | false => simp only [hee, cond_false] at h; cases h
        | true =>
          simp only [hee, cond_true, cond_false] at h
          obtain rfl := Nat.eq_of_beq_eq_true hee
          split at h
          · rename_i ys hz
            cases h
            obtain ⟨rfl, rfl⟩ := encRow_spec hz
            obtain ⟨F, h1, h2⟩ := hu
            exact ⟨[u], vs', F, rfl, hv', h1, fun f hf => (h2 f hf).1⟩
          · cases h
      · rename_i e' t' xs m
        cases hee : Nat.beq e' e with
        | false => simp only [hee, cond_false] at h; cases h
        | true =>
          simp only [hee, cond_true, cond_false] at h
          obtain rfl := Nat.eq_of_beq_eq_true hee
          split at h
          · rename_i ys hz
            cases h
            obtain ⟨rfl, rfl⟩ := encRow_spec hz
            obtain ⟨F, h1, h2⟩ := hu
            obtain ⟨F', h3, h4⟩ := Rd_seen h1
            exact ⟨[u], vs', F', rfl, hv', h4, fun f hf => (h2 f (h3 f hf)).1⟩
          · cases h
      · rename_i l n
        split at h
        · rename_i m xs hro
          simp only [cond_false] at h
          cases h
          obtain ⟨b, hb, hrow, _, _, hobj⟩ := rowOf_sound R hro
          obtain ⟨F, h1, h2⟩ := row_slc (Z' := fun f => f < w.heap.size ∧ Y f) (β := β) hb hrow hu (fun g hg => hg.1) (fun g hg => ⟨obj_block R hobj (by rw [hb, ← hg]), R.objY hobj (by rw [hb, ← hg])⟩)
          exact ⟨[u], vs', F, rfl, hv', h1, h2⟩
        · cases h
      · cases h
  | vslice e t _ =>
    intro as rest us us' x vs h hv
    cases as with
    | nil => simp [outT] at h
    | cons c cs =>
      obtain ⟨u, vs', rfl, hu, _, hv'⟩ := hv
      simp only [outT] at h
      split at h
      · cases h
        exact ⟨[u], vs', [], rfl, hv', ⟨none, 0, by rw [show u = _ from hu], Nat.le_refl _, Nat.le_refl _, .inl ⟨rfl, rfl⟩⟩, by simp⟩
      · split at h
        · simp [Bool.false_and, cond_false] at h
        · cases h
      · cases h
  | _ =>
    intro as rest us us' x vs h hv
    cases as with
    | nil => simp [outT] at h
    | cons c cs =>
      obtain ⟨u, vs', rfl, hu, _, hv'⟩ := hv
      simp only [outT] at h
      split at h
      · rename_i y hy
        cases h
        obtain ⟨F, hF, h2⟩ := Rd_enc1 hy hu
        exact ⟨[u], vs', F, rfl, hv', hF, fun f hf => (h2 f hf).1⟩
      · cases h

theorem OwnR_mono {Z Z' : Nat → Prop} (hZ : ∀ f, Z f → Z' f) : ∀ {t : Ty} {x : T t} {cs bs}, OwnR w Z t x cs bs → OwnR w Z' t x cs bs := by
  have row : ∀ {e : TypeId} {t : Ty} {xs : List (T t)} {b}, RowOk w Z e t xs b → RowOk w Z' e t xs b := by
    intro e t xs b h
    obtain ⟨h1, h2⟩ := h
    refine ⟨h1, ?_⟩
    cases hb : b.1 with
    | none => rw [hb] at h2; exact h2
    | some g =>
      rw [hb] at h2
      obtain ⟨cur, F, h3, h4, h5, h6, h7, h8⟩ := h2
      exact ⟨cur, F, h3, h4, h5, h6, h7, fun f hf => hZ f (h8 f hf)⟩
  intro t
  induction t with
  | pair p q hp hq => rintro x cs bs ⟨c1, c2, b1, b2, e1, e2, h1, h2⟩; exact ⟨c1, c2, b1, b2, e1, e2, hp h1, hq h2⟩
  | slice e t _ => rintro x cs bs ⟨b, c, e1, h1, e2⟩; exact ⟨b, c, e1, row h1, e2⟩
  | vslice e t _ => rintro x cs bs ⟨b, c, e1, h0, h1, e2⟩; exact ⟨b, c, e1, h0, row h1, e2⟩
  | _ => exact fun h => h

def resF (tmps : Array Value) : ResultVar → Sem Value
  | .tmp t => pure (tmps.getD t undef)
  | .cell p t => do loadVar t (← asAddr (tmps.getD p undef))

theorem resCells_sound (hti : TiOk P ti) (R : Rel ti N X Y w0 β σ a w) : ∀ {rvs : List ResultVar} {rts : List (Ty × Bool)} {as : List AVal}, resCells ti σ rvs rts = some as →
    ∃ cs : List Value, VRs β w (Zs Y β σ w) as cs ∧ cs.length = sizes rts ∧ (∀ p ∈ rts, p.2 = false → sz p.1 = 1) ∧
      (rvs.mapM (resF a.tmps)).run P w = .ok (splitV rts cs) w
  | [], [], as, h => by cases h; exact ⟨[], rfl, rfl, fun p hp => (by cases hp), by simp [splitV]⟩
  | .tmp t :: r, (ty, g) :: q, as, h => by
    simp only [resCells] at h
    split at h
    · rename_i v hv
      cases hc : (cellsOk v && (boolEq (isAggA v) g && Nat.beq (asCells v).length (sz ty))) with
      | false => rw [hc] at h; cases h
      | true =>
        rw [hc] at h
        simp only [cond_true] at h
        split at h
        · rename_i cs hcs
          cases h
          rw [Bool.and_eq_true, Bool.and_eq_true] at hc
          obtain ⟨c1, c2, c3⟩ := hc
          have c3 := Nat.eq_of_beq_eq_true c3
          obtain ⟨ds, h1, h2, h3, h4⟩ := resCells_sound hti R hcs
          have hval := R.tmp t v hv
          have hcv := cells_of hval c1
          have hcl := VRs_len hcv
          have hval2 : a.tmps.getD t undef = (bif g then Value.agg (a.tmps.getD t undef).cells else ((a.tmps.getD t undef).cells.toList.headD undef)) ∧ (g = false → sz ty = 1) := by
            cases v with
            | agg ls =>
              have hg : g = true := by cases g <;> first | rfl | cases c2
              subst hg
              obtain ⟨us, e1, _⟩ := hval
              rw [e1]
              exact ⟨rfl, fun h => by cases h⟩
            | tup ls => cases c1
            | undef => cases c1
            | _ =>
              have hg : g = false := by cases g <;> first | rfl | cases c2
              subst hg
              have h5 := VR1_one (by rintro x rfl e; cases e) (VR_one hval (by intro l e; cases e) (by intro l e; cases e))
              have h6 : (a.tmps.getD t undef).cells = #[a.tmps.getD t undef] := by
                generalize a.tmps.getD t undef = u at h5
                cases u <;> first | rfl | (simp [Value.oneCell'] at h5)
              rw [h6]
              exact ⟨rfl, fun _ => by rw [← c3]; rfl⟩
          refine ⟨(a.tmps.getD t undef).cells.toList ++ ds, VRs_append hcv h1, ?_, ?_, ?_⟩
          · rw [List.length_append, hcl, c3, h2]; rfl
          · intro p hp
            rcases List.mem_cons.1 hp with rfl | hp
            · exact hval2.2
            · exact h3 p hp
          · rw [List.mapM_cons]
            simp only [resF, Sem.run_bind, Sem.run_pure, Result.andThen_ok, h4]
            have e1 : ((a.tmps.getD t undef).cells.toList ++ ds).take (sz ty) = (a.tmps.getD t undef).cells.toList := by rw [← c3, ← hcl]; exact List.take_left
            have e2 : ((a.tmps.getD t undef).cells.toList ++ ds).drop (sz ty) = ds := by rw [← c3, ← hcl]; exact List.drop_left
            have e3 : splitV ((ty, g) :: q) ((a.tmps.getD t undef).cells.toList ++ ds) = a.tmps.getD t undef :: splitV q ds := by
              show (bif g then Value.agg (((a.tmps.getD t undef).cells.toList ++ ds).take (sz ty)).toArray else (((a.tmps.getD t undef).cells.toList ++ ds).headD undef)) :: splitV q _ = _
              rw [e2, e1]
              congr 1
              cases g with
              | true => rw [Array.toArray_toList]; exact hval2.1.symm
              | false =>
                have hne : (a.tmps.getD t undef).cells.toList ≠ [] := by
                  intro e
                  rw [e] at hcl
                  have := sz_pos ty
                  simp at hcl
                  omega
                have e4 : ((a.tmps.getD t undef).cells.toList ++ ds).headD undef = (a.tmps.getD t undef).cells.toList.headD undef := by
                  cases hh : (a.tmps.getD t undef).cells.toList with
                  | nil => exact absurd hh hne
                  | cons x xs => rfl
                rw [e4]
                exact hval2.1.symm
            rw [e3]
        · cases h
    · cases h
  | .cell p t :: r, (ty, g) :: q, as, h => by
    simp only [resCells] at h
    split at h
    · rename_i l off hv
      split at h
      · rename_i own e cs hcell
        cases hc : (Nat.beq off 0 && ((ti.at t).ud.kn && (boolEq (ti.at t).ud.agg g && (Nat.beq cs.length (sz (ti.at t).ty) && (Nat.beq (sz ty) (sz (ti.at t).ty) && (g || Nat.beq (sz ty) 1)))))) with
        | false => rw [hc] at h; cases h
        | true =>
          rw [hc] at h
          simp only [cond_true] at h
          split at h
          · rename_i ds' hds
            cases h
            simp only [Bool.and_eq_true] at hc
            obtain ⟨c0, ck, c1, c2, c3, c4⟩ := hc
            obtain rfl := Nat.eq_of_beq_eq_true c0
            have c2 := Nat.eq_of_beq_eq_true c2
            have c3 := Nat.eq_of_beq_eq_true c3
            obtain ⟨ds, h1, h2, h3, h4⟩ := resCells_sound hti R hds
            obtain ⟨g1, c', len', hb, hpe⟩ := R.tmp p _ hv
            have ho := R.obj l
            rw [hcell] at ho
            obtain ⟨b, hb', ⟨g', vs, q1, q2, q3, q4, q5, q6⟩, _⟩ := ho
            rw [hb] at hb'
            cases hb'
            cases q1
            have hvl := VRs_len q3
            have hagg : (ti.at t).ud.agg = g := by cases h9 : (ti.at t).ud.agg <;> cases g <;> simp_all [boolEq]
            have hone : g = false → sz ty = 1 := by
              rintro rfl
              rw [Bool.false_or] at c4
              exact Nat.eq_of_beq_eq_true c4
            have hat : At w ⟨g1, 0, none⟩ vs := by
              have := At_block (off := 0) q2 vs.length
              rwa [List.drop_zero, List.take_length] at this
            have hload := run_load (hti := hti) ck (us := vs) (by rw [hvl, c2]) hat (fun hh => by rw [hvl, c2, ← c3]; exact hone (by rw [← hagg]; exact hh))
            have hload : (loadVar t ⟨g1, 0, none⟩).run P w = .ok (if (ti.at t).ud.agg then .agg vs.toArray else vs.headD undef) w := by
              simpa [Instr.loadAt, Instr.sureAddr] using hload
            refine ⟨vs ++ ds, VRs_append q3 h1, ?_, ?_, ?_⟩
            · rw [List.length_append, hvl, c2, ← c3, h2]; rfl
            · intro p' hp'
              rcases List.mem_cons.1 hp' with rfl | hp'
              · exact hone
              · exact h3 p' hp'
            · rw [List.mapM_cons]
              simp only [resF, Sem.run_bind, Sem.run_pure, Result.andThen_ok, hpe, asAddr, hload, h4]
              have e1 : (vs ++ ds).take (sz ty) = vs := by rw [c3, ← c2, ← hvl]; exact List.take_left
              have e2 : (vs ++ ds).drop (sz ty) = ds := by rw [c3, ← c2, ← hvl]; exact List.drop_left
              have e3 : splitV ((ty, g) :: q) (vs ++ ds) = (if (ti.at t).ud.agg then .agg vs.toArray else vs.headD undef) :: splitV q ds := by
                show (bif g then Value.agg ((vs ++ ds).take (sz ty)).toArray else ((vs ++ ds).headD undef)) :: splitV q _ = _
                rw [e2, e1, hagg]
                congr 1
                cases g with
                | true => rfl
                | false =>
                  cases vs with
                  | nil =>
                    have := sz_pos (ti.at t).ty
                    simp at hvl
                    omega
                  | cons x xs => rfl
              rw [e3]
          · cases h
      · cases h
    · cases h
  | [], _ :: _, as, h => by simp [resCells] at h
  | .tmp _ :: _, [], as, h => by simp [resCells] at h
  | .cell _ _ :: _, [], as, h => by simp [resCells] at h

theorem results_run {fn : Func} {rts : List (Ty × Bool)} {cs : List Value} (h : (fn.results.toList.mapM (resF a.tmps)).run P w = .ok (splitV rts cs) w) :
    (results fn a.tmps).run P w = .ok (valOf rts cs) w := by
  have e : results fn a.tmps = (fn.results.mapM (resF a.tmps) >>= fun vs => pure (if h : vs.size = 1 then vs[0] else .tuple vs)) := by
    unfold results
    congr 2
  rw [e, Sem.run_bind, Array.mapM_eq_mapM_toList, Sem.run_map, h]
  simp only [Result.andThen_ok, Sem.run_pure]
  unfold valOf
  congr 1
  match splitV rts cs with
  | [] => rfl
  | [v] => rfl
  | u :: v :: vs => rfl

theorem initS_look : ∀ {args : List AVal} {i : Nat} {l : Loc} {c : Cell}, look (initS i args) l = c → c ≠ .dead → ∃ j v, args[j]? = some v ∧ l = tmpL (i + j) ∧ c = .val v
  | [], i, l, c, h, hc => absurd h.symm hc
  | v :: vs, i, l, c, h, hc => by
    unfold initS at h
    rw [look_cons] at h
    by_cases e : tmpL i = l
    · rw [if_pos e] at h
      exact ⟨0, v, rfl, e.symm, h.symm⟩
    · rw [if_neg e] at h
      obtain ⟨j, v', h1, h2, h3⟩ := initS_look h hc
      exact ⟨j + 1, v', by simpa using h1, by rw [h2, show i + 1 + j = i + (j + 1) by omega], h3⟩

theorem argsR_get {Z : Nat → Prop} : ∀ {args : List AVal} {vals : List Value} {j : Nat} {v : AVal}, argsR w Z args vals → args[j]? = some v → ∃ u, vals[j]? = some u ∧ VR .nil w Z v u
  | [], _, j, v, h, hj => by simp at hj
  | x :: xs, _, 0, v, ⟨u, us, e, h1, h2⟩, hj => by
    simp at hj
    subst hj
    exact ⟨u, by rw [e]; rfl, h1⟩
  | x :: xs, _, j + 1, v, ⟨u, us, e, h1, h2⟩, hj => by
    obtain ⟨u', h3, h4⟩ := argsR_get h2 (by simpa using hj)
    exact ⟨u', by rw [e]; simpa using h3, h4⟩

theorem argsR_len {Z : Nat → Prop} : ∀ {args : List AVal} {vals : List Value}, argsR w Z args vals → vals.length = args.length
  | [], _, h => by rw [show _ = [] from h]; rfl
  | x :: xs, _, ⟨u, us, e, h1, h2⟩ => by rw [e, List.length_cons, List.length_cons, argsR_len h2]

/-! ### literals whose cells hold own rows -/
/-- An object's cells told otherwise. -/
theorem Rel.redesc (R : Rel ti N X Y w0 β σ a w) {l : Loc} {e : TypeId} {cs ds : List AVal} (h : look σ l = .mem true e cs) (hodd : ∀ t, l ≠ tmpL t)
    (hv : ∀ vs : List Value, VRs β w (Zs Y β σ w) cs vs → VRs β w (Zs Y β σ w) ds vs) :
    Rel ti N X Y w0 β ((l, .mem true e ds) :: σ) a w ∧ (∀ g, Zs Y β σ w g → Zs Y β ((l, .mem true e ds) :: σ) w g) := by
  have ho : ∀ l', isOwn (look ((l, .mem true e ds) :: σ) l') = true → isOwn (look σ l') = true := by
    intro l' hl'
    rw [look_cons] at hl'
    by_cases e : l = l'
    · subst e; rw [h]; rfl
    · rw [if_neg e] at hl'; exact hl'
  have hdp : ∀ l', isDeep (look ((l, .mem true e ds) :: σ) l') = true → look ((l, .mem true e ds) :: σ) l' = look σ l' := by
    intro l' hd
    rw [look_cons] at hd ⊢
    by_cases e : l = l'
    · rw [if_pos e] at hd; cases hd
    · rw [if_neg e]
  have htop : ∀ l' g' c' n, isOwn (look ((l, .mem true e ds) :: σ) l') = true → β l' = some (some g', c', n) → (∃ l0 c0 n0, isOwn (look σ l0) = true ∧ β l0 = some (some g', c0, n0)) ∨ w.heap.size ≤ g' := fun l' g' c' n h hb => .inl ⟨l', c', n, ho l' h, hb⟩
  have hZ : ∀ g, Zs Y β σ w g → Zs Y β ((l, .mem true e ds) :: σ) w g := R.stepZ rfl (Nat.le_refl _) hdp htop
  refine ⟨R.step (fun _ _ h => h) rfl R.kept (Nat.le_refl _) (fun g hg => ⟨hZ g hg, rfl⟩) (fun l h => ⟨hdp l h, fun _ _ => rfl⟩) htop R.size R.dfr ?_ ?_ (fun l1 l2 g c1 n1 c2 n2 a1 a2 => R.apart l1 l2 g c1 n1 c2 n2 (ho l1 a1) (ho l2 a2)), hZ⟩
  · intro t' v hv'
    rw [look_cons, if_neg (hodd t')] at hv'
    exact .inl ⟨hv', rfl⟩
  · intro l'
    rw [look_cons]
    by_cases e : l = l'
    · subst e
      rw [if_pos rfl]
      right
      have hob := R.obj l
      rw [h] at hob
      obtain ⟨b, h1, ⟨g, vs, m1, m2, m3, m4⟩, h3⟩ := hob
      exact ⟨b, h1, ⟨g, vs, m1, m2, VRs_mono (fun _ _ h => h) (fun g hg => ⟨hZ g hg, rfl⟩) (hv vs m3), m4⟩, fun hf => by cases hf⟩
    · rw [if_neg e]; exact .inl ⟨rfl, fun _ _ _ _ _ => rfl⟩

theorem flatO_sound (R : Rel ti N X Y w0 β σ a w) (hs : SOdd σ) {l : Loc} {e : TypeId} {cs : List AVal} (h : look σ l = .mem true e cs) :
    Rel ti N X Y w0 β (flatO ti σ l e cs) a w ∧ (∀ g, Zs Y β σ w g → Zs Y β (flatO ti σ l e cs) w g) := by
  unfold flatO
  simp only
  cases hm : memN l (refsOf (.agg cs)) with
  | true => exact ⟨R, fun g hg => hg⟩
  | false =>
    simp only [cond_false]
    have hf : FrzW σ ((refsOf (.agg cs)).map fun l' => (l', freeze (look σ l'))) := by
      intro p hp
      obtain ⟨l', _, rfl⟩ := List.mem_map.1 hp
      rfl
    have hin : ∀ l', l' ∈ refsOf (.agg cs) → l' ∈ locsOf ((refsOf (.agg cs)).map fun l' => (l', freeze (look σ l'))) := by
      have : ∀ ls : List Loc, ∀ l' ∈ ls, l' ∈ locsOf (ls.map fun l' => (l', freeze (look σ l'))) := by
        intro ls
        induction ls with
        | nil => intro l' h; cases h
        | cons x xs ih =>
          intro l' h
          rcases List.mem_cons.1 h with rfl | h
          · exact List.mem_cons_self ..
          · exact List.mem_cons_of_mem _ (ih l' h)
      exact this _
    have hout : ∀ (ls : List Loc), memN l ls = false → ∀ σ0 : St, look (put σ0 (ls.map fun l' => (l', freeze (look σ l')))) l = look σ0 l := by
      intro ls
      induction ls with
      | nil => intro _ σ0; rfl
      | cons x xs ih =>
        intro hx σ0
        simp only [memN, Bool.or_eq_false_iff] at hx
        rw [List.map_cons, put_cons, ih hx.2, look_cons, if_neg (fun e => by rw [e, Nat.beq_refl] at hx; cases hx.1)]
    obtain ⟨R1, z1⟩ := R.frz hf
    split
    · rename_i ds hds
      obtain ⟨ds', rs, hE, hk⟩ := run_E hds
      cases hk
      have hl1 : look (put σ ((refsOf (.agg cs)).map fun l' => (l', freeze (look σ l')))) l = .mem true e cs := by rw [hout _ hm, h]
      have hlo : ∀ t, l ≠ tmpL t := hs.ne l (by rw [h]; rfl)
      obtain ⟨R2, z2⟩ := R1.redesc hl1 hlo (ds := ds) (fun vs hv => snaps0_sound R1 (fun g hg => hg) hE hv (fun l' hl' hob g c len hb => by
        have hown := hf.own (hin l' hl')
        have ho := R1.obj l'
        cases hc : look (put σ ((refsOf (.agg cs)).map fun l' => (l', freeze (look σ l')))) l' with
        | row own e' t xs =>
          rw [hc] at ho hown
          cases own with
          | true => cases hown
          | false =>
            obtain ⟨b, h1, _, h3⟩ := ho
            rw [hb] at h1
            cases h1
            exact h3 rfl g rfl
        | mem own e' ds =>
          rw [hc] at ho hown
          cases own with
          | true => cases hown
          | false =>
            obtain ⟨b, h1, _, h3⟩ := ho
            rw [hb] at h1
            cases h1
            exact h3 rfl g rfl
        | deep e t k xs op => rw [hc] at hown; cases hown
        | dead => rw [hc] at hob; cases hob
        | val v => rw [hc] at hob; cases hob))
      exact ⟨R2, fun g hg => z2 g (z1 g hg)⟩
    · exact ⟨R, fun g hg => hg⟩

theorem flatO_odd (hs : SOdd σ) {l : Loc} {e : TypeId} {cs : List AVal} (h : look σ l = .mem true e cs) : SOdd (flatO ti σ l e cs) := by
  have hf : SOdd (put σ ((refsOf (.agg cs)).map fun l' => (l', freeze (look σ l')))) := by
    intro l' hl'
    have hfz : FrzW σ ((refsOf (.agg cs)).map fun l' => (l', freeze (look σ l'))) := by
      intro p hp
      obtain ⟨l', _, rfl⟩ := List.mem_map.1 hp
      rfl
    rcases hfz.look l' with e | e
    · rw [e] at hl'; exact hs l' hl'
    · rw [e] at hl'
      exact hs l' (by cases hc : look σ l' <;> rw [hc] at hl' <;> first | rfl | cases hl')
  unfold flatO
  simp only
  cases hm : memN l (refsOf (.agg cs)) with
  | true => exact hs
  | false =>
    simp only [cond_false]
    split
    · intro l' hl'
      rw [look_cons] at hl'
      by_cases e : l = l'
      · subst e; exact hs l (by rw [h]; rfl)
      · rw [if_neg e] at hl'; exact hf l' hl'
    · exact hs

theorem flats_sound : ∀ (cs : List AVal) {σ : St}, Rel ti N X Y w0 β σ a w → SOdd σ → Rel ti N X Y w0 β (flats ti cs σ) a w ∧ (∀ g, Zs Y β σ w g → Zs Y β (flats ti cs σ) w g)
  | [], σ, R, _ => ⟨R, fun g hg => hg⟩
  | c :: cs, σ, R, hs => by
    unfold flats
    split
    · rename_i l n
      split
      · rename_i e ds hl
        cases ds.any isRefA with
        | true =>
          obtain ⟨R1, z1⟩ := flatO_sound R hs hl
          obtain ⟨R2, z2⟩ := flats_sound cs R1 (flatO_odd hs hl)
          exact ⟨R2, fun g hg => z2 g (z1 g hg)⟩
        | false => exact flats_sound cs R hs
      · exact flats_sound cs R hs
    · exact flats_sound cs R hs

/-- A function's contract, by what its end tells. -/
theorem meets_core (hti : TiOk P ti) (henv : EnvOk P env) (hm : P.follows .mixedOrders = true) {n : FuncId} {fn : Func} {body : Code} (hf : P.funcs[n]? = some fn) (hb : fn.body = some body) (hN : fn.ntmps = N) {hs : Hints} {S : Spec} {fin : St → Option (T S.rt)}
    (hrun : ∀ k args r, S.f k args = some r → args.length ≤ N ∧ runFn ti env N hs fin k body (initS 0 args) = some r)
    (hend : ∀ (r : T S.rt) (w : World) (Z0 : Nat → Prop) (β : Beta) (σ : St) (a' : Act) (w' : World), Rel ti N (fun _ => False) (fun g => w.heap.size ≤ g ∨ Z0 g) w β σ a' w' → SOdd σ → fin σ = some r →
      ∃ u, (results fn a'.tmps).run P w' = .ok u w' ∧ ResR S w w' Z0 r u) : Meets P n S := by
  intro k args r vals w Z0 hZ0 hS hargs
  obtain ⟨hlen, h⟩ := hrun k args r hS
  have hvl := argsR_len hargs
  intro cs
  let b : Frame := { (default : Frame) with fn := n, kind := .normal }
  let a0 : Act := { tmps := vals.toArray ++ Array.replicate (fn.ntmps - vals.toArray.size) undef, defers := [] }
  have henter : Frame.enter P n vals.toArray .normal = b.at a0 [.code body] := by
    simp [Frame.enter, Frame.at, hf, hb, b, a0]
  have hR : Rel ti N (fun _ => False) (fun g => w.heap.size ≤ g ∨ Z0 g) w .nil (initS 0 args) a0 w := by
    have hno : ∀ l, isOwn (look (initS 0 args) l) = true → False := by
      intro l hl
      have hne : look (initS 0 args) l ≠ .dead := fun e => by rw [e] at hl; cases hl
      obtain ⟨j, v, _, _, e⟩ := initS_look rfl hne
      rw [e] at hl
      cases hl
    refine ⟨.refl _ _, fun g hg => .inl hg, fun g hg => hg.elim, ?_, rfl, ?_, ?_, fun l g c len hl => (hno l hl).elim, fun l l' g c len c' len' hl => (hno l hl).elim, fun l b _ hx => hx.elim, fun l g hl => (hno l (isDeep_own hl)).elim, fun l l' g hl => (hno l (isDeep_own hl)).elim, fun l l' g c n hl => (hno l hl).elim⟩
    · show (vals.toArray ++ Array.replicate (fn.ntmps - vals.toArray.size) undef).size = N
      simp only [Array.size_append, List.size_toArray, Array.size_replicate]
      omega
    · intro t v hv
      obtain ⟨j, v', h1, h2, h3⟩ := initS_look hv (by simp)
      cases h3
      rw [Nat.zero_add] at h2
      obtain rfl := tmpL_inj h2
      obtain ⟨u, h4, h5⟩ := argsR_get hargs h1
      have : a0.tmps.getD t undef = u := by
        show (vals.toArray ++ Array.replicate (fn.ntmps - vals.toArray.size) undef).getD t undef = u
        have hlt : t < vals.length := (List.getElem?_eq_some_iff.1 h4).1
        rw [Array.getD_eq_getD_getElem?, Array.getElem?_append_left (by simpa using hlt), List.getElem?_toArray, h4]
        rfl
      rw [this]
      exact VR_mono (fun _ _ h => h) (fun g hg => ⟨⟨⟨hZ0 g hg, .inr hg⟩, fun l c len hl => (hno l hl).elim, fun l hl => (hno l (isDeep_own hl)).elim⟩, rfl⟩) h5
    · intro l
      cases hc : look (initS 0 args) l with
      | dead => trivial
      | val v => trivial
      | row own e t xs => obtain ⟨j, v, _, _, e⟩ := initS_look hc (by simp); cases e
      | mem own e cs => obtain ⟨j, v, _, _, e⟩ := initS_look hc (by simp); cases e
      | deep e t k xs op => obtain ⟨j, v, _, _, e⟩ := initS_look hc (by simp); cases e
  have hlive : Live ti N (fun _ => False) (fun g => w.heap.size ≤ g ∨ Z0 g) w 1 (initS 0 args) a0 w := by
    refine ⟨_, hR, fun l hl => ?_, fun _ _ => rfl⟩
    have hne : look (initS 0 args) l ≠ .dead := fun e => by rw [e] at hl; cases hl
    obtain ⟨j, v, _, _, e⟩ := initS_look rfl hne
    rw [e] at hl
    cases hl
  obtain ⟨a', w', todo, ⟨u, hres, hd, hk, hRes⟩, hst⟩ := runFn_sound (P := P) (b := b) (cs := cs)
    (Post := fun a' w' => ∃ u, (results fn a'.tmps).run P w' = .ok u w' ∧ a'.defers = [] ∧ Kept (fun _ => False) w w' ∧ ResR S w w' Z0 r u) hti henv hm (by
      intro tick σ a' w' hfin ⟨β, R0, hs0, _⟩
      obtain ⟨u, h1, h2⟩ := hend r w Z0 β σ a' w' R0 hs0 hfin
      exact ⟨u, h1, R0.dfr, R0.kept, h2⟩) h hlive
  rw [← henter] at hst
  exact ⟨.returned u, w', _, ⟨u, rfl, hk, hRes⟩, hst, rfl, rfl, hd, rfl, fn, hf, hres⟩

/-- A function's contract. -/
theorem meets_of_run (hti : TiOk P ti) (henv : EnvOk P env) (hm : P.follows .mixedOrders = true) {n : FuncId} {fn : Func} {body : Code} (hf : P.funcs[n]? = some fn) (hb : fn.body = some body) (hN : fn.ntmps = N) {hs : Hints} {S : Spec}
    (hrun : ∀ k args r, S.f k args = some r → args.length ≤ N ∧ runFn ti env N hs (finT ti S.own fn.results.toList S.rts S.rt) k body (initS 0 args) = some r) (hdp : S.deep = false := by rfl) : Meets P n S := by
  refine meets_core hti henv hm hf hb hN hrun ?_
  intro r w Z0 β σ a' w' R0 hs0 hfin
  unfold finT at hfin
  split at hfin
  · rename_i as has
    obtain ⟨cs', c1, c2, c3, c4⟩ := resCells_sound hti R0 has
    obtain ⟨R, zR⟩ := flats_sound as R0 hs0
    have c1 := VRs_mono (fun _ _ h => h) (fun g hg => ⟨zR g hg, rfl⟩) c1
    refine ⟨_, results_run c4, cs', rfl, c2, c3, ?_⟩
    rw [hdp, if_neg (by simp)]
    cases hown : S.own with
    | true =>
      rw [hown] at hfin
      rw [if_pos rfl]
      split at hfin
      · rename_i x us' hx
        cases hfin
        obtain ⟨ds, vs', bs, ls, e1, e2, e3, e4, e5, e6, e7, e8⟩ := outT_own R hx c1
        obtain rfl : vs' = [] := e2
        rw [List.append_nil] at e1
        subst e1
        refine ⟨bs, OwnR_mono ?_ e3, ?_, e7⟩
        · intro f hf
          refine ⟨hf.1.1, hf.1.2, fun c n hm => ?_⟩
          obtain ⟨l, _, c2, n2, hb2, ho2⟩ := e8 _ hm f rfl
          exact hf.2 l c2 n2 ho2 hb2
        · intro g c n hm
          obtain ⟨l, _, c2, n2, hb2, ho2⟩ := e8 _ hm g rfl
          exact (R.new l g c2 n2 ho2 hb2).elim id (fun h => h.elim)
      · cases hfin
    | false =>
      rw [hown] at hfin
      rw [if_neg (by simp)]
      split at hfin
      · rename_i x us' hx
        cases hfin
        obtain ⟨ds, vs', F, e1, e2, e3, e4⟩ := outT_frz R hx c1
        obtain rfl : vs' = [] := e2
        rw [List.append_nil] at e1
        subst e1
        exact ⟨F, e3, e4⟩
      · cases hfin
  · cases hfin
/-- The same, with own rows in the result. -/
theorem meets_deep_of_run (hti : TiOk P ti) (henv : EnvOk P env) (hm : P.follows .mixedOrders = true) {n : FuncId} {fn : Func} {body : Code} (hf : P.funcs[n]? = some fn) (hb : fn.body = some body) (hN : fn.ntmps = N) {hs : Hints} {S : Spec}
    (hrun : ∀ k args r, S.f k args = some r → args.length ≤ N ∧ runFn ti env N hs (finD ti fn.results.toList S.rts S.rt) k body (initS 0 args) = some r) (hdp : S.deep = true := by rfl) : Meets P n S := by
  refine meets_core hti henv hm hf hb hN hrun ?_
  intro r w Z0 β σ a' w' R hs0 hfin
  unfold finD at hfin
  split at hfin
  · rename_i as has
    obtain ⟨cs', c1, c2, c3, c4⟩ := resCells_sound hti R has
    cases hnd : nodupN (refsOf (.agg as)) with
    | false => rw [hnd] at hfin; cases hfin
    | true =>
    rw [hnd] at hfin
    simp only [cond_true] at hfin
    obtain ⟨⟨y, rest⟩, rs, hE, hk⟩ := run_E hfin
    cases rest with
    | cons z zs => simp at hk
    | nil =>
    have hk : y = r := by simpa using hk
    subst hk
    obtain ⟨d1, us', cs1, F, e1, e2, v1, q1, q2, q3⟩ := absC_sound R hE c1 (nodupN_nd hnd)
    obtain rfl : us' = [] := v1
    rw [List.append_nil] at e1
    subst e1
    refine ⟨_, results_run c4, _, rfl, c2, c3, ?_⟩
    rw [hdp, if_pos rfl]
    refine ⟨F, q1, q2, fun f hf => ?_⟩
    obtain ⟨m, _, k2⟩ := q3 f hf
    exact (R.owns_new k2).elim id (fun h => h.elim)
  · cases hfin
end
end Go.Proofs.YtchdegcfohegfaaE
