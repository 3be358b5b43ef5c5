/- The engine, part 9: make, lengths, rows given away, stores. -/
import Derived.Test.YtchdegcfohegfaaE8
namespace Go.Proofs.YtchdegcfohegfaaE
set_option linter.unusedVariables false
set_option linter.unusedSimpArgs false
set_option linter.unusedSectionVars false
open Pr

section
variable {P : Program} {ti : TI} {N : Nat} {X Y : Nat → Prop} {w0 w w' : World} {β β' : Beta} {σ σ' : St} {a a' : Act}

theorem opdEq_sound {l c : Operand} {lv cv : AVal} {ln cn : Int} (h : opdEq l c = true) (h1 : (opd l).E σ lv) (h2 : (opd c).E σ cv) (h3 : (idxA lv).E σ ln) (h4 : (idxA cv).E σ cn) : ln = cn := by
  unfold opdEq at h
  split at h
  · rename_i t u
    obtain rfl := Nat.eq_of_beq_eq_true h
    simp only [opd, tmpv, E_get] at h1 h2
    split at h1
    · rename_i v' hv
      rw [hv] at h2
      have h2 : (Pr.ret v').E σ cv := h2
      rw [E_ret] at h1 h2
      subst h1
      subst h2
      cases v' <;> simp only [idxA, E_ret, E_fail] at h3 h4
      rw [← h3, ← h4]
    · exact (E_fail.1 h1).elim
  · rename_i k x k' y
    have h : x = y := by simpa using h
    simp only [opd, constA, E_ret] at h1 h2
    subst h1
    subst h2
    simp only [idxA, E_ret] at h3 h4
    rw [← h3, ← h4, h]
  · cases h

section
variable (hti : TiOk P ti) (R : Rel ti N X Y w0 β σ a w) {o : Oper} {new : Loc} (hd : ∀ t, o.dst = some t → t < N) {ws : Ws}
  (hodd : ∀ t, new ≠ tmpL t) (hf : ∀ j, new ≤ j → j < new + 128 → β j = none)
include hti R hd hodd hf

theorem op_makeSlice {t : TypeId} {l c : Operand} (ho : o.op = .makeSlice t l c) (h : ((opd l).bind fun lv => (opd c).bind fun cv => (idxA lv).bind fun ln => (idxA cv).bind fun cn => match (ti.at t).ud with
    | .slice e => Pr.guard (decide (0 ≤ ln)) (.guard (decide (ln ≤ cn)) (.guard (decide (cn * (ti.at e).bytes ≤ 140737488355328))
        (.ret ((new, Cell.row true e (ti.at e).ty (List.replicate cn.toNat (dflt (ti.at e).ty))) :: setTmp o.dst (.ref new (bif opdEq l c then none else some ln.toNat))))))
    | _ => .fail).E σ ws) : Sound P ti N X Y w0 β σ a w o new ws := by
  simp only [E_bind] at h
  obtain ⟨lv, h1, cv, h2, ln, h3, cn, h4, h5⟩ := h
  split at h5
  · rename_i e hs
    simp only [E_guard, E_ret] at h5
    obtain ⟨b1, b2, b3, rfl⟩ := h5
    have b1 : 0 ≤ ln := by simpa using b1
    have b2 : ln ≤ cn := by simpa using b2
    have b3 : cn * (ti.at e).bytes ≤ 140737488355328 := by simpa using b3
    have hu : P.underlying t = _ := hti.slice hs
    have hk := hti.sl t e hs
    obtain ⟨i, z, i1, i4, i5, i2, i3⟩ := (hti.td e hk).info
    have hby := hti.by0 e hk
    have hsp := sz_pos (ti.at e).ty
    have hzl := zeroC_len (ti.at e).ty
    obtain ⟨kl, el⟩ := idx_sound (opd_sound R h1) h3
    obtain ⟨kc, ec⟩ := idx_sound (opd_sound R h2) h4
    have hc63 : cn ≤ 140737488355328 := by
      have : cn * 1 ≤ cn * (ti.at e).bytes := Int.mul_le_mul_of_nonneg_left (by omega) (by omega)
      omega
    have hr := run_make (P := P) w t e i z hu i1 i2 kl kc ln cn b1 b2 (by rw [i5, Int.mul_comm]; omega) (by omega)
    have hcells : madeCells z.cells (cn.toNat * i.size) = ((List.replicate cn.toNat (zeroC (ti.at e).ty)).flatten).toArray := by
      have := madeCells_rep (l := zeroC (ti.at e).ty) i3 (by omega) cn.toNat
      rw [hzl] at this
      rw [i4]
      exact this
    rw [hcells] at hr
    intro next Q hn
    have hfl : ((List.replicate cn.toNat (zeroC (ti.at e).ty)).flatten).length = cn.toNat * sz (ti.at e).ty := by simp [List.length_flatten, hzl]
    have R2 := R.newObj (l := new) (c := .row true e (ti.at e).ty (List.replicate cn.toNat (dflt (ti.at e).ty))) (g := w.heap.size) (cap := cn.toNat) (len := cn.toNat) (w' := w.alloc (.cells ((List.replicate cn.toNat (zeroC (ti.at e).ty)).flatten).toArray e))
      (hf0 hti R hd hodd hf) rfl hodd (Kept.alloc w _) (Nat.le_refl _) (by
        refine ⟨(some w.heap.size, cn.toNat, cn.toNat), by rw [upd_at, if_pos rfl], ⟨by simp, ((List.replicate cn.toNat (zeroC (ti.at e).ty)).flatten).toArray, [], alloc_new w _, by simp, by simp only [maxLen]; omega, by simpa using hfl, ?_, by simp⟩, fun h => by cases h⟩
        rw [List.length_replicate, List.take_of_length_le (by rw [hfl]; exact Nat.le_refl _)]
        exact rowR_rep (Rd_zero _ _) _)
    have R3 := R2.set (d := o.dst) (v := .ref new (bif opdEq l c then none else some ln.toNat)) (u := .slice (some ⟨w.heap.size, 0, none⟩) ln.toNat cn.toNat) hd (by
      refine ⟨some w.heap.size, cn.toNat, cn.toNat, by rw [upd_at, if_pos rfl], ?_⟩
      cases hq : opdEq l c with
      | true =>
        have := opdEq_sound hq h1 h2 h3 h4
        subst this
        exact ⟨rfl, Nat.le_refl _, Nat.le_refl _⟩
      | false => exact ⟨rfl, by show ln.toNat ≤ cn.toNat; omega, Nat.le_refl _⟩)
    rw [← put_cons] at R3
    exact wp_val (by simp [execOp, ho, el, ec, hr]) (hn _ _ _ R3 (upd_same hti R hd hodd hf _))
  · exact (E_fail.1 h5).elim

theorem op_len {c : Call} (hc : c.callee = .builtin .len) (ho : o.op = .call c) (h : ((opds c.args.toList).bind fun
      | [v] => match c.argTypes.toList with
        | [t] => (lenA ti (ti.at t).ud v).bind fun n => Pr.ret (setTmp o.dst (.int .i64 (n : Int)))
        | _ => .fail
      | _ => .fail).E σ ws) : Sound P ti N X Y w0 β σ a w o new ws := by
  rw [E_bind] at h
  obtain ⟨vs, h1, h2⟩ := h
  split at h2
  · rename_i v
    split at h2
    · rename_i t hat
      simp only [E_bind, E_ret] at h2
      obtain ⟨n, h3, rfl⟩ := h2
      obtain ⟨hl, hva⟩ := opds_sound R h1
      obtain ⟨x, hx⟩ : ∃ x, c.args.toList = [x] := List.length_eq_one_iff.1 hl.symm
      have hv := hva 0 v x rfl (by rw [hx]; rfl)
      clear hva
      have hargs : c.args = #[x] := by rw [← Array.toList_inj, hx]
      have hats : c.argTypes = #[t] := by rw [← Array.toList_inj, hat]
      have key : ∀ m : Nat, (Builtin.len_ #[t] o.type #[a.eval x]).run P w = .ok (goInt m) w → n = m → Sound P ti N X Y w0 β σ a w o new (setTmp o.dst (.int .i64 (n : Int))) := by
        intro m hr e
        subst e
        refine sound_pure (u := .int .i64 (n : Int)) R hd rfl ?_
        simp only [execOp, ho, resolve, hc, hargs, hats, invoke, builtin, Sem.run_bind, Sem.run_pure, Result.andThen_ok, List.map_toArray, List.map_cons, List.map_nil, hr]
        rfl
      unfold lenA at h3
      split at h3
      · split at h3
        · rename_i s _ hs
          rw [E_ret] at h3
          have e : a.eval x = .string s := hv
          have u1 : P.underlying t = _ := hti.und hs rfl
          exact key s.size (by simp [Builtin.len_, run_underlying u1, e]) h3.symm
        · exact (E_fail.1 h3).elim
      · split at h3
        · rename_i e' t' xs _ e hs
          rw [E_ret] at h3
          obtain ⟨F, ⟨A, c', hcs, _⟩, _⟩ := hv
          have hcs : a.eval x = .slice A xs.length c' := by injection hcs
          have u1 : P.underlying t = _ := hti.und hs rfl
          exact key xs.length (by simp [Builtin.len_, run_underlying u1, hcs]) h3.symm
        · exact (E_fail.1 h3).elim
      · split at h3
        · rename_i e' t' xs m _ e hs
          rw [E_ret] at h3
          obtain ⟨F, ⟨A, c', hcs, _⟩, _⟩ := hv
          have hcs : a.eval x = .slice A m c' := by injection hcs
          have u1 : P.underlying t = _ := hti.und hs rfl
          exact key m (by simp [Builtin.len_, run_underlying u1, hcs]) h3.symm
        · exact (E_fail.1 h3).elim
      · split at h3
        · rename_i e hs
          rw [E_ret] at h3
          have e' : a.eval x = .slice none 0 0 := hv
          have u1 : P.underlying t = _ := hti.und hs rfl
          exact key 0 (by simp [Builtin.len_, run_underlying u1, e']) h3.symm
        · exact (E_fail.1 h3).elim
      · split at h3
        · rename_i l m _ e hs
          have u1 : P.underlying t = _ := hti.und hs rfl
          obtain ⟨b, cc, len, hb, hval⟩ := hv
          have hm : ∀ q : Nat, n = q → q = m.getD len → Sound P ti N X Y w0 β σ a w o new (setTmp o.dst (.int .i64 (n : Int))) := by
            intro q e1 e2
            cases b with
            | none =>
              obtain ⟨e', e3, e4⟩ := hval
              refine key 0 (by simp [Builtin.len_, run_underlying u1, e']) ?_
              rw [e1, e2, e3, e4]
            | some g =>
              obtain ⟨e', _⟩ := hval
              exact key (m.getD len) (by simp [Builtin.len_, run_underlying u1, e']) (by rw [e1, e2])
          split at h3
          · rename_i q
            rw [E_ret] at h3
            exact hm q h3.symm rfl
          · rw [E_get] at h3
            split at h3
            · rename_i own e2 t2 xs hcell
              rw [E_ret] at h3
              have h4 := R.obj l
              rw [hcell] at h4
              obtain ⟨b', hb', hrow, _⟩ := h4
              rw [hb] at hb'
              cases hb'
              exact hm xs.length h3.symm hrow.1.symm
            · rename_i own e2 cs hcell
              rw [E_ret] at h3
              have h4 := R.obj l
              rw [hcell] at h4
              obtain ⟨b', hb', ⟨g', us, _, _, hvs, hul, hcl, _⟩, _⟩ := h4
              rw [hb] at hb'
              cases hb'
              have hul : us.length = cc * sz (ti.at e2).ty := hul
              have hcl : len = cc := hcl
              refine hm _ h3.symm ?_
              rw [Option.getD_none, hcl, ← VRs_len hvs, hul]
              exact Nat.mul_div_cancel _ (sz_pos _)
            · rename_i e2 t2 k2 xs op hcell
              rw [E_ret] at h3
              have h4 := R.obj l
              rw [hcell] at h4
              obtain ⟨b', hb', hl0, _⟩ := h4
              rw [hb] at hb'
              cases hb'
              exact hm xs.length h3.symm hl0.symm
            · exact (E_fail.1 h3).elim
        · exact (E_fail.1 h3).elim
      · exact (E_fail.1 h3).elim
    · exact (E_fail.1 h2).elim
  · exact (E_fail.1 h2).elim

theorem op_minmax {c : Call} {least : Bool} (hc : c.callee = .builtin (if least then .min else .max)) (ho : o.op = .call c) (h : ((opds c.args.toList).bind fun
      | [x, y] => (maxA least x y).bind fun z => Pr.ret (setTmp o.dst z)
      | _ => .fail).E σ ws) : Sound P ti N X Y w0 β σ a w o new ws := by
  rw [E_bind] at h
  obtain ⟨vs, h1, h2⟩ := h
  split at h2
  · rename_i v1 v2
    simp only [E_bind, E_ret] at h2
    obtain ⟨z, h3, rfl⟩ := h2
    obtain ⟨hl, hv⟩ := opds_sound R h1
    obtain ⟨x, y, hx⟩ : ∃ x y, c.args.toList = [x, y] := by
      match hh : c.args.toList, hl with
      | [x, y], _ => exact ⟨x, y, rfl⟩
    have hv1 := hv 0 v1 x rfl (by rw [hx]; rfl)
    have hv2 := hv 1 v2 y rfl (by rw [hx]; rfl)
    have hargs : c.args = #[x, y] := by rw [← Array.toList_inj, hx]
    unfold maxA at h3
    split at h3
    · rename_i k m k' n
      cases hk : kindEq k k' with
      | false => rw [hk] at h3; exact (E_fail.1 h3).elim
      | true =>
        rw [hk] at h3
        obtain rfl := kindEq_eq hk
        have h3 : (Pr.ret (.int k (bif (bif least then decide (n < m) else decide (m < n)) then n else m))).E σ z := h3
        rw [E_ret] at h3
        subst h3
        have e1 : a.eval x = .int k m := hv1
        have e2 : a.eval y = .int k n := hv2
        refine sound_pure (u := .int k (bif (bif least then decide (n < m) else decide (m < n)) then n else m)) R hd rfl ?_
        cases least with
        | true =>
          simp only [if_true] at hc
          simp only [execOp, ho, resolve, hc, hargs, invoke, builtin, Sem.run_bind, Sem.run_pure, Result.andThen_ok, List.map_toArray, List.map_cons, List.map_nil, e1, e2, Builtin.min_, List.foldlM, Builtin.min2]
          by_cases hmn : n < m <;> simp [hmn]
        | false =>
          simp only [if_false, Bool.false_eq_true] at hc
          simp only [execOp, ho, resolve, hc, hargs, invoke, builtin, Sem.run_bind, Sem.run_pure, Result.andThen_ok, List.map_toArray, List.map_cons, List.map_nil, e1, e2, Builtin.max_, List.foldlM, Builtin.max2]
          by_cases hmn : m < n <;> simp [hmn]
    · exact (E_fail.1 h3).elim
  · exact (E_fail.1 h2).elim
end

/-! ### rows given away -/
theorem isOwn_freeze (c : Cell) : isOwn (freeze c) = false := by cases c <;> rfl

theorem Rel.ownY (R : Rel ti N X Y w0 β σ a w) {l : Loc} (ho : isOwn (look σ l) = true) {g c len} (hb : β l = some (some g, c, len)) : Y g :=
  (R.new l g c len ho hb).elim (R.yn g) (R.yx g)

/-- Fewer own objects: everything stays. -/
theorem Rel.less (R : Rel ti N X Y w0 β σ a w) (htmp : ∀ t v, look σ' (tmpL t) = .val v → look σ (tmpL t) = .val v)
    (hobj : ∀ l, look σ' l = look σ l ∨ look σ' l = .dead ∨ look σ' l = freeze (look σ l)) : Rel ti N X Y w0 β σ' a w ∧ ∀ g, Zs Y β σ w g → Zs Y β σ' w g := by
  have ho : ∀ l, isOwn (look σ' l) = true → look σ' l = look σ l := by
    intro l h
    rcases hobj l with h1 | h1 | h1
    · exact h1
    · rw [h1] at h; cases h
    · rw [h1, isOwn_freeze] at h; cases h
  have hdp : ∀ l, isDeep (look σ' l) = true → look σ' l = look σ l := fun l h => ho l (isDeep_own h)
  have htop : ∀ l g c n, isOwn (look σ' l) = true → β l = some (some g, c, n) → (∃ l0 c0 n0, isOwn (look σ l0) = true ∧ β l0 = some (some g, c0, n0)) ∨ w.heap.size ≤ g := fun l g c n h hb => .inl ⟨l, c, n, by rw [← ho l h]; exact h, hb⟩
  have hZ : ∀ g, Zs Y β σ w g → Zs Y β σ' w g := R.stepZ rfl (Nat.le_refl _) hdp htop
  refine ⟨R.step (fun _ _ h => h) rfl R.kept (Nat.le_refl _) (fun g hg => ⟨hZ g hg, rfl⟩) (fun l h => ⟨hdp l h, fun _ _ => rfl⟩) htop R.size R.dfr (fun t v h => .inl ⟨htmp t v h, rfl⟩) ?_ ?_, hZ⟩
  · intro l
    rcases hobj l with h1 | h1 | h1
    · exact .inl ⟨h1, fun _ _ _ _ _ => rfl⟩
    · rw [h1]; exact .inr trivial
    · right
      rw [h1]
      have hc := (R.obj l).mono (β' := β) (w' := w) (Z' := Zs Y β σ' w) (fun _ _ h => h) (Nat.le_refl _) (fun g hg => ⟨hZ g hg, rfl⟩) (fun _ => ⟨rfl, fun _ _ => rfl⟩) (fun _ _ _ _ _ => rfl)
      have hzz : ∀ {own : Bool} {b : Option Nat × Nat × Nat}, β l = some b → (own = false → ∀ g, b.1 = some g → Zs Y β σ w g) → (own = true → isOwn (look σ l) = true) → ∀ g, b.1 = some g → (g < w.heap.size) → Zs Y β σ' w g := by
        intro own b hb hz hown g hg hlt
        cases own with
        | false => exact hZ g (hz rfl g hg)
        | true =>
          refine ⟨⟨hlt, R.ownY (hown rfl) (by rw [hb, ← hg])⟩, fun l' c' len' h' hb' => ?_, fun l' hd' hm => R.dtop l l' g b.2.1 b.2.2 (hown rfl) (by rw [hb, ← hg]) (by rw [← hdp l' hd']; exact hd') hm⟩
          have h'' := ho l' h'
          have e : l' = l := R.apart l' l g c' len' b.2.1 b.2.2 (by rw [← h'']; exact h') (hown rfl) hb' (by rw [hb, ← hg])
          subst e
          rw [h1, isOwn_freeze] at h'
          cases h'
      have hR := R.obj l
      cases hcell : look σ l with
      | row own e t xs =>
        rw [hcell] at hc hR
        obtain ⟨b, hb, hr, _⟩ := hc
        obtain ⟨b', hb', _, hz⟩ := hR
        rw [hb] at hb'
        cases hb'
        refine ⟨b, hb, hr, fun _ g hg => hzz hb hz (fun h => by rw [hcell, h]; rfl) g hg ?_⟩
        obtain ⟨_, hr2⟩ := hr
        rw [hg] at hr2
        obtain ⟨cur, F, hh, _⟩ := hr2
        exact (Array.getElem?_eq_some_iff.1 hh).1
      | mem own e cs =>
        rw [hcell] at hc hR
        obtain ⟨b, hb, hr, _⟩ := hc
        obtain ⟨b', hb', _, hz⟩ := hR
        rw [hb] at hb'
        cases hb'
        refine ⟨b, hb, hr, fun _ g hg => hzz hb hz (fun h => by rw [hcell, h]; rfl) g hg ?_⟩
        obtain ⟨g2, vs, e1, hh, _⟩ := hr
        rw [hg] at e1
        cases e1
        exact (Array.getElem?_eq_some_iff.1 hh).1
      | deep e t k xs op => trivial
      | dead => trivial
      | val v => trivial
  · intro l l' g c len c' len' h h'; rw [ho l h] at h; rw [ho l' h'] at h'; exact R.apart l l' g c len c' len' h h'

theorem freeze_freeze (c : Cell) : freeze (freeze c) = freeze c := by cases c <;> rfl
theorem freeze_val {c : Cell} {v : AVal} (h : freeze c = .val v) : c = .val v := by cases c <;> simp_all [freeze]

/-- A list of places, each frozen or as it was. -/
def FrzW (σ : St) (ws : Ws) : Prop := ∀ p ∈ ws, p.2 = freeze (look σ p.1)

theorem FrzW.look {ws : Ws} (h : FrzW σ ws) : ∀ l, Go.Proofs.YtchdegcfohegfaaE.look (put σ ws) l = Go.Proofs.YtchdegcfohegfaaE.look σ l ∨ Go.Proofs.YtchdegcfohegfaaE.look (put σ ws) l = freeze (Go.Proofs.YtchdegcfohegfaaE.look σ l) := by
  induction ws generalizing σ with
  | nil => exact fun l => .inl rfl
  | cons p ws ih =>
    intro l
    have hp := h p (List.mem_cons_self ..)
    have h1 : ∀ l, Go.Proofs.YtchdegcfohegfaaE.look (p :: σ) l = Go.Proofs.YtchdegcfohegfaaE.look σ l ∨ Go.Proofs.YtchdegcfohegfaaE.look (p :: σ) l = freeze (Go.Proofs.YtchdegcfohegfaaE.look σ l) := by
      intro l
      obtain ⟨l', c⟩ := p
      rw [look_cons]
      by_cases e : l' = l
      · subst e; rw [if_pos rfl]; exact .inr hp
      · rw [if_neg e]; exact .inl rfl
    have h2 : FrzW (p :: σ) ws := by
      intro q hq
      have := h q (List.mem_cons_of_mem _ hq)
      rcases h1 q.1 with e | e
      · rw [e]; exact this
      · rw [e, freeze_freeze]; exact this
    rw [put_cons]
    rcases ih h2 l with e | e <;> rcases h1 l with e' | e'
    · exact .inl (by rw [e, e'])
    · exact .inr (by rw [e, e'])
    · exact .inr (by rw [e, e'])
    · exact .inr (by rw [e, e', freeze_freeze])

theorem FrzW.own {ws : Ws} (h : FrzW σ ws) {l : Loc} (hl : l ∈ locsOf ws) : isOwn (Go.Proofs.YtchdegcfohegfaaE.look (put σ ws) l) = false := by
  induction ws generalizing σ with
  | nil => cases hl
  | cons p ws ih =>
    obtain ⟨l', c⟩ := p
    have hp := h (l', c) (List.mem_cons_self ..)
    have h2 : FrzW ((l', c) :: σ) ws := by
      intro q hq
      have := h q (List.mem_cons_of_mem _ hq)
      rw [look_cons]
      by_cases e : l' = q.1
      · rw [if_pos e]
        have hp : c = freeze (Go.Proofs.YtchdegcfohegfaaE.look σ l') := hp
        rw [hp, freeze_freeze, e]
        exact this
      · rw [if_neg e]; exact this
    rw [put_cons]
    rcases List.mem_cons.1 hl with rfl | hl
    · rcases h2.look l with e | e
      · rw [e, look_cons, if_pos rfl, show c = freeze _ from hp, isOwn_freeze]
      · rw [e, isOwn_freeze]
    · exact ih h2 hl

theorem Rel.frz (R : Rel ti N X Y w0 β σ a w) {ws : Ws} (h : FrzW σ ws) : Rel ti N X Y w0 β (put σ ws) a w ∧ ∀ g, Zs Y β σ w g → Zs Y β (put σ ws) w g :=
  R.less (fun t v hv => by
    rcases h.look (tmpL t) with e | e
    · rw [← e]; exact hv
    · rw [e] at hv; exact freeze_val hv) (fun l => (h.look l).imp id .inr)

theorem freezes_frz : ∀ {ls : List Loc} {ws : Ws}, (freezes ls).E σ ws → FrzW σ ws ∧ ∀ l ∈ ls, l ∈ locsOf ws
  | [], ws, h => by rw [freezes, E_ret] at h; subst h; exact ⟨fun p hp => (by cases hp), fun l hl => (by cases hl)⟩
  | l :: ls, ws, h => by
    simp only [freezes, E_get, E_bind, E_ret] at h
    obtain ⟨vs, h1, rfl⟩ := h
    obtain ⟨h2, h3⟩ := freezes_frz h1
    refine ⟨fun p hp => ?_, fun l' hl => ?_⟩
    · rcases List.mem_cons.1 hp with rfl | hp
      · rfl
      · exact h2 p hp
    · rcases List.mem_cons.1 hl with rfl | hl
      · exact List.mem_cons_self ..
      · exact List.mem_cons_of_mem _ (h3 l' hl)
end
end Go.Proofs.YtchdegcfohegfaaE
