/- The engine, part 6: the operations that leave memory as it is, one by one. -/
import Derived.Test.YtchdegcfohegfaaE5
namespace Go.Proofs.YtchdegcfohegfaaE
set_option linter.unusedVariables false
set_option linter.unusedSimpArgs false
set_option linter.unusedSectionVars false
open Pr

theorem intsOf_spec {β : Beta} {w : World} {Z : Nat → Prop} {k : IntKind} : ∀ {cs : List AVal} {xs : List Int} {us : List Value}, intsOf k cs = some xs → VRs β w Z cs us → us = xs.map (.int k ·)
  | [], xs, us, h, hv => by cases h; exact hv
  | c :: cs, xs, us, h, hv => by
    obtain ⟨u, us', rfl, h1, _, h3⟩ := hv
    cases c <;> simp only [intsOf] at h <;> try (cases h; done)
    rename_i k' n
    cases hk : kindEq k' k with
    | false => rw [hk] at h; cases h
    | true =>
      rw [hk] at h
      obtain rfl := kindEq_eq hk
      simp only [cond_true] at h
      split at h
      · rename_i l hl
        cases h
        rw [intsOf_spec hl h3, show u = _ from h1]
        rfl
      · cases h

section
variable {P : Program} {ti : TI} {N : Nat} {X Y : Nat → Prop} {w0 w w' : World} {β β' : Beta} {σ σ' : St} {a a' : Act}
variable (hti : TiOk P ti) (R : Rel ti N X Y w0 β σ a w) {o : Oper} {new : Loc} (hd : ∀ t, o.dst = some t → t < N) {ws : Ws}
include hti R hd

theorem op_bin {op : BinOp} {t t' : TypeId} {x y : Operand} (ho : o.op = .binOp op t x y t') (h : ((opd x).bind fun v => (opd y).bind fun w => (binA ti op t v w).bind fun z => .ret (setTmp o.dst z)).E σ ws) : Sound P ti N X Y w0 β σ a w o new ws := by
  simp only [E_bind, E_ret] at h
  obtain ⟨v, h1, u, h2, z, h3, rfl⟩ := h
  obtain ⟨g1, r, h4, h5⟩ := binA_sound hti R hd (t := t) (opd_sound R h1) (opd_sound R h2) h3
  refine sound_pure R hd h5 ?_
  simp [execOp, ho, g1, h4]

theorem op_un {op : UnOp} {t : TypeId} {x : Operand} (ho : o.op = .unOp op t x) (h : ((opd x).bind fun v => (unA op v).bind fun z => .ret (setTmp o.dst z)).E σ ws) : Sound P ti N X Y w0 β σ a w o new ws := by
  simp only [E_bind, E_ret] at h
  obtain ⟨v, h1, z, h3, rfl⟩ := h
  have hv := opd_sound R h1
  unfold unA at h3
  split at h3
  · split at h3
    · rw [E_ret] at h3
      subst h3
      rename_i k n _
      have e : a.eval x = .int k n := hv
      exact sound_pure (u := .int k (k.wrap (0 - n))) R hd rfl (by simp [execOp, ho, e, Op.unary, Op.intArith])
    · exact (E_fail.1 h3).elim
  · split at h3
    · rw [E_ret] at h3
      subst h3
      rename_i b _
      have e : a.eval x = .bool b := hv
      exact sound_pure (u := .bool (!b)) R hd rfl (by simp [execOp, ho, e, Op.unary])
    · exact (E_fail.1 h3).elim
  · exact (E_fail.1 h3).elim

theorem op_convert {s d : TypeId} {x : Operand} (ho : o.op = .convert s d x) (h : ((opd x).bind fun v => match (ti.at s).ud, (ti.at d).ud, v with
    | .int _, .int k, .int _ n => Pr.ret (setTmp o.dst (.int k (k.wrap n)))
    | .str, .str, .str s => .ret (setTmp o.dst (.str s))
    | _, _, _ => .fail).E σ ws) : Sound P ti N X Y w0 β σ a w o new ws := by
  rw [E_bind] at h
  obtain ⟨v, h1, h2⟩ := h
  have hv := opd_sound R h1
  split at h2
  · rename_i k' k kk n hs hd'
    rw [E_ret] at h2
    subst h2
    have e : a.eval x = .int kk n := hv
    have u1 : P.underlying s = _ := hti.und hs rfl
    have u2 : P.underlying d = _ := hti.und hd' rfl
    exact sound_pure (u := .int k (k.wrap n)) R hd rfl (by simp [execOp, ho, e, convert, run_underlying u1, run_underlying u2, Conv.intToInt])
  · rename_i ss hs hd'
    rw [E_ret] at h2
    subst h2
    have e : a.eval x = .string ss := hv
    have u1 : P.underlying s = _ := hti.und hs rfl
    have u2 : P.underlying d = _ := hti.und hd' rfl
    exact sound_pure (u := .string ss) R hd rfl (by simp [execOp, ho, e, convert, run_underlying u1, run_underlying u2])
  · exact (E_fail.1 h2).elim

theorem op_load {t : TypeId} {x : Operand} (ho : o.op = .load t x) (h : ((opd x).bind fun v => bif (ti.at t).ud.kn then (loadA ti t v).bind fun x => .ret (setTmp o.dst x) else .fail).E σ ws) : Sound P ti N X Y w0 β σ a w o new ws := by
  rw [E_bind] at h
  obtain ⟨v, h1, h2⟩ := h
  cases hk : (ti.at t).ud.kn with
  | false => rw [hk] at h2; exact (E_fail.1 h2).elim
  | true =>
    rw [hk] at h2
    have h2 : ((loadA ti t v).bind fun x => .ret (setTmp o.dst x)).E σ ws := h2
    simp only [E_bind, E_ret] at h2
    obtain ⟨z, h3, rfl⟩ := h2
    obtain ⟨r, h4, h5⟩ := loadA_sound hti R hk (opd_sound R h1) h3
    exact sound_pure R hd h5 (by simp [execOp, ho, h4])

theorem op_fieldAddr {s : TypeId} {x : Operand} {f : Nat} (ho : o.op = .fieldAddr s x f) (h : ((opd x).bind fun v => (fldAddrA ti s f v).bind fun z => .ret (setTmp o.dst z)).E σ ws) : Sound P ti N X Y w0 β σ a w o new ws := by
  simp only [E_bind, E_ret] at h
  obtain ⟨v, h1, z, h3, rfl⟩ := h
  obtain ⟨r, h4, h5⟩ := fldAddrA_sound hti R (opd_sound R h1) h3
  exact sound_pure R hd h5 (by simp [execOp, ho, h4])

theorem op_indexAddr {t : TypeId} {x i : Operand} (ho : o.op = .indexAddr t x i) (h : ((opd x).bind fun v => (opd i).bind fun iv => (idxA iv).bind fun n => match (ti.at t).ud with
    | .slice e => (idxAddrA ti e v n).bind fun z => .ret (setTmp o.dst z)
    | _ => .fail).E σ ws) : Sound P ti N X Y w0 β σ a w o new ws := by
  simp only [E_bind] at h
  obtain ⟨v, h1, iv, h2, n, h3, h4⟩ := h
  split at h4
  · rename_i e k
    simp only [E_bind, E_ret] at h4
    obtain ⟨z, h5, rfl⟩ := h4
    obtain ⟨kk, hi⟩ := idx_sound (opd_sound R h2) h3
    obtain ⟨r, h6, h7⟩ := idxAddrA_sound hti R k (kk := kk) (opd_sound R h1) h5
    exact sound_pure R hd h7 (by simp [execOp, ho, hi, h6])
  · exact (E_fail.1 h4).elim

theorem op_index {t : TypeId} {x i : Operand} (ho : o.op = .index t x i) (h : ((opd x).bind fun v => (opd i).bind fun iv => (idxA iv).bind fun n => match v with
    | .str s => bif (match (ti.at t).ud with | .str => true | _ => false) then .guard (boundA n s.size) (.ret (setTmp o.dst (.int .u8 ((s.data.getD n.toNat 0).toNat : Int)))) else .fail
    | .agg cs => match (ti.at t).ud with
      | .arr len e => match (ti.at e).ud, (ti.at e).ty with
        | .int _, .int k => match intsOf k cs with
          | some xs => bif Nat.beq xs.length len then .guard (boundA n xs.length) (.ret (setTmp o.dst (.int k (xs.getD n.toNat 0)))) else .fail
          | none => .fail
        | _, _ => .fail
      | _ => .fail
    | _ => .fail).E σ ws) : Sound P ti N X Y w0 β σ a w o new ws := by
  simp only [E_bind] at h
  obtain ⟨v, h1, iv, h2, n, h3, h4⟩ := h
  split at h4
  · rename_i s
    split at h4
    · rename_i hs
      have h4 : (Pr.guard (boundA n s.size) (.ret (setTmp o.dst (.int .u8 ((s.data.getD n.toNat 0).toNat : Int))))).E σ ws := h4
      rw [E_guard, E_ret] at h4
      obtain ⟨hb, rfl⟩ := h4
      have hb : 0 ≤ n ∧ n < (s.size : Int) := by simpa [boundA] using hb
      obtain ⟨kk, hi⟩ := idx_sound (opd_sound R h2) h3
      have e : a.eval x = .string s := opd_sound R h1
      have u1 : P.underlying t = _ := hti.und hs rfl
      have hlt : n.toNat < s.size := by omega
      have hg : s[n.toNat]? = some (s.data.getD n.toNat 0) := by
        have hlt' : n.toNat < s.data.size := hlt
        rw [Array.getD_eq_getD_getElem?, Array.getElem?_eq_getElem hlt', getElem?_pos s n.toNat hlt]
        rfl
      exact sound_pure (u := .int .u8 ((s.data.getD n.toNat 0).toNat : Int)) R hd rfl (by simp [execOp, ho, hi, e, Instr.index, asIntOf, run_underlying u1, hb.1, hg])
    · exact (E_fail.1 h4).elim
  · rename_i cs
    split at h4
    · rename_i len e hud
      split at h4
      · rename_i kd k hue hty
        split at h4
        · rename_i xs hxs
          cases hl : Nat.beq xs.length len with
          | false => rw [hl] at h4; exact (E_fail.1 h4).elim
          | true =>
            rw [hl] at h4
            simp only [cond_true, E_guard, E_ret] at h4
            obtain ⟨hb, rfl⟩ := h4
            have hb : 0 ≤ n ∧ n < (xs.length : Int) := by simpa [boundA] using hb
            have hl := Nat.eq_of_beq_eq_true hl
            obtain ⟨kk, hi⟩ := idx_sound (opd_sound R h2) h3
            obtain ⟨us, he, hvs⟩ := opd_sound R h1
            obtain rfl := intsOf_spec hxs hvs
            have u1 : P.underlying t = _ := hti.und hud rfl
            have ke := hti.ar t len e hud
            have hs1 : sz (ti.at e).ty = 1 := by rw [hty]; rfl
            have ha : (ti.at e).ud.agg = false := by rw [hue]; rfl
            have hlt : n.toNat < xs.length := by omega
            refine sound_pure (u := .int k (xs.getD n.toNat 0)) R hd rfl ?_
            have hb2 : n < (len : Int) := by omega
            simp [execOp, ho, hi, he, Instr.index, asIntOf, run_underlying u1, hb.1, hb2, part, hti.agg ke, hti.size ke, hs1, ha, List.getElem?_eq_getElem hlt, List.getD_eq_getElem?_getD]
        · exact (E_fail.1 h4).elim
      · exact (E_fail.1 h4).elim
    · exact (E_fail.1 h4).elim
  · exact (E_fail.1 h4).elim

omit hti R hd in
theorem VRt_get {Z : Nat → Prop} : ∀ {vs : List AVal} {us : List Value} {i : Nat} {v : AVal}, VRt β w Z vs us → vs.drop i = v :: vs.drop (i + 1) → ∃ u, us[i]? = some u ∧ VR2 β w Z v u
  | [], us, i, v, h, e => by simp at e
  | c :: cs, us, 0, v, ⟨u, us', h0, h1, h2⟩, e => by
    simp at e
    subst e
    exact ⟨u, by rw [h0]; rfl, h1⟩
  | c :: cs, us, i + 1, v, ⟨u, us', h0, h1, h2⟩, e => by
    rw [h0]
    obtain ⟨u', h3, h4⟩ := VRt_get (i := i) h2 (by simpa using e)
    exact ⟨u', by simpa using h3, h4⟩

theorem op_extract {x : Operand} {i : Nat} (ho : o.op = .extract x i) (h : ((opd x).bind fun
    | .tup vs => match vs.drop i with
      | v :: _ => Pr.ret (setTmp o.dst v)
      | [] => .fail
    | _ => .fail).E σ ws) : Sound P ti N X Y w0 β σ a w o new ws := by
  rw [E_bind] at h
  obtain ⟨v, h1, h2⟩ := h
  have hv := opd_sound R h1
  split at h2
  · rename_i vs
    split at h2
    · rename_i v' rest hv'
      rw [E_ret] at h2
      subst h2
      obtain ⟨us, he, hvt⟩ := hv
      have e2 : vs.drop i = v' :: vs.drop (i + 1) := by
        have := congrArg List.tail hv'
        rw [List.tail_drop, List.tail_cons] at this
        rw [hv', this]
      obtain ⟨u, h3, h4⟩ := VRt_get hvt e2
      have h3' : us.toArray[i]? = some u := by simpa using h3
      exact sound_pure R hd (VR2_of h4) (by simp [execOp, ho, he, Instr.extract, h3])
    · exact (E_fail.1 h2).elim
  · exact (E_fail.1 h2).elim

theorem op_nilCheck {x : Operand} (ho : o.op = .nilCheck x) (h : ((opd x).bind fun
    | .ptr l off => Pr.ret (setTmp o.dst (.ptr l off))
    | .eptr l i s off => .ret (setTmp o.dst (.eptr l i s off))
    | .fptr t x => .ret (setTmp o.dst (.fptr t x))
    | _ => .fail).E σ ws) : Sound P ti N X Y w0 β σ a w o new ws := by
  rw [E_bind] at h
  obtain ⟨v, h1, h2⟩ := h
  have hv := opd_sound R h1
  split at h2
  · rw [E_ret] at h2
    subst h2
    have hv' := hv
    obtain ⟨g, c, len, _, e⟩ := hv'
    exact sound_pure R hd hv (by simp [execOp, ho, e])
  · rw [E_ret] at h2
    subst h2
    have hv' := hv
    obtain ⟨g, c, len, _, e⟩ := hv'
    exact sound_pure R hd hv (by simp [execOp, ho, e])
  · rw [E_ret] at h2
    subst h2
    have hv' := hv
    obtain ⟨ad, cs, F, e, _⟩ := hv'
    exact sound_pure R hd hv (by simp [execOp, ho, e])
  · exact (E_fail.1 h2).elim

theorem op_field {s : TypeId} {x : Operand} {f : Nat} (ho : o.op = .field s x f) (h : ((opd x).bind fun v => match (ti.at s).ud, v with
    | .struct fs, .agg cs => match fieldOff fs f with
      | some (off, ft) => bif Nat.ble (off + sz (ti.at ft).ty) cs.length then (asVal (ti.at ft).ud.agg (cutA cs off (sz (ti.at ft).ty))).bind fun z => .ret (setTmp o.dst z) else .fail
      | none => .fail
    | _, _ => .fail).E σ ws) : Sound P ti N X Y w0 β σ a w o new ws := by
  rw [E_bind] at h
  obtain ⟨v, h1, h2⟩ := h
  have hv := opd_sound R h1
  split at h2
  · rename_i fs cs hs
    obtain ⟨fields, hu, hf⟩ := hti.und hs rfl
    split at h2
    · rename_i off ft hfo
      cases hle : Nat.ble (off + sz (ti.at ft).ty) cs.length with
      | false => rw [hle] at h2; exact (E_fail.1 h2).elim
      | true =>
      rw [hle] at h2
      have hle := Nat.le_of_ble_eq_true hle
      have h2 : ((asVal (ti.at ft).ud.agg (cutA cs off (sz (ti.at ft).ty))).bind fun z => .ret (setTmp o.dst z)).E σ ws := h2
      simp only [E_bind, E_ret] at h2
      obtain ⟨z, h3, rfl⟩ := h2
      have hfo' : ∀ (l : List (Nat × TypeId)) (n : Nat) (p), fieldOff l n = some p → l[n]? = some p := by
        intro l
        induction l with
        | nil => intro n p h; simp [fieldOff] at h
        | cons q l ih => intro n p h; cases n with
          | zero => simpa [fieldOff] using h
          | succ n => simpa using ih n p h
      have h4 := hfo' _ _ _ hfo
      have hk := hti.st s fs hs _ (List.mem_of_getElem? h4)
      rw [← hf, List.getElem?_map] at h4
      cases h5 : fields.toList[f]? with
      | none => rw [h5] at h4; cases h4
      | some fd =>
        rw [h5] at h4
        simp only [Option.map_some, Option.some.injEq, Prod.mk.injEq] at h4
        obtain ⟨rfl, rfl⟩ := h4
        have h5' : fields[f]? = some fd := by simpa using h5
        obtain ⟨us, he, hvs⟩ := hv
        have hl := VRs_len hvs
        obtain ⟨g1, g2⟩ := asVal_sound (VRs_cut hvs fd.offset (sz (ti.at fd.type).ty)) h3
        refine sound_pure R hd g1 ?_
        simp only [execOp, ho, he, Instr.field, Sem.run_bind, run_underlying hu, Result.andThen_ok, h5', part, asAgg, hti.agg hk, hti.size hk, Sem.run_pure]
        cases hg : (ti.at fd.type).ud.agg with
        | true =>
          simp [hti.size hk]
        | false =>
          have h6 := g2 hg
          have h7 : us[fd.offset]? = some (((us.drop fd.offset).take (sz (ti.at fd.type).ty)).headD undef) := by
            rw [List.length_take, List.length_drop] at h6
            have hs1 := sz_pos (ti.at fd.type).ty
            have hlt : fd.offset < us.length := by omega
            rw [List.drop_eq_getElem_cons hlt, List.getElem?_eq_getElem hlt]
            obtain ⟨m, hm⟩ : ∃ m, sz (ti.at fd.type).ty = m + 1 := ⟨_, (Nat.succ_pred_eq_of_pos hs1).symm⟩
            rw [hm, List.take_succ_cons]
            rfl
          simp [h7]
    · exact (E_fail.1 h2).elim
  · exact (E_fail.1 h2).elim

theorem op_strSlice {t : TypeId} {x : Operand} {lo hi : Option Operand} (hu : (ti.at t).ud = .str) (ho : o.op = .slice t x lo hi none) {v : AVal} {lv hv : Option AVal} (h1 : (opd x).E σ v) (h2 : (opdO lo).E σ lv) (h3 : (opdO hi).E σ hv)
    (h : ((strSliceA v lv hv).bind fun z => .ret (setTmp o.dst z)).E σ ws) : Sound P ti N X Y w0 β σ a w o new ws := by
  have u1 : P.underlying t = _ := hti.und hu rfl
  have bnd : ∀ {x : Option Operand} {z : Option AVal} {d n : Int}, (opdO x).E σ z → (bndA d z).E σ n → (x = none ∧ n = d) ∨ ∃ y k, x = some y ∧ a.eval y = .int k n := by
    intro x z d n h4 h5
    cases x with
    | none =>
      rw [opdO, E_ret] at h4
      subst h4
      rw [bndA, E_ret] at h5
      exact .inl ⟨rfl, h5.symm⟩
    | some y =>
      simp only [opdO, E_bind, E_ret] at h4
      obtain ⟨z', h6, rfl⟩ := h4
      obtain ⟨k, hk⟩ := idx_sound (opd_sound R h6) h5
      exact .inr ⟨y, k, rfl, hk⟩
  rw [E_bind] at h
  obtain ⟨z, h4, h5⟩ := h
  rw [E_ret] at h5
  subst h5
  unfold strSliceA at h4
  split at h4
  · rename_i s
    simp only [E_bind, E_guard, E_ret] at h4
    obtain ⟨l, h5, h', h6, hb, hc, rfl⟩ := h4
    have e : a.eval x = .string s := opd_sound R h1
    have hb : 0 ≤ h' ∧ h' ≤ (s.size : Int) := by simpa [boundE] using hb
    have hc : 0 ≤ l ∧ l ≤ h' := by simpa using hc
    refine sound_pure (u := .string (s.extract l.toNat h'.toNat)) R hd rfl ?_
    have hc2 : l ≤ (h'.toNat : Int) := by omega
    rcases bnd h2 h5 with ⟨rfl, rfl⟩ | ⟨y, k, rfl, e2⟩ <;> rcases bnd h3 h6 with ⟨rfl, rfl⟩ | ⟨y', k', rfl, e3⟩
    · simp [execOp, ho, e, Instr.sliceAt, Instr.slice, run_underlying u1, Instr.sliceBounds]
    · simp [execOp, ho, e, e3, Instr.sliceAt, Instr.slice, run_underlying u1, Instr.sliceBounds, Instr.sliceBound, asIntOf, hb.1, hb.2]
    · simp [execOp, ho, e, e2, Instr.sliceAt, Instr.slice, run_underlying u1, Instr.sliceBounds, Instr.sliceBound, asIntOf, hc.1, hc.2]
    · simp [execOp, ho, e, e2, e3, Instr.sliceAt, Instr.slice, run_underlying u1, Instr.sliceBounds, Instr.sliceBound, asIntOf, hb.1, hb.2, hc.1, hc2]
      intro h9
      omega
  · exact (E_fail.1 h4).elim
end
end Go.Proofs.YtchdegcfohegfaaE
