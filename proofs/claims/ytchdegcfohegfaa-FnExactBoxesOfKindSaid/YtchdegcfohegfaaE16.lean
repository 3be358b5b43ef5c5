/- The engine, part 16: every operation; a region whose order is fixed. -/
import Derived.Test.YtchdegcfohegfaaED
import Derived.Tactics
namespace Go.Proofs.YtchdegcfohegfaaE
set_option linter.unusedVariables false
set_option linter.unusedSimpArgs false
set_option linter.unusedSectionVars false
open Pr

def SOdd (σ : St) : Prop := ∀ l, isObj (look σ l) = true → l % 2 = 1

theorem SOdd.ne {σ : St} (h : SOdd σ) : ∀ l, isObj (look σ l) = true → ∀ t, l ≠ tmpL t := by
  intro l hl t e
  have := h l hl
  rw [e] at this
  unfold tmpL at this
  have h2 : 2 * t % 2 = 0 := Nat.mul_mod_right 2 t
  rw [h2] at this
  cases this

theorem SOdd.put {σ : St} (h : SOdd σ) : ∀ {ws : Ws}, oddW ws = true → SOdd (put σ ws) := by
  intro ws
  induction ws generalizing σ with
  | nil => exact fun _ => h
  | cons p ws ih =>
    intro hw
    obtain ⟨l', c⟩ := p
    simp only [oddW, Bool.and_eq_true, Bool.or_eq_true, Bool.not_eq_true'] at hw
    rw [put_cons]
    refine ih ?_ hw.2
    intro l hl
    rw [look_cons] at hl
    by_cases e : l' = l
    · rw [if_pos e] at hl
      rcases hw.1 with h1 | h1
      · rw [h1] at hl; cases hl
      · rw [← e]; exact Nat.eq_of_beq_eq_true h1
    · rw [if_neg e] at hl; exact h l hl

theorem objL_odd (tick i j t : Nat) : objL tick i + 2 * j ≠ tmpL t := by
  intro e
  have h1 : (2 * (tick * 65536 + i) + 1 + 2 * j) % 2 = 1 := by omega
  have h2 : (2 * t) % 2 = 0 := Nat.mul_mod_right 2 t
  unfold objL tmpL at e
  rw [e, h2] at h1
  cases h1

section
variable {P : Program} {ti : TI} {N : Nat} {X Y : Nat → Prop} {w0 w w' : World} {β β' : Beta} {σ σ' : St} {a a' : Act} {env : Env}

theorem run_append_count {t t2 ty e : TypeId} {i : TypeInfo} {z : Value} (hu : P.underlying t = some (.slice e)) {kk : IntKind} (hu2 : P.underlying t2 = some (.int kk)) (hi : P.info? e = some i) (hz : i.zero = some z) (kx : IntKind) {m : Nat} (hm : 0 < m) (hs : 0 < i.size) (hby : 0 < i.bytes) (hb : m * i.bytes ≤ 140737488355328) :
    (Builtin.append_ #[t, t2] ty #[.slice none 0 0, .int kx (m : Int)]).run P w = .ok (.slice (some ⟨w.heap.size, 0, none⟩) m (grownCap w m 0 e)) (w.drew.alloc (.cells (Builtin.zeroCells z.cells m ++ Builtin.zeroCells z.cells (grownCap w m 0 e - m)) e)) := by
  have hle : m ≤ 140737488355328 := Nat.le_trans (Nat.le_mul_of_pos_right _ hby) hb
  have hw : IntKind.i64.wrap (m : Int) = m := by rw [IntKind.wrap_i64]; omega
  have hneg : ¬ ((m : Int) < 0) := by omega
  have hbig : ¬ (281474976710656 < (m : Int) * (i.bytes : Int)) := by rw [← Int.natCast_mul]; omega
  have hn : ¬ (m ≤ 0) := by omega
  have h63 : ¬ (9223372036854775807 < (m : Int)) := by omega
  have hfit := growslice_fits (need := m) (old := 0) (bytes := i.bytes) hm hb
  have h48 : ¬ (281474976710656 < Builtin.nextslicecap m 0 * i.bytes) := by omega
  have hmz : ¬ (m * i.size = 0) := Nat.mul_ne_zero (by omega) (by omega)
  have hmz1 : ¬ (m = 0) := by omega
  have hmz2 : ¬ (i.size = 0) := by omega
  simp [Builtin.append_, run_underlying hu, run_underlying hu2, sizeOf, typeInfo, zeroValue, hi, hz, asInt, asIntOf, hw, hneg, hbig, hn, h63, h48, Question.forced, Builtin.firstCells, newRow, grownCap, hmz, hmz1, hmz2]

theorem op_cap (R : Rel ti N X Y w0 β σ a w) {o : Oper} (hd : ∀ t, o.dst = some t → t < N) {new : Loc} {ws : Ws} (hti : TiOk P ti) {c : Call} (hc : c.callee = .builtin .cap) (ho : o.op = .call c) (h : ((opds c.args.toList).bind fun
      | [.nilslc] => match c.argTypes.toList with
        | [t] => match (ti.at t).ud with
          | .slice _ => Pr.ret (setTmp o.dst (.int .i64 0))
          | _ => .fail
        | _ => .fail
      | _ => .fail).E σ ws) : Sound P ti N X Y w0 β σ a w o new ws := by
  rw [E_bind] at h
  obtain ⟨vs, h1, h2⟩ := h
  split at h2
  · split at h2
    · rename_i t hat
      split at h2
      · rename_i e hs
        rw [E_ret] at h2
        subst h2
        obtain ⟨hl, hva⟩ := opds_sound R h1
        obtain ⟨x, hx⟩ : ∃ x, c.args.toList = [x] := List.length_eq_one_iff.1 hl.symm
        have hv : a.eval x = .slice none 0 0 := hva 0 .nilslc x rfl (by rw [hx]; rfl)
        have hargs : c.args = #[x] := by rw [← Array.toList_inj, hx]
        have hats : c.argTypes = #[t] := by rw [← Array.toList_inj, hat]
        have hu : P.underlying t = _ := hti.slice hs
        refine sound_pure (u := .int .i64 0) R hd rfl ?_
        simp [execOp, ho, resolve, hc, hargs, hats, invoke, builtin, hv, Builtin.cap_, run_underlying hu, goInt]
      · exact (E_fail.1 h2).elim
    · exact (E_fail.1 h2).elim
  · exact (E_fail.1 h2).elim

theorem op_appendN (hti : TiOk P ti) (R : Rel ti N X Y w0 β σ a w) {o : Oper} {new : Loc} (hd : ∀ t, o.dst = some t → t < N) {ws : Ws} (hodd : ∀ t, new ≠ tmpL t) (hf : ∀ j, new ≤ j → j < new + 128 → β j = none)
    {c : Call} {t t' : TypeId} {s x : Operand} (hc : c = { callee := .builtin .append, args := #[s, x], argTypes := #[t, t'] }) (ho : o.op = .call c) {sv xv : AVal} (h1 : (opd s).E σ sv) (h2 : (opd x).E σ xv)
    (h : (appNA ti new o.dst t t' sv xv).E σ ws) : Sound P ti N X Y w0 β σ a w o new ws := by
  unfold appNA at h
  split at h
  · rename_i e kk kx n hs hi'
    simp only [E_guard, E_ret] at h
    obtain ⟨b1, b2, rfl⟩ := h
    have b1 : 0 < n := by simpa using b1
    have b2 : n.toNat * (ti.at e).bytes ≤ 140737488355328 := by simpa using b2
    obtain ⟨m, rfl⟩ := Int.eq_ofNat_of_zero_le (Int.le_of_lt b1)
    rw [Int.toNat_natCast] at b2
    have hu : P.underlying t = _ := hti.slice hs
    have hk := hti.sl t e hs
    obtain ⟨i, z, i1, i4, i5, i2, i3⟩ := (hti.td e hk).info
    have hby := hti.by0 e hk
    have hsp := sz_pos (ti.at e).ty
    have hzl := zeroC_len (ti.at e).ty
    have es : a.eval s = .slice none 0 0 := opd_sound R h1
    have ex : a.eval x = .int kx (m : Int) := opd_sound R h2
    have hu2 : P.underlying t' = some (.int kk) := by
      exact hti.und hi' rfl
    have hr := run_append_count (P := P) (w := w) (ty := o.type) hu hu2 i1 i2 kx (m := m) (by omega) (by omega) (by omega) (by rw [i5]; exact b2)
    have hcells : ∀ q : Nat, Builtin.zeroCells z.cells q = ((List.replicate q (zeroC (ti.at e).ty)).flatten).toArray := by
      intro q
      have := madeCells_rep (l := zeroC (ti.at e).ty) i3 (by omega) q
      rw [hzl] at this
      rw [← this]
      unfold Builtin.zeroCells madeCells
      rw [i3]
      simp [hzl]
    rw [hcells, hcells] at hr
    intro next Q hn
    have hfl : ∀ q : Nat, ((List.replicate q (zeroC (ti.at e).ty)).flatten).length = q * sz (ti.at e).ty := fun q => by simp [List.length_flatten, hzl]
    have hge := grownCap_ge w m 0 e
    have hcm := grownCap_le_maxLen w m 0 e (by
      have : m * 1 ≤ m * (ti.at e).bytes := Nat.mul_le_mul_left _ hby
      simp only [maxLen]; omega)
    have hfr : β new = none := hf new (Nat.le_refl _) (Nat.lt_add_of_pos_right (by decide))
    have R2 := R.newObj (l := new) (c := .row true e (ti.at e).ty (List.replicate m (dflt (ti.at e).ty))) (g := w.heap.size) (cap := grownCap w m 0 e) (len := m) (w' := w.drew.alloc (.cells (((List.replicate m (zeroC (ti.at e).ty)).flatten).toArray ++ ((List.replicate (grownCap w m 0 e - m) (zeroC (ti.at e).ty)).flatten).toArray) e))
      hfr rfl hodd ⟨rfl, rfl, rfl, by simp, fun k hk _ => RowKit.Below.heap_alloc w.drew _ k hk⟩ (Nat.le_refl _) (by
        refine ⟨(some w.heap.size, grownCap w m 0 e, m), by rw [upd_at, if_pos rfl], ⟨by simp, _, [], alloc_new w.drew _, by simpa using hge, hcm, ?_, ?_, by simp⟩, fun h => by cases h⟩
        · rw [Array.size_append, List.size_toArray, List.size_toArray, hfl, hfl, ← Nat.add_mul]
          congr 1
          show m + (grownCap w m 0 e - m) = grownCap w m 0 e
          omega
        · rw [List.length_replicate, Array.toList_append]
          have e1 : (((List.replicate m (zeroC (ti.at e).ty)).flatten).toArray.toList ++ ((List.replicate (grownCap w m 0 e - m) (zeroC (ti.at e).ty)).flatten).toArray.toList).take (m * sz (ti.at e).ty) = (List.replicate m (zeroC (ti.at e).ty)).flatten := by
            rw [← hfl m]; exact List.take_left
          rw [e1]
          exact rowR_rep (Rd_zero _ _) _)
    have R3 := R2.set (d := o.dst) (v := .ref new none) (u := .slice (some ⟨w.heap.size, 0, none⟩) m (grownCap w m 0 e)) hd ⟨some w.heap.size, grownCap w m 0 e, m, by rw [upd_at, if_pos rfl], rfl, Nat.le_refl _, hge⟩
    rw [← put_cons] at R3
    refine wp_val (u := .slice (some ⟨w.heap.size, 0, none⟩) m (grownCap w m 0 e)) ?_ (hn _ _ _ (by rw [Int.toNat_natCast]; exact R3) (fun l hl => by
      rw [upd_at]
      rw [if_neg]
      rintro rfl
      exact hl ⟨Nat.le_refl _, Nat.lt_add_of_pos_right (by decide)⟩))
    subst hc
    simp only [execOp, ho, resolve, invoke, builtin, Sem.run_bind, Sem.run_pure, Result.andThen_ok, List.map_toArray, List.map_cons, List.map_nil, es, ex, hr]
  · exact (E_fail.1 h).elim

theorem opA_sound (hti : TiOk P ti) (henv : EnvOk P env) (R : Rel ti N X Y w0 β σ a w) (hs : SOdd σ) {o : Oper} {k tick i : Nat} (hd : ∀ t, o.dst = some t → t < N) {ws : Ws}
    (hf : ∀ j, objL tick i ≤ j → j < objL tick i + 128 → β j = none) (h : (opA ti env k (objL tick i) o).E σ ws) : Sound P ti N X Y w0 β σ a w o (objL tick i) ws := by
  have hodd : ∀ t, objL tick i ≠ tmpL t := fun t => objL_odd tick i 0 t
  have hodd2 := hs.ne
  unfold opA at h
  split at h
  · rename_i x ho; exact op_move hti R hd ho h
  · rename_i x ho; exact op_assign hti R hd ho h
  · rename_i c x y ho; exact op_pick hti R hd ho h
  · rename_i e ho; exact op_alloc hti R hd hodd hf ho h
  · rename_i e x ho; exact op_box hti R hd hodd hf ho h
  · rename_i t parts ho; exact op_build hti R hd hodd hf ho h
  · rename_i t n parts ho; exact op_buildSlice hti R hd hodd hf ho h
  · rename_i t x ho; exact op_loadX hti R hd (fun i' t => objL_odd tick i i' t) hf hodd2 ho h
  · rename_i t x y ho; exact op_storeX hti R hd (fun i' t => objL_odd tick i i' t) hf hodd2 ho h
  · rename_i x ho; exact op_nilCheck hti R hd ho h
  · rename_i op t x y t' ho; exact op_bin hti R hd ho h
  · rename_i op t x ho; exact op_un hti R hd ho h
  · rename_i s d x ho; exact op_convert hti R hd ho h
  · rename_i t l c ho; exact op_makeSlice hti R hd hodd hf ho h
  · rename_i t x lo hi mx ho
    split at h
    · exact (E_fail.1 h).elim
    · simp only [E_bind] at h
      obtain ⟨v, h1, lv, h2, hv, h3, h4⟩ := h
      split at h4
      · rename_i hu; exact op_strSlice hti R hd hu ho h1 h2 h3 h4
      · rename_i e hu; exact op_sliceObj hti R hd hodd hf hodd2 hu ho h1 h2 h3 h4
      · exact (E_fail.1 h4).elim
  · rename_i s x f ho; exact op_fieldAddr hti R hd ho h
  · rename_i s x f ho; exact op_field hti R hd ho h
  · rename_i t x ix ho; exact op_indexAddr hti R hd ho h
  · rename_i t x ix ho; exact op_index hti R hd ho h
  · rename_i x ix ho; exact op_extract hti R hd ho h
  · rename_i c ho
    split at h
    · rename_i hc; exact op_len hti R hd hodd hf hc ho h
    · rename_i hc
      rw [E_bind] at h
      obtain ⟨vs, h1, h2⟩ := h
      split at h2
      · rename_i sv xv
        split at h2
        · rename_i t t' hts
          cases ht : Nat.beq t t' with
          | false =>
            rw [ht] at h2
            simp only [cond_false] at h2
            have hlen := (opds_sound R h1).1
            obtain ⟨s, x, hx⟩ : ∃ s x, c.args.toList = [s, x] := by
              match hh : c.args.toList, hlen with
              | [x, y], _ => exact ⟨x, y, rfl⟩
            have hargs : c.args = #[s, x] := by rw [← Array.toList_inj, hx]
            have hats : c.argTypes = #[t, t'] := by rw [← Array.toList_inj, hts]
            rw [hx] at h1
            simp only [opds, E_bind, E_ret] at h1
            obtain ⟨s', g1, xs', ⟨x', g2, nil', g3, rfl⟩, g4⟩ := h1
            cases g4
            refine op_appendN hti R hd hodd hf (c := c) (s := s) (x := x) ?_ ho g1 g2 h2
            obtain ⟨cal, ar, at'⟩ := c
            simp only at hc hargs hats
            rw [hc, hargs, hats]
          | true =>
            rw [ht] at h2
            obtain rfl := Nat.eq_of_beq_eq_true ht
            simp only [cond_true] at h2
            split at h2
            · rename_i e hu
              have hlen := (opds_sound R h1).1
              obtain ⟨s, x, hx⟩ : ∃ s x, c.args.toList = [s, x] := by
                match hh : c.args.toList, hlen with
                | [x, y], _ => exact ⟨x, y, rfl⟩
              have hargs : c.args = #[s, x] := by rw [← Array.toList_inj, hx]
              have hats : c.argTypes = #[t, t] := by rw [← Array.toList_inj, hts]
              rw [hx] at h1
              simp only [opds, E_bind, E_ret] at h1
              obtain ⟨s', g1, xs', ⟨x', g2, nil', g3, rfl⟩, g4⟩ := h1
              cases g4
              refine op_appendX hti R hd hodd hf hodd2 (c := c) (s := s) (x := x) ?_ ho hu g1 g2 h2
              obtain ⟨cal, ar, at'⟩ := c
              simp only at hc hargs hats
              rw [hc, hargs, hats]
            · exact (E_fail.1 h2).elim
        · exact (E_fail.1 h2).elim
      · exact (E_fail.1 h2).elim
    · rename_i hc; exact op_minmax (least := false) hti R hd hodd hf hc ho h
    · rename_i hc; exact op_minmax (least := true) hti R hd hodd hf hc ho h
    · rename_i hc; exact op_cap R hd hti hc ho h
    · rename_i f hc; exact op_call hti henv R hd (fun j t => objL_odd tick i j t) hf hodd2 hc ho h
    · exact (E_fail.1 h).elim
  · exact (E_fail.1 h).elim

/-! ### guards -/
theorem gtmp_spec {all : List Oper} {j t : Nat} (h : gtmp all j = some t) : (all.toArray[j]?).bind (·.dst) = some t := by
  unfold gtmp at h
  split at h
  · rename_i o r hd
    have : all[j]? = some o := by
      have := congrArg List.head? hd
      rw [List.head?_drop] at this
      simpa using this
    simp [this, h]
  · cases h

theorem yields_bool {all : List Oper} {j t : Nat} {b : Bool} (h : gtmp all j = some t) (hv : a.tmps.getD t undef = .bool b) : yielded all.toArray a.tmps j = some b := by
  unfold yielded
  rw [gtmp_spec h]
  have : a.tmps[t]? = some (.bool b) := by
    rw [Array.getD_eq_getD_getElem?] at hv
    cases h1 : a.tmps[t]? with
    | none => rw [h1] at hv; cases hv
    | some v => rw [h1] at hv; simpa using hv
  simp [this]

theorem yields_undef {all : List Oper} {j t : Nat} (h : gtmp all j = some t) (hv : a.tmps.getD t undef = undef) : yielded all.toArray a.tmps j = none := by
  unfold yielded
  rw [gtmp_spec h]
  cases h1 : a.tmps[t]? with
  | none => simp [h1]
  | some v =>
    rw [Array.getD_eq_getD_getElem?, h1] at hv
    have hv : v = undef := by simpa using hv
    subst hv
    simp [h1, undef]

/-- What is told apart: the same state. -/
theorem splitB_sound {ws ws' : Ws} (h : (splitB ws).E σ ws') : ws' = ws := by
  unfold splitB at h
  split at h
  · rename_i l b
    rw [E_ite, E_ret, E_ret] at h
    rcases h with ⟨rfl, rfl⟩ | ⟨rfl, rfl⟩ <;> rfl
  · exact (E_fail.1 h).elim

theorem stepA_sound (hti : TiOk P ti) (henv : EnvOk P env) (R : Rel ti N X Y w0 β σ a w) (hs : SOdd σ) {all : List Oper} {o : Oper} {k tick i n : Nat} (hd : ∀ t, o.dst = some t → t < N) {ws : Ws}
    (hf : ∀ j, objL tick i ≤ j → j < objL tick i + 128 → β j = none) (h : (stepA ti env k all (objL tick i) n o).E σ ws) {next : Act → World → Prop} {Q : Exit → Act → World → Prop}
    (hn : ∀ a' w' β', Rel ti N X Y w0 β' (put σ ws) a' w' → (∀ l, ¬ (objL tick i ≤ l ∧ l < objL tick i + 128) → β' l = β l) → next a' w') :
    if Region.wanted o (yielded all.toArray a.tmps) then o.wp P a w next Q ∨ (o.asks P a w ∧ LetsOut Q) else next (a.put o.dst undef) w := by
  have body : ∀ {ws : Ws}, (bif isGuard all n then (opA ti env k (objL tick i) o).bind splitB else opA ti env k (objL tick i) o).E σ ws → Sound P ti N X Y w0 β σ a w o (objL tick i) ws := by
    intro ws h
    cases hg : isGuard all n with
    | false => rw [hg] at h; exact opA_sound hti henv R hs hd hf h
    | true =>
      rw [hg] at h
      have h : ((opA ti env k (objL tick i) o).bind splitB).E σ ws := h
      rw [E_bind] at h
      obtain ⟨ws1, h1, h2⟩ := h
      rw [splitB_sound h2]
      exact opA_sound hti henv R hs hd hf h1
  have off : ws = setTmp o.dst .undef → next (a.put o.dst undef) w := by
    rintro rfl
    exact hn _ _ β (R.set hd rfl) (fun _ _ => rfl)
  unfold stepA at h
  simp only at h
  split at h
  · rename_i hg
    rw [show Region.wanted o (yielded all.toArray a.tmps) = true by unfold Region.wanted; rw [hg], if_pos rfl]
    exact .inl (body h next Q hn)
  · rename_i j want hg
    have hw : ∀ r, yielded all.toArray a.tmps j = r → Region.wanted o (yielded all.toArray a.tmps) = (r == some want) := by
      intro r hr
      unfold Region.wanted
      rw [hg]
      simp only [hr]
    split at h
    · rename_i t ht
      rw [E_get] at h
      split at h
      · rename_i b hlk
        have hv : a.tmps.getD t undef = .bool b := R.tmp t _ hlk
        have hy := hw _ (yields_bool ht hv)
        rw [E_ite] at h
        rcases h with ⟨he, h⟩ | ⟨he, h⟩
        · have : b = want := by cases b <;> cases want <;> simp_all [boolEq]
          subst this
          rw [hy]
          simp only [beq_self_eq_true, if_true]
          exact .inl (body h next Q hn)
        · have : b ≠ want := by cases b <;> cases want <;> simp_all [boolEq]
          rw [hy, show (some b == some want) = false by simpa using this]
          simp only [Bool.false_eq_true, if_false]
          rw [E_ret] at h
          exact off h.symm
      · rename_i hlk
        have hv : a.tmps.getD t undef = undef := R.tmp t _ hlk
        have hy := hw _ (yields_undef ht hv)
        rw [hy]
        simp only [show ((none : Option Bool) == some want) = false from rfl, Bool.false_eq_true, if_false]
        rw [E_ret] at h
        exact off h.symm
      · exact (E_fail.1 h).elim
    · exact (E_fail.1 h).elim

theorem dstOk_spec {o : Oper} (h : dstOk N o = true) : ∀ t, o.dst = some t → t < N := by
  intro t ht
  unfold dstOk at h
  rw [ht] at h
  exact Nat.le_of_ble_eq_true h

theorem objL_step (tick i : Nat) : objL tick (64 * (i + 1)) = objL tick (64 * i) + 128 := by unfold objL; show 2 * (tick * 65536 + 64 * (i + 1)) + 1 = 2 * (tick * 65536 + 64 * i) + 1 + 128; omega
theorem objL_next (tick n : Nat) (h : n ≤ 1024) : objL tick (64 * n) ≤ objL (tick + 1) 0 := by unfold objL; show 2 * (tick * 65536 + 64 * n) + 1 ≤ 2 * ((tick + 1) * 65536 + 0) + 1; omega

theorem run_E {α R' : Type} {p : Pr α} {rs0 : List Loc} {κ : α → List Loc → Option R'} {r : R'} (h : p.run σ rs0 κ = some r) : ∃ b rs, p.E σ b ∧ κ b rs = some r := by
  obtain ⟨b, rs, h1, h2⟩ := run_ev h
  exact ⟨b, _, ⟨rs, h1⟩, h2⟩

variable {R' : Type}

/-- A region in the order of its text. -/
theorem runOps_sound (hti : TiOk P ti) (henv : EnvOk P env) {k tick : Nat} {all : List Oper} {r : R'} {κ : St → List (List Loc × List Loc) → Option R'} {Q : Exit → Act → World → Prop} {n : Nat}
    (hκ : ∀ σ' acc a' w' β', κ σ' acc = some r → Rel ti N X Y w0 β' σ' a' w' → SOdd σ' → (∀ j, objL tick (64 * n) ≤ j → β' j = none) → Q .normal a' w') :
    ∀ {os : List Oper} {i : Nat} {σ : St} {acc} {a : Act} {w : World} {β : Beta}, i + os.length = n → runOps ti env N k tick all os i σ acc κ = some r → Rel ti N X Y w0 β σ a w → SOdd σ → (∀ j, objL tick (64 * i) ≤ j → β j = none) →
      wpList P all.toArray Q os a w
  | [], i, σ, acc, a, w, β, hi, h, R, hs, hf => by
    have : i = n := by simpa using hi
    subst this
    exact hκ σ acc a w β h R hs hf
  | o :: os, i, σ, acc, a, w, β, hi, h, R, hs, hf => by
    unfold runOps at h
    cases hdo : dstOk N o with
    | false => rw [hdo] at h; cases h
    | true =>
    rw [hdo] at h
    simp only [cond_true] at h
    obtain ⟨ws, rs, h1, h2⟩ := run_E h
    cases ho : oddW ws with
    | false => rw [ho] at h2; cases h2
    | true =>
    rw [ho] at h2
    simp only [cond_true] at h2
    refine stepA_sound hti henv R hs (i := 64 * i) (dstOk_spec hdo) (fun j h1 _ => hf j h1) h1 (fun a' w' β' R' hag => ?_)
    refine runOps_sound hti henv hκ (i := i + 1) (by simp only [List.length_cons] at hi; omega) h2 R' (hs.put ho) (fun j hj => ?_)
    rw [objL_step] at hj
    rw [hag j (fun hh => absurd hh.2 (Nat.not_lt.2 hj))]
    exact hf j (Nat.le_trans (Nat.le_add_right _ _) hj)
end
end Go.Proofs.YtchdegcfohegfaaE
