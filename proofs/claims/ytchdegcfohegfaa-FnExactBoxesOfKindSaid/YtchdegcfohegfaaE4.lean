/- The engine, part 4: operations that leave memory as it is. -/
import Derived.Test.YtchdegcfohegfaaE3
import Derived.Orders
import Derived.Laws.Entries
import Derived.Laws.StructEq
namespace Go.Proofs.YtchdegcfohegfaaE
set_option linter.unusedVariables false
set_option linter.unusedSimpArgs false
set_option linter.unusedSectionVars false
open Pr

def UdOk (P : Program) (t : TypeId) : UD → Prop
  | .int k => P.underlying t = some (.int k)
  | .bool => P.underlying t = some .bool
  | .str => P.underlying t = some .string
  | .slice e => P.underlying t = some (.slice e)
  | .struct fs => ∃ fields : Array Field, P.underlying t = some (.struct fields) ∧ fields.toList.map (fun f => (f.offset, f.type)) = fs
  | .arr n e => P.underlying t = some (.array n e)
  | .ptr e => P.underlying t = some (.pointer e)
  | .other => True

structure TdOk (P : Program) (t : TypeId) (d : TD) : Prop where
  info : ∃ i z, P.info? t = some i ∧ i.size = sz d.ty ∧ i.bytes = d.bytes ∧ i.zero = some z ∧ z.cells = (zeroC d.ty).toArray
  ud : UdOk P t d.ud
  eq : d.eq = true → P.stoodInHeld t = false ∧ P.eqGuardType P.depth t = false ∧ ∀ f ∈ (P.fieldsOf t).toList, f.name ≠ "_"

structure TiOk (P : Program) (ti : TI) : Prop where
  td : ∀ t, (ti.at t).ud.kn = true → TdOk P t (ti.at t)
  sl : ∀ t e, (ti.at t).ud = .slice e → (ti.at e).ud.kn = true
  st : ∀ t fs, (ti.at t).ud = .struct fs → ∀ f ∈ fs, (ti.at f.2).ud.kn = true
  ar : ∀ t n e, (ti.at t).ud = .arr n e → (ti.at e).ud.kn = true
  by0 : ∀ t, (ti.at t).ud.kn = true → 0 < (ti.at t).bytes

section
variable {P : Program} {ti : TI} {N : Nat} {X Y : Nat → Prop} {w0 w w' : World} {β β' : Beta} {σ σ' : St} {a a' : Act}

theorem TiOk.und (h : TiOk P ti) {t : TypeId} {u : UD} (e : (ti.at t).ud = u) (k : u.kn = true) : UdOk P t u := by
  have := (h.td t (by rw [e]; exact k)).ud
  rw [e] at this
  exact this

theorem TiOk.size (h : TiOk P ti) {t : TypeId} (k : (ti.at t).ud.kn = true) (w : World) : (sizeOf t).run P w = .ok (sz (ti.at t).ty) w := by
  obtain ⟨i, z, h1, h2, _⟩ := (h.td t k).info
  simp [sizeOf, typeInfo, h1, h2]

theorem TiOk.agg (h : TiOk P ti) {t : TypeId} (k : (ti.at t).ud.kn = true) (w : World) : (isAgg t).run P w = .ok (ti.at t).ud.agg w := by
  have hu := (h.td t k).ud
  cases e : (ti.at t).ud <;> rw [e] at hu k
  case struct fs => obtain ⟨fields, h1, _⟩ := hu; simp [isAgg, run_underlying h1, UD.agg]
  case other => cases k
  all_goals (have h1 := hu; simp only [UdOk] at h1; simp [isAgg, run_underlying h1, UD.agg])

theorem TiOk.slice (h : TiOk P ti) {t e : TypeId} (k : (ti.at t).ud = .slice e) : P.underlying t = some (.slice e) := h.und k rfl

theorem opd_sound (R : Rel ti N X Y w0 β σ a w) {x : Operand} {v : AVal} (h : (opd x).E σ v) : VR β w (Zs Y β σ w) v (a.eval x) := by
  cases x with
  | tmp t =>
    simp only [opd, tmpv, E_get] at h
    split at h
    · rename_i v' hv
      rw [E_ret] at h
      subst h
      exact R.tmp t _ hv
    · exact (E_fail.1 h).elim
  | const c =>
    simp only [opd] at h
    split at h
    · rename_i y hy
      rw [E_ret] at h
      subst h
      unfold constA at hy
      split at hy <;> cases hy <;> exact rfl
    · exact (E_fail.1 h).elim
  | global g => exact (E_fail.1 h).elim
  | func f => rw [opd, E_ret] at h; subst h; exact rfl

theorem wp_val {o : Oper} {next : Act → World → Prop} {Q : Exit → Act → World → Prop} {u : Value} (h : (execOp a.eval o).run P w = .ok (.value u) w') (hn : next (a.put o.dst u) w') : o.wp P a w next Q := by
  unfold Oper.wp
  rw [h]
  exact hn

/-- What is shown of an operation. -/
def Sound (P : Program) (ti : TI) (N : Nat) (X Y : Nat → Prop) (w0 : World) (β : Beta) (σ : St) (a : Act) (w : World) (o : Oper) (new : Loc) (ws : Ws) : Prop :=
  ∀ (next : Act → World → Prop) (Q : Exit → Act → World → Prop),
    (∀ a' w' β', Rel ti N X Y w0 β' (put σ ws) a' w' → (∀ l, ¬ (new ≤ l ∧ l < new + 128) → β' l = β l) → next a' w') → o.wp P a w next Q

theorem sound_pure (R : Rel ti N X Y w0 β σ a w) {o : Oper} {new : Loc} (hd : ∀ t, o.dst = some t → t < N) {v : AVal} {u : Value} (hv : VR β w (Zs Y β σ w) v u)
    (h : (execOp a.eval o).run P w = .ok (.value u) w) : Sound P ti N X Y w0 β σ a w o new (setTmp o.dst v) :=
  fun next Q hn => wp_val h (hn _ _ β (R.set hd hv) (fun _ _ => rfl))

/-! ### the shapes of values -/
theorem VR_int {Z : Nat → Prop} {k : IntKind} {n : Int} {v : Value} (h : VR β w Z (.int k n) v) : v = .int k n := h
theorem VR_bool {Z : Nat → Prop} {b : Bool} {v : Value} (h : VR β w Z (.bool b) v) : v = .bool b := h
theorem VR_str {Z : Nat → Prop} {s : ByteArray} {v : Value} (h : VR β w Z (.str s) v) : v = .string s := h

/-- A value out of its cells. -/
def ofCells (agg : Bool) (us : List Value) : Value := if agg then .agg us.toArray else us.headD undef

theorem VRs_cut' {Z : Nat → Prop} {cs : List AVal} {vs : List Value} (h : VRs β w Z cs vs) (off n : Nat) : VRs β w Z (cutA cs off n) ((vs.drop off).take n) := VRs_take n (VRs_drop off h)

theorem run_part (hti : TiOk P ti) {t : TypeId} (k : (ti.at t).ud.kn = true) (us : List Value) (off : Nat) (h : (ti.at t).ud.agg = false → ∃ u, ((us.drop off).take (sz (ti.at t).ty)) = [u]) :
    (part t us.toArray off).run P w = .ok (ofCells (ti.at t).ud.agg ((us.drop off).take (sz (ti.at t).ty))) w := by
  unfold part ofCells
  simp only [Sem.run_bind, hti.agg k w, Result.andThen_ok]
  cases ha : (ti.at t).ud.agg with
  | true =>
    simp only [if_true, Sem.run_bind, hti.size k w, Result.andThen_ok, Sem.run_pure]
    congr 2
    apply Array.ext'
    simp [Array.toList_extract, List.extract_eq_take_drop]
  | false =>
    obtain ⟨u, hu⟩ := h ha
    have hg : us[off]? = some u := by
      have : ((us.drop off).take (sz (ti.at t).ty))[0]? = some u := by rw [hu]; rfl
      rw [List.getElem?_take] at this
      split at this
      · rw [List.getElem?_drop] at this; simpa using this
      · cases this
    simp only [Bool.false_eq_true, if_false, List.getElem?_toArray, hg, hu]
    rfl

theorem eqA_one (hti : TiOk P ti) : ∀ (n : Nat) {t : TypeId} {cs ds : List AVal} {b : Bool}, eqA ti n t cs ds = some b → (ti.at t).ud.kn = true ∧ ((ti.at t).ud.agg = false → cs.length = 1 ∧ ds.length = 1)
  | 0, t, cs, ds, b, h => by cases h
  | n + 1, t, cs, ds, b, h => by
    unfold eqA at h
    split at h
    · rename_i hu
      rw [hu]
      split at h
      · exact ⟨rfl, fun _ => ⟨rfl, rfl⟩⟩
      · cases h
    · rename_i hu
      rw [hu]
      split at h
      · exact ⟨rfl, fun _ => ⟨rfl, rfl⟩⟩
      · cases h
    · rename_i hu
      rw [hu]
      exact ⟨rfl, fun h => by cases h⟩
    · cases h

theorem eqA_sound (hti : TiOk P ti) {Z : Nat → Prop} : ∀ (n : Nat) {t : TypeId} {cs ds : List AVal} {us vs : List Value} {b : Bool}, eqA ti n t cs ds = some b → VRs β w Z cs us → VRs β w Z ds vs →
    ∀ {d : Nat}, n ≤ d → (Op.equalIn d t (ofCells (ti.at t).ud.agg us) (ofCells (ti.at t).ud.agg vs)).run P w = .ok b w
  | 0, t, cs, ds, us, vs, b, h, _, _, d, _ => by cases h
  | n + 1, t, cs, ds, us, vs, b, h, hu, hv, d, hd => by
    obtain ⟨d, rfl⟩ : ∃ m, d = m + 1 := ⟨d - 1, by omega⟩
    unfold eqA at h
    split at h
    · rename_i k0 hud
      split at h
      · rename_i k x k' y
        cases hk : kindEq k k' with
        | false => rw [hk] at h; cases h
        | true =>
          rw [hk] at h
          obtain rfl := kindEq_eq hk
          cases h
          obtain ⟨u, us', rfl, h1, _, rfl⟩ := hu
          obtain ⟨v, vs', rfl, h2, _, rfl⟩ := hv
          rw [show u = .int k x from h1, show v = .int k y from h2, hud]
          exact (run_equalIn_int w d t k k0 x y (hti.und hud rfl)).trans (by congr 1)
      · cases h
    · rename_i hud
      split at h
      · rename_i x y
        cases h
        obtain ⟨u, us', rfl, h1, _, rfl⟩ := hu
        obtain ⟨v, vs', rfl, h2, _, rfl⟩ := hv
        rw [show u = .bool x from h1, show v = .bool y from h2, hud]
        exact run_equalIn_bool' w d t x y (hti.und hud rfl)
      · cases h
    · rename_i fs hud
      cases he : (ti.at t).eq with
      | false => rw [he] at h; cases h
      | true =>
        rw [he] at h
        simp only [cond_true] at h
        have hk : (ti.at t).ud.kn = true := by rw [hud]; rfl
        obtain ⟨e1, _, e3⟩ := (hti.td t hk).eq he
        obtain ⟨fields, f1, f2⟩ := hti.und hud rfl
        have hfo : P.fieldsOf t = fields := by unfold Program.fieldsOf; rw [f1]
        rw [hfo] at e3
        have hst := hti.st t fs hud
        rw [show (ti.at t).ud.agg = true by rw [hud]; rfl]
        show (Op.equalIn (d + 1) t (.agg us.toArray) (.agg vs.toArray)).run P w = _
        rw [run_equalIn_struct w d t _ _ (by rw [hfo]; exact f1) e1, hfo]
        clear hfo f1 e1 hud he hk
        generalize fields.toList = L at f2 e3
        induction L generalizing fs b with
        | nil => subst f2; cases h; rfl
        | cons f L ih =>
          subst f2
          simp only [List.map_cons, eqF] at h
          split at h
          · rename_i b1 hb1
            split at h
            · rename_i c hc
              cases h
              have hkf : (ti.at f.type).ud.kn = true := hst (f.offset, f.type) (List.mem_cons_self ..)
              have hu' := VRs_cut' hu f.offset (sz (ti.at f.type).ty)
              have hv' := VRs_cut' hv f.offset (sz (ti.at f.type).ty)
              have hone := (eqA_one hti n hb1).2
              have ihn := eqA_sound hti n hb1 hu' hv' (d := d) (by omega)
              have one : ∀ {as : List AVal} {ws : List Value}, VRs β w Z as ws → as.length = 1 → ∃ u, ws = [u] := by
                intro as ws hw hl
                have := VRs_len hw
                rw [hl] at this
                exact List.length_eq_one_iff.1 this
              unfold Op.eqFields
              rw [if_pos (e3 f (List.mem_cons_self ..))]
              simp only [Sem.run_bind, run_part hti hkf us f.offset (fun ha => one hu' (hone ha).1), Result.andThen_ok, run_part hti hkf vs f.offset (fun ha => one hv' (hone ha).2), ihn]
              cases b1 with
              | false => rfl
              | true => exact ih (b := c) (fs := _) (h := hc) (f2 := rfl) (e3 := fun g hg => e3 g (List.mem_cons_of_mem _ hg)) (hst := fun g hg => hst g (List.mem_cons_of_mem _ hg))
            · cases h
          · cases h
    · cases h

section pure
variable (hti : TiOk P ti) (R : Rel ti N X Y w0 β σ a w) {o : Oper} {new : Loc} (hd : ∀ t, o.dst = some t → t < N) {ws : Ws}
include hti R hd

theorem op_move {x : Operand} (ho : o.op = .move x) (h : ((opd x).bind fun v => .ret (setTmp o.dst v)).E σ ws) : Sound P ti N X Y w0 β σ a w o new ws := by
  rw [E_bind] at h
  obtain ⟨v, h1, h2⟩ := h
  rw [E_ret] at h2
  subst h2
  exact sound_pure R hd (opd_sound R h1) (by simp [execOp, ho])

theorem op_assign {x : Operand} (ho : o.op = .assign x) (h : ((opd x).bind fun v => .ret (setTmp o.dst v)).E σ ws) : Sound P ti N X Y w0 β σ a w o new ws := by
  rw [E_bind] at h
  obtain ⟨v, h1, h2⟩ := h
  rw [E_ret] at h2
  subst h2
  exact sound_pure R hd (opd_sound R h1) (by simp [execOp, ho])

theorem op_pick {c x y : Operand} (ho : o.op = .pick c x y) (h : ((opd c).bind fun
    | .bool z => .ite z ((opd x).bind fun v => .ret (setTmp o.dst v)) ((opd y).bind fun v => .ret (setTmp o.dst v))
    | _ => .fail).E σ ws) : Sound P ti N X Y w0 β σ a w o new ws := by
  rw [E_bind] at h
  obtain ⟨v, h1, h2⟩ := h
  split at h2
  · rename_i z
    have hc : a.eval c = .bool z := opd_sound R h1
    rw [E_ite, E_bind, E_bind] at h2
    rcases h2 with ⟨rfl, v, h3, h4⟩ | ⟨rfl, v, h3, h4⟩
    · rw [E_ret] at h4
      subst h4
      exact sound_pure R hd (opd_sound R h3) (by simp [execOp, ho, hc, asBool])
    · rw [E_ret] at h4
      subst h4
      exact sound_pure R hd (opd_sound R h3) (by simp [execOp, ho, hc, asBool])
  · exact (E_fail.1 h2).elim

theorem run_eqGuard {op : BinOp} {t : TypeId} {x y : Operand} {u v : Value} (h1 : ∀ a, u ≠ .agg a) (h2 : u ≠ .nilIface) : (eqGuard op t x y u v).run P w = .ok () w := by
  unfold eqGuard
  cases op <;> cases u <;> cases v <;> simp_all

omit hti R hd in
theorem run_equal_bool {t : TypeId} (h : P.underlying t = some .bool) {b c : Bool} : (Op.equal t (.bool b) (.bool c)).run P w = .ok (b == c) w := by
  show (Op.equalIn (9999 + 1) t (.bool b) (.bool c)).run P w = _
  unfold Op.equalIn
  rw [Sem.run_bind, run_underlying h]
  rfl

theorem binA_sound {op : BinOp} {t : TypeId} {x y : AVal} {u v : Value} {z : AVal} (hu : VR β w (Zs Y β σ w) x u) (hv : VR β w (Zs Y β σ w) y v) (h : (binA ti op t x y).E σ z) :
    (∀ x y, (eqGuard op t x y u v).run P w = .ok () w) ∧ ∃ r, (binOp op t u v).run P w = .ok r w ∧ VR β w (Zs Y β σ w) z r := by
  unfold binA at h
  split at h
  · rename_i k m k' n
    obtain rfl := VR_int hu
    obtain rfl := VR_int hv
    refine ⟨fun _ _ => run_eqGuard hti R hd (by simp) (by simp), ?_⟩
    cases hs : isShift op with
    | true =>
      rw [hs] at h
      have h : (shiftA op k m n).E σ z := h
      cases op <;> first | cases hs | skip
      · simp only [shiftA, E_guard, E_ret] at h
        obtain ⟨h1, rfl⟩ := h
        have h1 : ¬ n < 0 := by simpa using h1
        exact ⟨_, by simp [binOp, Op.shift, h1], rfl⟩
      · simp only [shiftA, E_guard, E_ret] at h
        obtain ⟨h1, rfl⟩ := h
        have h1 : ¬ n < 0 := by simpa using h1
        exact ⟨_, by simp [binOp, Op.shift, h1], rfl⟩
    | false =>
      cases hk : kindEq k k' with
      | false => rw [hk, hs] at h; exact (E_fail.1 h).elim
      | true =>
        rw [hk] at h
        obtain rfl := kindEq_eq hk
        have h : (sameInt op k m n).E σ z := by rw [hs] at h; exact h
        cases op <;> first | (cases hs; done) | skip
        all_goals simp only [sameInt, E_guard, E_ret, E_fail] at h
        all_goals first
          | (subst h; exact ⟨_, by (simp [binOp, Op.intArith, Op.intCmp, Op.intBits] <;> rfl), rfl⟩)
          | (obtain ⟨h1, rfl⟩ := h; have h1 : ¬ n = 0 := by simpa using h1
             exact ⟨_, by simp [binOp, Op.intDiv, h1], rfl⟩)
  · rename_i s s'
    obtain rfl := VR_str hu
    obtain rfl := VR_str hv
    refine ⟨fun _ _ => run_eqGuard hti R hd (by simp) (by simp), ?_⟩
    cases op
    all_goals simp only [strA, E_guard, E_ret, E_fail] at h
    case add =>
      obtain ⟨h1, rfl⟩ := h
      have h1 : s.size + s'.size ≤ 9223372036854775807 := by simpa using h1
      have h2 : ¬ ((s.size : Int) + (s'.size : Int) > IntKind.i64.max) := by
        have : IntKind.i64.max = 9223372036854775807 := rfl
        rw [this]; omega
      exact ⟨.string (s ++ s'), by simp [binOp, Op.stringOp]; omega, rfl⟩
    case eql => subst h; exact ⟨_, by simp [binOp, Op.stringOp], rfl⟩
    case neq => subst h; exact ⟨_, by simp [binOp, Op.stringOp], rfl⟩
    case lss => subst h; exact ⟨_, by simp [binOp, Op.stringOp], rfl⟩
    case leq => subst h; exact ⟨_, by simp [binOp, Op.stringOp], rfl⟩
    case gtr => subst h; exact ⟨_, by simp [binOp, Op.stringOp], rfl⟩
    case geq => subst h; exact ⟨_, by simp [binOp, Op.stringOp], rfl⟩
  · rename_i b b'
    obtain rfl := VR_bool hu
    obtain rfl := VR_bool hv
    refine ⟨fun _ _ => run_eqGuard hti R hd (by simp) (by simp), ?_⟩
    split at h
    · rename_i hb
      rw [E_ret] at h
      subst h
      have hu := hti.und hb rfl
      refine ⟨.bool (b == b'), ?_, rfl⟩
      show ((Op.equal t (.bool b) (.bool b') >>= fun c => pure (Value.bool c)).run P w) = _
      rw [Sem.run_bind, run_equal_bool hu]
      rfl
    · rename_i hb
      rw [E_ret] at h
      subst h
      have hu := hti.und hb rfl
      refine ⟨.bool (!(b == b')), ?_, rfl⟩
      show ((Op.equal t (.bool b) (.bool b') >>= fun c => pure (Value.bool (!c))).run P w) = _
      rw [Sem.run_bind, run_equal_bool hu]
      rfl
    · exact (E_fail.1 h).elim
  · rename_i cs ds
    obtain ⟨us, rfl, hus⟩ : ∃ us : List Value, u = .agg us.toArray ∧ VRs β w (Zs Y β σ w) cs us := hu
    obtain ⟨vs, rfl, hvs⟩ : ∃ vs : List Value, v = .agg vs.toArray ∧ VRs β w (Zs Y β σ w) ds vs := hv
    have key : ∀ fs, (ti.at t).ud = .struct fs → ∀ b, eqA ti 5 t cs ds = some b → P.eqGuardType P.depth t = false ∧ (Op.equalIn 10000 t (.agg us.toArray) (.agg vs.toArray)).run P w = .ok b w := by
      intro fs hfs b hb
      have hk : (ti.at t).ud.kn = true := by rw [hfs]; rfl
      have he : (ti.at t).eq = true := by
        unfold eqA at hb
        rw [hfs] at hb
        cases hq : (ti.at t).eq with
        | true => rfl
        | false => simp only [hq, cond_false] at hb; cases hb
      refine ⟨((hti.td t hk).eq he).2.1, ?_⟩
      have := eqA_sound (w := w) hti 5 hb hus hvs (d := 10000) (by decide)
      rw [hfs] at this
      exact this
    split at h
    · rename_i fs hfs
      split at h
      · rename_i b hb
        rw [E_ret] at h
        subst h
        obtain ⟨g, e⟩ := key fs hfs b hb
        exact ⟨fun x y => run_eqGuard_agg w _ t x y _ _ g, _, by rw [run_eql_struct, e]; rfl, rfl⟩
      · exact (E_fail.1 h).elim
    · rename_i fs hfs
      split at h
      · rename_i b hb
        rw [E_ret] at h
        subst h
        obtain ⟨g, e⟩ := key fs hfs b hb
        exact ⟨fun x y => run_eqGuard_agg w _ t x y _ _ g, _, by rw [run_neq_struct, e]; rfl, rfl⟩
      · exact (E_fail.1 h).elim
    · exact (E_fail.1 h).elim
  · exact (E_fail.1 h).elim
end pure
end
end Go.Proofs.YtchdegcfohegfaaE
