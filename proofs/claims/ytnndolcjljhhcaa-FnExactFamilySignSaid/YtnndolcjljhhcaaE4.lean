/- The engine, part 4: operations that leave memory as it is. -/
import Derived.Test.YtnndolcjljhhcaaE3
import Derived.Orders
import Derived.Laws.Entries
namespace Go.Proofs.YtnndolcjljhhcaaE
set_option linter.unusedVariables false
set_option linter.unusedSimpArgs false
set_option linter.unusedSectionVars false
open Pr

def UdOk (P : Program) (t : TypeId) : UD → Prop
  | .int k => P.underlying t = some (.int k)
  | .bool => P.underlying t = some .bool
  | .str => P.underlying t = some .string
  | .slice e => P.underlying t = some (.slice e)
  | .struct fs => ∃ fields : Array Field, P.underlying t = some (.struct fields) ∧ fields.toList.map (fun f => (f.offset, f.type)) = fs
  | .arr n e => P.underlying t = some (.array n e)
  | .ptr e => P.underlying t = some (.pointer e)
  | .other => True

structure TdOk (P : Program) (t : TypeId) (d : TD) : Prop where
  info : ∃ i z, P.info? t = some i ∧ i.size = sz d.ty ∧ i.bytes = d.bytes ∧ i.zero = some z ∧ z.cells = (zeroC d.ty).toArray
  ud : UdOk P t d.ud

structure TiOk (P : Program) (ti : TI) : Prop where
  td : ∀ t, (ti.at t).ud.kn = true → TdOk P t (ti.at t)
  sl : ∀ t e, (ti.at t).ud = .slice e → (ti.at e).ud.kn = true
  st : ∀ t fs, (ti.at t).ud = .struct fs → ∀ f ∈ fs, (ti.at f.2).ud.kn = true
  ar : ∀ t n e, (ti.at t).ud = .arr n e → (ti.at e).ud.kn = true
  by0 : ∀ t, (ti.at t).ud.kn = true → 0 < (ti.at t).bytes

section
variable {P : Program} {ti : TI} {N : Nat} {X Y : Nat → Prop} {w0 w w' : World} {β β' : Beta} {σ σ' : St} {a a' : Act}

theorem TiOk.und (h : TiOk P ti) {t : TypeId} {u : UD} (e : (ti.at t).ud = u) (k : u.kn = true) : UdOk P t u := by
  have := (h.td t (by rw [e]; exact k)).ud
  rw [e] at this
  exact this

theorem TiOk.size (h : TiOk P ti) {t : TypeId} (k : (ti.at t).ud.kn = true) (w : World) : (sizeOf t).run P w = .ok (sz (ti.at t).ty) w := by
  obtain ⟨i, z, h1, h2, _⟩ := (h.td t k).info
  simp [sizeOf, typeInfo, h1, h2]

theorem TiOk.agg (h : TiOk P ti) {t : TypeId} (k : (ti.at t).ud.kn = true) (w : World) : (isAgg t).run P w = .ok (ti.at t).ud.agg w := by
  have hu := (h.td t k).ud
  cases e : (ti.at t).ud <;> rw [e] at hu k
  case struct fs => obtain ⟨fields, h1, _⟩ := hu; simp [isAgg, run_underlying h1, UD.agg]
  case other => cases k
  all_goals (have h1 := hu; simp only [UdOk] at h1; simp [isAgg, run_underlying h1, UD.agg])

theorem TiOk.slice (h : TiOk P ti) {t e : TypeId} (k : (ti.at t).ud = .slice e) : P.underlying t = some (.slice e) := h.und k rfl

theorem opd_sound (R : Rel ti N X Y w0 β σ a w) {x : Operand} {v : AVal} (h : (opd x).E σ v) : VR β w (Zs Y β σ w) v (a.eval x) := by
  cases x with
  | tmp t =>
    simp only [opd, tmpv, E_get] at h
    split at h
    · rename_i v' hv
      rw [E_ret] at h
      subst h
      exact R.tmp t _ hv
    · exact (E_fail.1 h).elim
  | const c =>
    simp only [opd] at h
    split at h
    · rename_i y hy
      rw [E_ret] at h
      subst h
      unfold constA at hy
      split at hy <;> cases hy <;> exact rfl
    · exact (E_fail.1 h).elim
  | global g => exact (E_fail.1 h).elim
  | func f => rw [opd, E_ret] at h; subst h; exact rfl

theorem wp_val {o : Oper} {next : Act → World → Prop} {Q : Exit → Act → World → Prop} {u : Value} (h : (execOp a.eval o).run P w = .ok (.value u) w') (hn : next (a.put o.dst u) w') : o.wp P a w next Q := by
  unfold Oper.wp
  rw [h]
  exact hn

/-- What is shown of an operation. -/
def Sound (P : Program) (ti : TI) (N : Nat) (X Y : Nat → Prop) (w0 : World) (β : Beta) (σ : St) (a : Act) (w : World) (o : Oper) (new : Loc) (ws : Ws) : Prop :=
  ∀ (next : Act → World → Prop) (Q : Exit → Act → World → Prop),
    (∀ a' w' β', Rel ti N X Y w0 β' (put σ ws) a' w' → (∀ l, ¬ (new ≤ l ∧ l < new + 128) → β' l = β l) → next a' w') → o.wp P a w next Q

theorem sound_pure (R : Rel ti N X Y w0 β σ a w) {o : Oper} {new : Loc} (hd : ∀ t, o.dst = some t → t < N) {v : AVal} {u : Value} (hv : VR β w (Zs Y β σ w) v u)
    (h : (execOp a.eval o).run P w = .ok (.value u) w) : Sound P ti N X Y w0 β σ a w o new (setTmp o.dst v) :=
  fun next Q hn => wp_val h (hn _ _ β (R.set hd hv) (fun _ _ => rfl))

/-! ### the shapes of values -/
theorem VR_int {Z : Nat → Prop} {k : IntKind} {n : Int} {v : Value} (h : VR β w Z (.int k n) v) : v = .int k n := h
theorem VR_bool {Z : Nat → Prop} {b : Bool} {v : Value} (h : VR β w Z (.bool b) v) : v = .bool b := h
theorem VR_str {Z : Nat → Prop} {s : ByteArray} {v : Value} (h : VR β w Z (.str s) v) : v = .string s := h

section pure
variable (hti : TiOk P ti) (R : Rel ti N X Y w0 β σ a w) {o : Oper} {new : Loc} (hd : ∀ t, o.dst = some t → t < N) {ws : Ws}
include hti R hd

theorem op_move {x : Operand} (ho : o.op = .move x) (h : ((opd x).bind fun v => .ret (setTmp o.dst v)).E σ ws) : Sound P ti N X Y w0 β σ a w o new ws := by
  rw [E_bind] at h
  obtain ⟨v, h1, h2⟩ := h
  rw [E_ret] at h2
  subst h2
  exact sound_pure R hd (opd_sound R h1) (by simp [execOp, ho])

theorem op_assign {x : Operand} (ho : o.op = .assign x) (h : ((opd x).bind fun v => .ret (setTmp o.dst v)).E σ ws) : Sound P ti N X Y w0 β σ a w o new ws := by
  rw [E_bind] at h
  obtain ⟨v, h1, h2⟩ := h
  rw [E_ret] at h2
  subst h2
  exact sound_pure R hd (opd_sound R h1) (by simp [execOp, ho])

theorem op_pick {c x y : Operand} (ho : o.op = .pick c x y) (h : ((opd c).bind fun
    | .bool z => .ite z ((opd x).bind fun v => .ret (setTmp o.dst v)) ((opd y).bind fun v => .ret (setTmp o.dst v))
    | _ => .fail).E σ ws) : Sound P ti N X Y w0 β σ a w o new ws := by
  rw [E_bind] at h
  obtain ⟨v, h1, h2⟩ := h
  split at h2
  · rename_i z
    have hc : a.eval c = .bool z := opd_sound R h1
    rw [E_ite, E_bind, E_bind] at h2
    rcases h2 with ⟨rfl, v, h3, h4⟩ | ⟨rfl, v, h3, h4⟩
    · rw [E_ret] at h4
      subst h4
      exact sound_pure R hd (opd_sound R h3) (by simp [execOp, ho, hc, asBool])
    · rw [E_ret] at h4
      subst h4
      exact sound_pure R hd (opd_sound R h3) (by simp [execOp, ho, hc, asBool])
  · exact (E_fail.1 h2).elim

theorem run_eqGuard {op : BinOp} {t : TypeId} {x y : Operand} {u v : Value} (h1 : ∀ a, u ≠ .agg a) (h2 : u ≠ .nilIface) : (eqGuard op t x y u v).run P w = .ok () w := by
  unfold eqGuard
  cases op <;> cases u <;> cases v <;> simp_all

omit hti R hd in
theorem run_equal_bool {t : TypeId} (h : P.underlying t = some .bool) {b c : Bool} : (Op.equal t (.bool b) (.bool c)).run P w = .ok (b == c) w := by
  show (Op.equalIn (9999 + 1) t (.bool b) (.bool c)).run P w = _
  unfold Op.equalIn
  rw [Sem.run_bind, run_underlying h]
  rfl

theorem binA_sound {op : BinOp} {t : TypeId} {x y : AVal} {u v : Value} {z : AVal} (hu : VR β w (Zs Y β σ w) x u) (hv : VR β w (Zs Y β σ w) y v) (h : (binA ti op t x y).E σ z) :
    (∀ a, u ≠ .agg a) ∧ u ≠ .nilIface ∧ ∃ r, (binOp op t u v).run P w = .ok r w ∧ VR β w (Zs Y β σ w) z r := by
  unfold binA at h
  split at h
  · rename_i k m k' n
    obtain rfl := VR_int hu
    obtain rfl := VR_int hv
    refine ⟨by simp, by simp, ?_⟩
    cases hs : isShift op with
    | true =>
      rw [hs] at h
      have h : (shiftA op k m n).E σ z := h
      cases op <;> first | cases hs | skip
      · simp only [shiftA, E_guard, E_ret] at h
        obtain ⟨h1, rfl⟩ := h
        have h1 : ¬ n < 0 := by simpa using h1
        exact ⟨_, by simp [binOp, Op.shift, h1], rfl⟩
      · simp only [shiftA, E_guard, E_ret] at h
        obtain ⟨h1, rfl⟩ := h
        have h1 : ¬ n < 0 := by simpa using h1
        exact ⟨_, by simp [binOp, Op.shift, h1], rfl⟩
    | false =>
      cases hk : kindEq k k' with
      | false => rw [hk, hs] at h; exact (E_fail.1 h).elim
      | true =>
        rw [hk] at h
        obtain rfl := kindEq_eq hk
        have h : (sameInt op k m n).E σ z := by rw [hs] at h; exact h
        cases op <;> first | (cases hs; done) | skip
        all_goals simp only [sameInt, E_guard, E_ret, E_fail] at h
        all_goals first
          | (subst h; exact ⟨_, by (simp [binOp, Op.intArith, Op.intCmp, Op.intBits] <;> rfl), rfl⟩)
          | (obtain ⟨h1, rfl⟩ := h; have h1 : ¬ n = 0 := by simpa using h1
             exact ⟨_, by simp [binOp, Op.intDiv, h1], rfl⟩)
  · rename_i s s'
    obtain rfl := VR_str hu
    obtain rfl := VR_str hv
    refine ⟨by simp, by simp, ?_⟩
    cases op
    all_goals simp only [strA, E_guard, E_ret, E_fail] at h
    case add =>
      obtain ⟨h1, rfl⟩ := h
      have h1 : s.size + s'.size ≤ 9223372036854775807 := by simpa using h1
      have h2 : ¬ ((s.size : Int) + (s'.size : Int) > IntKind.i64.max) := by
        have : IntKind.i64.max = 9223372036854775807 := rfl
        rw [this]; omega
      exact ⟨.string (s ++ s'), by simp [binOp, Op.stringOp]; omega, rfl⟩
    case eql => subst h; exact ⟨_, by simp [binOp, Op.stringOp], rfl⟩
    case neq => subst h; exact ⟨_, by simp [binOp, Op.stringOp], rfl⟩
    case lss => subst h; exact ⟨_, by simp [binOp, Op.stringOp], rfl⟩
    case leq => subst h; exact ⟨_, by simp [binOp, Op.stringOp], rfl⟩
    case gtr => subst h; exact ⟨_, by simp [binOp, Op.stringOp], rfl⟩
    case geq => subst h; exact ⟨_, by simp [binOp, Op.stringOp], rfl⟩
  · rename_i b b'
    obtain rfl := VR_bool hu
    obtain rfl := VR_bool hv
    refine ⟨by simp, by simp, ?_⟩
    split at h
    · rename_i hb
      rw [E_ret] at h
      subst h
      have hu := hti.und hb rfl
      refine ⟨.bool (b == b'), ?_, rfl⟩
      show ((Op.equal t (.bool b) (.bool b') >>= fun c => pure (Value.bool c)).run P w) = _
      rw [Sem.run_bind, run_equal_bool hu]
      rfl
    · rename_i hb
      rw [E_ret] at h
      subst h
      have hu := hti.und hb rfl
      refine ⟨.bool (!(b == b')), ?_, rfl⟩
      show ((Op.equal t (.bool b) (.bool b') >>= fun c => pure (Value.bool (!c))).run P w) = _
      rw [Sem.run_bind, run_equal_bool hu]
      rfl
    · exact (E_fail.1 h).elim
  · exact (E_fail.1 h).elim
end pure
end
end Go.Proofs.YtnndolcjljhhcaaE
