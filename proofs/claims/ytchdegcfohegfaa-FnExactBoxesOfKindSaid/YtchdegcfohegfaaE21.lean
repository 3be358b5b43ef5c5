/- The engine, part 21: type tables and environments, checked by the kernel. -/
import Derived.Test.YtchdegcfohegfaaE20
namespace Go.Proofs.YtchdegcfohegfaaE
set_option linter.unusedVariables false

def veq : Value → Value → Bool
  | .int k n, .int k' n' => kindEq k k' && decide (n = n')
  | .bool x, .bool y => x == y
  | .string x, .string y => Nat.beq x.size 0 && Nat.beq y.size 0
  | .slice none 0 0, .slice none 0 0 => true
  | _, _ => false

theorem bytes_nil {s s' : ByteArray} (h : s.size = 0) (h' : s'.size = 0) : s = s' := by
  obtain ⟨⟨l⟩⟩ := s
  obtain ⟨⟨l'⟩⟩ := s'
  have e3 : l.length = 0 := h
  have e4 : l'.length = 0 := h'
  rw [List.eq_nil_of_length_eq_zero e3, List.eq_nil_of_length_eq_zero e4]

theorem veq_eq {x y : Value} (h : veq x y = true) : x = y := by
  unfold veq at h
  split at h
  · rw [Bool.and_eq_true, decide_eq_true_eq] at h
    rw [kindEq_eq h.1, h.2]
  · rw [beq_iff_eq] at h
    rw [h]
  · rw [Bool.and_eq_true] at h
    rw [bytes_nil (Nat.eq_of_beq_eq_true h.1) (Nat.eq_of_beq_eq_true h.2)]
  · rfl
  · cases h

def valsEq : List Value → List Value → Bool
  | [], [] => true
  | x :: a, y :: b => veq x y && valsEq a b
  | _, _ => false

theorem valsEq_eq : ∀ {a b : List Value}, valsEq a b = true → a = b
  | [], [], _ => rfl
  | x :: a, y :: b, h => by
    simp only [valsEq, Bool.and_eq_true] at h
    rw [veq_eq h.1, valsEq_eq h.2]
  | [], _ :: _, h => by simp [valsEq] at h
  | _ :: _, [], h => by simp [valsEq] at h

def udB (P : Program) (t : TypeId) : UD → Bool
  | .int k => match P.underlying t with | some (.int k') => kindEq k k' | _ => false
  | .bool => match P.underlying t with | some .bool => true | _ => false
  | .str => match P.underlying t with | some .string => true | _ => false
  | .slice e => match P.underlying t with | some (.slice e') => Nat.beq e e' | _ => false
  | .struct fs => match P.underlying t with | some (.struct fields) => decide (fields.toList.map (fun f => (f.offset, f.type)) = fs) | _ => false
  | .arr n e => match P.underlying t with | some (.array n' e') => Nat.beq n n' && Nat.beq e e' | _ => false
  | .ptr e => match P.underlying t with | some (.pointer e') => Nat.beq e e' | _ => false
  | .other => true

theorem udB_ok {P : Program} {t : TypeId} {u : UD} (h : udB P t u = true) : UdOk P t u := by
  cases u with
  | int k => simp only [udB] at h; split at h <;> first | (cases h; done) | (rename_i hu; rw [kindEq_eq h]; exact hu)
  | bool => simp only [udB] at h; split at h <;> first | (cases h; done) | (rename_i hu; exact hu)
  | str => simp only [udB] at h; split at h <;> first | (cases h; done) | (rename_i hu; exact hu)
  | slice e => simp only [udB] at h; split at h <;> first | (cases h; done) | (rename_i hu; rw [Nat.eq_of_beq_eq_true h]; exact hu)
  | struct fs => simp only [udB] at h; split at h <;> first | (cases h; done) | (rename_i fields hu; exact ⟨fields, hu, by simpa using h⟩)
  | arr n e =>
    simp only [udB] at h
    split at h
    · rename_i hu
      rw [Bool.and_eq_true] at h
      rw [Nat.eq_of_beq_eq_true h.1, Nat.eq_of_beq_eq_true h.2]
      exact hu
    · cases h
  | ptr e => simp only [udB] at h; split at h <;> first | (cases h; done) | (rename_i hu; rw [Nat.eq_of_beq_eq_true h]; exact hu)
  | other => trivial

def tdB (P : Program) (t : TypeId) (d : TD) : Bool :=
  (match P.info? t with
   | some i => Nat.beq i.size (sz d.ty) && Nat.beq i.bytes d.bytes && (match i.zero with | some z => valsEq z.cells.toList (zeroC d.ty) | none => false)
   | none => false) && udB P t d.ud && (!d.eq || (!P.stoodInHeld t && (!P.eqGuardType P.depth t && (P.fieldsOf t).toList.all fun f => f.name != "_")))

def subsB (ti : TI) : UD → Bool
  | .slice e => (ti.at e).ud.kn
  | .struct fs => fs.all fun f => (ti.at f.2).ud.kn
  | .arr _ e => (ti.at e).ud.kn
  | _ => true

def tiB (P : Program) (ti : TI) : Bool := ti.all fun p => !(ti.at p.1).ud.kn || (tdB P p.1 (ti.at p.1) && subsB ti (ti.at p.1).ud && Nat.blt 0 (ti.at p.1).bytes)

theorem at_mem : ∀ {ti : TI} {t : TypeId}, (ti.at t).ud.kn = true → ∃ p ∈ ti, p.1 = t
  | [], t, h => by simp [TI.at, UD.kn] at h
  | (u, d) :: l, t, h => by
    unfold TI.at at h
    cases hb : Nat.beq u t with
    | true => exact ⟨(u, d), List.mem_cons_self .., Nat.eq_of_beq_eq_true hb⟩
    | false =>
      rw [hb] at h
      obtain ⟨p, hp, e⟩ := at_mem (ti := l) h
      exact ⟨p, List.mem_cons_of_mem _ hp, e⟩

theorem tiB_ok {P : Program} {ti : TI} (h : tiB P ti = true) : TiOk P ti := by
  have key : ∀ t, (ti.at t).ud.kn = true → tdB P t (ti.at t) = true ∧ subsB ti (ti.at t).ud = true ∧ 0 < (ti.at t).bytes := by
    intro t ht
    obtain ⟨p, hp, rfl⟩ := at_mem ht
    have := List.all_eq_true.1 h p hp
    rw [ht, Bool.not_true, Bool.false_or, Bool.and_eq_true, Bool.and_eq_true] at this
    exact ⟨this.1.1, this.1.2, Nat.le_of_ble_eq_true this.2⟩
  refine ⟨fun t ht => ?_, fun t e he => ?_, fun t fs he f hf => ?_, fun t n e he => ?_, fun t ht => (key t ht).2.2⟩
  · have h1 := (key t ht).1
    unfold tdB at h1
    rw [Bool.and_eq_true, Bool.and_eq_true] at h1
    refine ⟨?_, udB_ok h1.1.2, fun he => ?_⟩
    rotate_left
    · have h3 := h1.2
      rw [he] at h3
      simp only [Bool.not_true, Bool.false_or, Bool.and_eq_true, Bool.not_eq_true', List.all_eq_true, bne_iff_ne] at h3
      exact h3
    have h2 := h1.1.1
    split at h2
    · rename_i i hi
      simp only [Bool.and_eq_true] at h2
      obtain ⟨⟨h3, h4⟩, h5⟩ := h2
      split at h5
      · rename_i z hz
        refine ⟨i, z, hi, Nat.eq_of_beq_eq_true h3, Nat.eq_of_beq_eq_true h4, hz, ?_⟩
        rw [← valsEq_eq h5, Array.toArray_toList]
      · cases h5
    · cases h2
  · have := (key t (by rw [he]; rfl)).2.1
    rw [he] at this
    exact this
  · have := (key t (by rw [he]; rfl)).2.1
    rw [he] at this
    exact List.all_eq_true.1 this f hf
  · have := (key t (by rw [he]; rfl)).2.1
    rw [he] at this
    exact this

def envOf : List (FuncId × Spec) → Env
  | [], _ => none
  | (n, S) :: l, m => bif Nat.beq n m then some S else envOf l m

def fnB (P : Program) (n : FuncId) : Bool := match P.funcs[n]? with
  | some fn => !fn.body.isNone && !(fn.name == "runtime.NumGoroutine")
  | none => false

theorem envOf_nil (P : Program) : EnvOk P (envOf []) := ⟨fun n S h => (by cases h)⟩
theorem envOf_any {P : Program} {n : FuncId} {S : Spec} {l : List (FuncId × Spec)} (hio : S.io = none) (h : (Meets P n S ∧ ∃ fn, P.funcs[n]? = some fn ∧ fn.body.isNone = false ∧ (fn.name == "runtime.NumGoroutine") = false) ∨ Now P n S) (hl : EnvOk P (envOf l)) : EnvOk P (envOf ((n, S) :: l)) where
  ok := fun m S' hS => by
    unfold envOf at hS
    cases hb : Nat.beq n m with
    | true => rw [hb] at hS; cases hS; rw [← Nat.eq_of_beq_eq_true hb, hio]; exact h
    | false => rw [hb] at hS; exact hl.ok m S' hS
theorem envOf_cons {P : Program} {n : FuncId} {S : Spec} {l : List (FuncId × Spec)} (h : Meets P n S) {fn : Func} (hf : P.funcs[n]? = some fn) (hb : fn.body.isNone = false) (hn : (fn.name == "runtime.NumGoroutine") = false) (hl : EnvOk P (envOf l)) (hio : S.io = none := by rfl) : EnvOk P (envOf ((n, S) :: l)) :=
  envOf_any hio (.inl ⟨h, fn, hf, hb, hn⟩) hl

theorem envOf_io {P : Program} {n : FuncId} {S : Spec} {l : List (FuncId × Spec)} {io : IO S.rt} (hio : S.io = some io) (h : MeetsIO P n S.rts S.rt io.G) {fn : Func} (hf : P.funcs[n]? = some fn) (hb : fn.body.isNone = false) (hn : (fn.name == "runtime.NumGoroutine") = false) (hl : EnvOk P (envOf l)) : EnvOk P (envOf ((n, S) :: l)) where
  ok := fun m S' hS => by
    unfold envOf at hS
    cases hb2 : Nat.beq n m with
    | true => rw [hb2] at hS; cases hS; rw [← Nat.eq_of_beq_eq_true hb2, hio]; exact ⟨h, fn, hf, hb, hn⟩
    | false => rw [hb2] at hS; exact hl.ok m S' hS

def bodyOf (f : Func) : Code := f.body.getD .skip
end Go.Proofs.YtchdegcfohegfaaE
