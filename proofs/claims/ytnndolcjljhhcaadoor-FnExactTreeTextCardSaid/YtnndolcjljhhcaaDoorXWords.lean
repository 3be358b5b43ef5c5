/- Words of the walks: what is told of data that came in, lists with spare cells, rows that lie apart, and small words for the plain laws. -/
import Derived.Laws.Slices
import Derived.Test.YtnndolcjljhhcaaDoorWWords
import Derived.Test.YtnndolcjljhhcaaDoorWMore
namespace Go.Proofs.YtnndolcjljhhcaaDoorX
set_option linter.unusedVariables false
set_option linter.unusedSimpArgs false
open Go.RowKit Go.ChangeShapes Go.WideShapes Go.Proofs.YtnndolcjljhhcaaDoorW.PrintWords Go.Proofs.YtnndolcjljhhcaaDoorW.PrintLast Go.Proofs.YtnndolcjljhhcaaDoorW.PrintMore

/-- What is told of a number that came in. -/
def okI (k : IntKind) (x : Int) : Prop := (Lit.int k x).wf = true
def okT {α : Type} (_ : α) : Prop := True
def okS (s : ByteArray) : Prop := s.size ≤ maxLen
def okL {α : Type} (p : α → Prop) (l : List α) : Prop := l.length ≤ maxLen ∧ ∀ x ∈ l, p x
def okP {α β : Type} (p : α → Prop) (q : β → Prop) (x : α × β) : Prop := p x.1 ∧ q x.2

/-! ### Words of the hand templates -/
theorem x_clone_lim {α : Type} {l r : List α} {N : Nat} (h : (if l.length < N then some l else none) = some r) : l.length < N := by
  split at h
  · assumption
  · cases h
theorem x_clone_eq {α : Type} {l r : List α} {N : Nat} (h : (if l.length < N then some l else none) = some r) : l = r := by
  split at h
  · exact Option.some.inj h
  · cases h
theorem x_grow_eq {α : Type} {r : List α} {a N : Int} (h : (if 0 ≤ a then (if a ≤ N then some ([] : List α) else none) else none) = some r) : r = [] ∧ 0 ≤ a ∧ a ≤ N := by
  split at h
  · split at h
    · exact ⟨(Option.some.inj h).symm, ‹_›, ‹_›⟩
    · cases h
  · cases h
theorem x_C_none {α : Type} {d : Kd α} {w : World} {n : Nat} {l : List α} (h : Kd.C d w none n l) : l = [] := by
  obtain ⟨h1, _, h3⟩ := h
  cases l with
  | nil => rfl
  | cons x l =>
    obtain ⟨ad, e, _⟩ := h3 (by rw [← h1]; simp)
    cases e

/-! ### Small words for the plain laws -/
theorem w64 {x : Int} (h0 : -9223372036854775808 ≤ x) (h1 : x ≤ 9223372036854775807) : wrap64 x = x := by
  unfold wrap64
  omega
theorem evc {α : Type} {g : Nat → Option α} {r : α} (h : ∀ k, g k = some r) : Ev g r := ⟨0, fun k _ => h k⟩
theorem ev_bind {α β : Type} {g : Nat → Option α} {f : Nat → α → Option β} {a : α} {r : β} (h : Ev g a) (k : Ev (fun n => f n a) r) : Ev (fun n => (g n).bind (f n)) r := Ev.bind h k
theorem ev_some {α β : Type} {a : α} {f : Nat → α → Option β} {r : β} (k : Ev (fun n => f n a) r) : Ev (fun n => (some a).bind (f n)) r := Ev.bind (Ev.now a) k
theorem ev_ite_pos {α : Type} {c : Prop} [Decidable c] {g f : Nat → Option α} {r : α} (h : c) (k : Ev g r) : Ev (fun n => if c then g n else f n) r := by
  simp only [if_pos h]
  exact k
theorem ev_ite_neg {α : Type} {c : Prop} [Decidable c] {g f : Nat → Option α} {r : α} (h : ¬ c) (k : Ev f r) : Ev (fun n => if c then g n else f n) r := by
  simp only [if_neg h]
  exact k
theorem ev_ite {α : Type} {c : Prop} [Decidable c] {g f : Nat → Option α} {a b : α} (k1 : c → Ev g a) (k2 : ¬ c → Ev f b) : Ev (fun n => if c then g n else f n) (if c then a else b) := by
  by_cases h : c
  · simp only [if_pos h]
    exact k1 h
  · simp only [if_neg h]
    exact k2 h
theorem rd_at (l : List Int) (i : Nat) (h : i < l.length) : rd l (i : Int) = l[i] := by
  unfold rd
  rw [Int.toNat_natCast, List.getD_eq_getElem?_getD, List.getElem?_eq_getElem h]
  rfl
theorem rdOf_at {α : Type} (d : α) (l : List α) (i : Nat) (h : i < l.length) : rdOf d l (i : Int) = l[i] := by
  unfold rdOf
  rw [Int.toNat_natCast, List.getD_eq_getElem?_getD, List.getElem?_eq_getElem h]
  rfl
theorem drop_at {α : Type} (l : List α) (i : Nat) (h : i < l.length) : l.drop i = l[i] :: l.drop (i + 1) := (List.drop_eq_getElem_cons h)
theorem set_at {α : Type} (l : List α) (i : Nat) (v : α) : l.set ((i : Int)).toNat v = l.set i v := by rw [Int.toNat_natCast]

/-! ### Function values -/
section
variable {P : Program} {ops : Array Oper} {Q : Exit → Act → World → Prop}
theorem x_gateT {rest : List Oper} {o : Oper} {a : Act} {W : World} {t : Tmp} {as : Array Operand} {ts : Array TypeId} (_ho : o.op = .call { callee := .value (.tmp t), args := as, argTypes := ts }) (h : wpList P ops Q (o :: rest) a W) : wpList P ops Q (o :: rest) a W := h
/-- A call of a constant function value that a variable holds. -/
theorem x_goesT {rest : List Oper} {oi : Oper} {a : Act} {w : World} {t : Tmp} (N : Option Tmp) (hd : oi.dst = N) (hg : oi.guard = none) {f : FuncId} {fn : Func} {as : Array Operand} {ts : Array TypeId} (hf : P.funcs[f]? = some fn) (hname : (fn.name == "runtime.NumGoroutine") = false) (hb : fn.body.isSome = true) (args : Array Value)
    (hop : oi.op = .call { callee := .value (.tmp t), args := as, argTypes := ts }) (hx : a.eval (.tmp t) = .func (.func f) #[] #[]) (hargs : as.map a.eval = args)
    (h : Calls P f args w fun e w' => ∃ v, e = .returned v ∧ wpList P ops Q rest (a.put N v) w') : wpList P ops Q (oi :: rest) a w := by
  refine wpList_plain hg fun K hK => ?_
  have he := enters_ hf hname hb args w
  have hrun : (execOp a.eval oi).run P w = .ok (.enter f args) w := by
    unfold execOp
    simp [hop, resolve, hx, Deferred.ofValue, invoke, hargs, he]
  unfold Oper.wp
  rw [hrun, Oper.upon_enter]
  refine h.mono fun e w'' hh => ?_
  obtain ⟨v, rfl, hk⟩ := hh
  subst hd
  exact hK _ _ hk
end

/-! ### Lists with spare cells -/
/-- A list's value, cut to a length. -/
def x_short (n : Nat) : Value → Value
  | .slice A _ c => .slice A n c
  | v => v
def x_room (n : Nat) : Nat := if n % 6 = 5 then 0 else if n % 3 = 0 then 1 else n
/-- What a list with spare cells is handed back as. -/
def x_Short {α : Type} (n : Nat) (v0 v1 : Value) (full : List α) : Prop := v1 = x_short n v0 ∨ (v1 = .slice none 0 0 ∧ v0 = v1 ∧ full = [])
theorem x_to {α : Type} {d : Kd α} {e : Nat} {w : World} {base : Nat} {ok : Nat → Prop} {v0 v1 : Value} {full : List α} {n n' : Nat} (hv : x_Short n v0 v1 full) (ho : d.R e w base ok v0 full) (hn : n = n') (h0 : full = [] → n = 0) :
    ∃ A c, v1 = .slice A n' c ∧ d.R e w base ok (.slice A full.length c) full := by
  subst hn
  obtain ⟨A, c, rfl⟩ := Kd.R_slice ho
  rcases hv with rfl | ⟨rfl, h1, h2⟩
  · exact ⟨A, c, rfl, ho⟩
  · rw [h0 h2]
    obtain ⟨rfl, _, rfl⟩ := Value.slice.inj h1
    exact ⟨none, 0, rfl, ho⟩
/-- What is told of a new row: between which sizes its blocks lie. -/
theorem x_iv {α : Type} {d : Kd α} {e : Nat} {w : World} {base : Nat} {ok : Nat → Prop} {v : Value} {xs : List α} (h : d.R e w base ok v xs) : d.R e w base (fun k => base ≤ k ∧ k < w.heap.size) v xs :=
  Kd.R_mono (Kd.R_bound h) (fun k hk => ⟨hk.2.1, hk.2.2.1⟩)
theorem x_rd {α : Type} {d : Kd α} {e : Nat} {w : World} {base : Nat} {ok : Nat → Prop} {A : Option Addr} {n c : Nat} {full g : List α} (h : d.R e w base ok (.slice A n c) full) (hl : g.length ≤ full.length) (ht : full.take g.length = g) : d.C w A g.length g := by
  have h1 := Kd.C_take (Kd.R_reads' h).2.2 hl
  rw [ht] at h1
  exact h1
theorem x_rc {α : Type} {d : Kd α} {e : Nat} {w : World} {base : Nat} {ok : Nat → Prop} {A : Option Addr} {c : Nat} {full : List α} {m : Nat} (h : d.R e w base ok (.slice A full.length c) full) (hl : m ≤ full.length) : m ≤ c := Nat.le_trans hl (Kd.R_reads' h).2.1
theorem x_rt {α : Type} {d : Kd α} {e : Nat} {w : World} {base : Nat} {ok : Nat → Prop} {A : Option Addr} {n c : Nat} {full g : List α} (h : d.R e w base ok (.slice A n c) full) (hl : g.length ≤ full.length) (ht : full.take g.length = g) : d.R e w base ok (.slice A g.length c) g := by
  have h1 := Kd.R_take h hl
  rw [ht] at h1
  exact h1
theorem x_rdw {α : Type} {d : Kd α} {e : Nat} {w : World} {base : Nat} {ok : Nat → Prop} {A : Option Addr} {n c : Nat} {ys : List α} (h : d.R e w base ok (.slice A n c) ys) : d.C w A ys.length ys := (Kd.R_reads' h).2.2
theorem x_rcw {α : Type} {d : Kd α} {e : Nat} {w : World} {base : Nat} {ok : Nat → Prop} {A : Option Addr} {n c : Nat} {ys : List α} (h : d.R e w base ok (.slice A n c) ys) (hy : ys.length = n) : ys.length ≤ c := by
  rw [hy]
  exact (Kd.R_reads' h).2.1
/-- A slice expression up to the capacity. -/
theorem x_cut {P : Program} (t e : TypeId) (kh : IntKind) {i : TypeInfo} (ht : P.underlying t = some (.slice e)) (hi : P.info? e = some i) (A : Option Addr) (n c m : Nat) (j : Int) (hj : j = m) (hm : m ≤ c) :
    ∀ W : World, (Instr.slice t (.slice A n c) none (some (.int kh j)) none).run P W = .ok (.slice A m c) W := by
  intro W
  subst hj
  have hel : P.elem t = e := by simp [Program.elem, ht]
  have hu : P.underlying t = some (.slice (P.elem t)) := by rw [hel]; exact ht
  have ha : (A.map fun x => x.add 0) = A := by cases A <;> simp [Addr.add]
  rw [run_slice_h W t A n c hu kh (m : Int) (by omega) (by omega), hel]
  simp [sizeOf, typeInfo, hi, sliced, Result.andThen, ha]
/-- Another row's blocks. -/
theorem x_off {α : Type} {d : Kd α} {e : Nat} {w w2 : World} {base a b p q : Nat} {v : Value} {xs : List α} (h : d.R e w base (fun k => a ≤ k ∧ k < b) v xs) (hk : Kept w w2 (fun k => p ≤ k ∧ k < q)) (hd : b ≤ p ∨ q ≤ a) : d.R e w2 base (fun k => a ≤ k ∧ k < b) v xs :=
  Kd.R_mono (Kd.R_keptB h hk (fun k hk hs => by omega)) (fun k hk => hk.1)
theorem x_sum (x c : Int) (a b : Nat) : x + c * (a : Int) + c * (b : Int) = x + c * ((a + b : Nat) : Int) := by rw [Int.natCast_add, Int.mul_add, Int.add_assoc]
theorem x_fl {α : Type} (l : List (List α)) (i : Nat) : (l.drop i).flatten.length ≤ l.flatten.length := by
  have h := congrArg (fun z : List (List α) => z.flatten.length) (List.take_append_drop i l)
  simp only [List.flatten_append, List.length_append] at h
  omega
theorem x_inner {α : Type} (l : List (List α)) (i : Nat) (h : i < l.length) : l[i].length ≤ l.flatten.length := by
  have h1 := x_fl l i
  rw [drop_at l i h, List.flatten_cons, List.length_append] at h1
  omega
/-- A row that was written stays where it was. -/
theorem x_own {α : Type} {d : Kd α} {e : Nat} {w : World} {base : Nat} {p q b : Nat} {v : Value} {xs : List α} {base0 : Nat} {ys : List α} {w0 : World} (hE : d.E = []) (h0 : d.R e w0 base0 (fun k => p ≤ k ∧ k < q) v ys) (h : d.R e w base (fun k => (p ≤ k ∧ k < q) ∨ b ≤ k) v xs) : d.R e w base (fun k => p ≤ k ∧ k < q) v xs :=
  Kd.R_reok hE h (fun k hk => h0.1 k hk)
end Go.Proofs.YtnndolcjljhhcaaDoorX
