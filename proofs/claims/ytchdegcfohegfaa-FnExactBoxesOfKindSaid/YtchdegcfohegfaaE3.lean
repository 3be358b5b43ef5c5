/- The engine, part 3: a state of the machine and the world. -/
import Derived.Test.YtchdegcfohegfaaE2
namespace Go.Proofs.YtchdegcfohegfaaE
set_option linter.unusedVariables false
set_option linter.unusedSimpArgs false

/-! ### what a step comes to -/
namespace Pr
def Ev {α : Type} (σ : St) : Pr α → α → List Loc → Prop
  | .ret a, b, rs => a = b ∧ rs = []
  | .get l k, b, rs => ∃ rs', rs = l :: rs' ∧ (k (look σ l)).Ev σ b rs'
  | .guard c p, b, rs => c = true ∧ p.Ev σ b rs
  | .ite c p q, b, rs => (c = true ∧ p.Ev σ b rs) ∨ (c = false ∧ q.Ev σ b rs)
  | .ext o k, b, rs => ∃ x, o = some x ∧ (k x).Ev σ b rs
  | .fail, _, _ => False

theorem run_ev {α R : Type} {σ : St} : ∀ {p : Pr α} {rs0 : List Loc} {κ : α → List Loc → Option R} {r : R}, p.run σ rs0 κ = some r → ∃ b rs, p.Ev σ b rs ∧ κ b (rs.reverse ++ rs0) = some r
  | .ret a, rs0, κ, r, h => ⟨a, [], ⟨rfl, rfl⟩, h⟩
  | .get l k, rs0, κ, r, h => by
    obtain ⟨b, rs, h1, h2⟩ := run_ev (p := k (look σ l)) h
    exact ⟨b, l :: rs, ⟨rs, rfl, h1⟩, by rw [List.reverse_cons, List.append_assoc]; exact h2⟩
  | .guard c p, rs0, κ, r, h => by
    cases c with
    | false => cases h
    | true => obtain ⟨b, rs, h1, h2⟩ := run_ev (p := p) h; exact ⟨b, rs, ⟨rfl, h1⟩, h2⟩
  | .ite c p q, rs0, κ, r, h => by
    cases c with
    | false => obtain ⟨b, rs, h1, h2⟩ := run_ev (p := q) h; exact ⟨b, rs, .inr ⟨rfl, h1⟩, h2⟩
    | true => obtain ⟨b, rs, h1, h2⟩ := run_ev (p := p) h; exact ⟨b, rs, .inl ⟨rfl, h1⟩, h2⟩
  | .ext o k, rs0, κ, r, h => by
    cases o with
    | none => cases h
    | some x => obtain ⟨b, rs, h1, h2⟩ := run_ev (p := k x) h; exact ⟨b, rs, ⟨x, rfl, h1⟩, h2⟩
  | .fail, rs0, κ, r, h => by cases h

theorem ev_local {α : Type} {σ σ' : St} : ∀ {p : Pr α} {b : α} {rs : List Loc}, p.Ev σ b rs → (∀ l ∈ rs, look σ' l = look σ l) → p.Ev σ' b rs
  | .ret a, b, rs, h, _ => h
  | .get l k, b, rs, ⟨rs', e, h1⟩, hl => ⟨rs', e, by
      subst e
      rw [hl l (List.mem_cons_self ..)]
      exact ev_local h1 (fun x hx => hl x (List.mem_cons_of_mem _ hx))⟩
  | .guard c p, b, rs, ⟨hc, h⟩, hl => ⟨hc, ev_local h hl⟩
  | .ite c p q, b, rs, h, hl => h.imp (fun h => ⟨h.1, ev_local h.2 hl⟩) (fun h => ⟨h.1, ev_local h.2 hl⟩)
  | .ext o k, b, rs, ⟨x, hx, h⟩, hl => ⟨x, hx, ev_local h hl⟩
  | .fail, _, _, h, _ => h

/-- The same without the places that it looked at. -/
def E {α : Type} (σ : St) (p : Pr α) (b : α) : Prop := ∃ rs, p.Ev σ b rs

section
variable {α β : Type} {σ : St}
theorem E_ret {a b : α} : (Pr.ret a).E σ b ↔ a = b := ⟨fun ⟨_, h, _⟩ => h, fun h => ⟨[], h, rfl⟩⟩
theorem E_get {l : Loc} {k : Cell → Pr α} {b : α} : (Pr.get l k).E σ b ↔ (k (look σ l)).E σ b :=
  ⟨fun ⟨_, rs, _, h⟩ => ⟨rs, h⟩, fun ⟨rs, h⟩ => ⟨l :: rs, rs, rfl, h⟩⟩
theorem E_guard {c : Bool} {p : Pr α} {b : α} : (Pr.guard c p).E σ b ↔ c = true ∧ p.E σ b :=
  ⟨fun ⟨rs, h, h'⟩ => ⟨h, rs, h'⟩, fun ⟨h, rs, h'⟩ => ⟨rs, h, h'⟩⟩
theorem E_ite {c : Bool} {p q : Pr α} {b : α} : (Pr.ite c p q).E σ b ↔ (c = true ∧ p.E σ b) ∨ (c = false ∧ q.E σ b) :=
  ⟨fun ⟨rs, h⟩ => h.imp (fun h => ⟨h.1, rs, h.2⟩) (fun h => ⟨h.1, rs, h.2⟩), fun h => h.elim (fun ⟨h, rs, h'⟩ => ⟨rs, .inl ⟨h, h'⟩⟩) (fun ⟨h, rs, h'⟩ => ⟨rs, .inr ⟨h, h'⟩⟩)⟩
theorem E_ext {γ : Type} {o : Option γ} {k : γ → Pr α} {b : α} : (Pr.ext o k).E σ b ↔ ∃ x, o = some x ∧ (k x).E σ b :=
  ⟨fun ⟨rs, x, h, h'⟩ => ⟨x, h, rs, h'⟩, fun ⟨x, h, rs, h'⟩ => ⟨rs, x, h, h'⟩⟩
theorem E_fail {b : α} : (Pr.fail : Pr α).E σ b ↔ False := ⟨fun ⟨_, h⟩ => h, fun h => h.elim⟩
theorem E_bind : ∀ {p : Pr α} {f : α → Pr β} {b : β}, (p.bind f).E σ b ↔ ∃ a, p.E σ a ∧ (f a).E σ b
  | .ret a, f, b => ⟨fun h => ⟨a, E_ret.2 rfl, h⟩, fun ⟨a', h, h'⟩ => by rw [E_ret] at h; subst h; exact h'⟩
  | .get l k, f, b => by
    show (Pr.get l fun c => (k c).bind f).E σ b ↔ _
    rw [E_get, E_bind]
    simp only [E_get]
  | .guard c p, f, b => by
    show (Pr.guard c (p.bind f)).E σ b ↔ _
    rw [E_guard, E_bind]
    simp only [E_guard]
    exact ⟨fun ⟨h, a, h1, h2⟩ => ⟨a, ⟨h, h1⟩, h2⟩, fun ⟨a, ⟨h, h1⟩, h2⟩ => ⟨h, a, h1, h2⟩⟩
  | .ite c p q, f, b => by
    show (Pr.ite c (p.bind f) (q.bind f)).E σ b ↔ _
    rw [E_ite, E_bind, E_bind]
    simp only [E_ite]
    constructor
    · rintro (⟨h, a, h1, h2⟩ | ⟨h, a, h1, h2⟩)
      · exact ⟨a, .inl ⟨h, h1⟩, h2⟩
      · exact ⟨a, .inr ⟨h, h1⟩, h2⟩
    · rintro ⟨a, ⟨h, h1⟩ | ⟨h, h1⟩, h2⟩
      · exact .inl ⟨h, a, h1, h2⟩
      · exact .inr ⟨h, a, h1, h2⟩
  | .ext o k, f, b => by
    show (Pr.ext o fun x => (k x).bind f).E σ b ↔ _
    rw [E_ext]
    simp only [E_ext, E_bind]
    exact ⟨fun ⟨x, h, a, h1, h2⟩ => ⟨a, ⟨x, h, h1⟩, h2⟩, fun ⟨a, ⟨x, h, h1⟩, h2⟩ => ⟨x, h, a, h1, h2⟩⟩
  | .fail, f, b => by
    show (Pr.fail : Pr β).E σ b ↔ _
    rw [E_fail]
    simp only [E_fail, false_and, exists_false]
end
end Pr

/-! ### places -/
theorem look_cons (l' : Loc) (c : Cell) (σ : St) (l : Loc) : look ((l', c) :: σ) l = if l' = l then c else look σ l := by
  show (bif Nat.beq l' l then c else look σ l) = _
  by_cases h : l' = l
  · subst h; rw [if_pos rfl, Nat.beq_refl]; rfl
  · rw [if_neg h]
    cases hb : Nat.beq l' l with
    | true => exact absurd (Nat.eq_of_beq_eq_true hb) h
    | false => rfl
theorem put_nil (σ : St) : put σ [] = σ := rfl
theorem put_cons (σ : St) (x : Loc × Cell) (ws : Ws) : put σ (x :: ws) = put (x :: σ) ws := by
  unfold put
  rw [List.reverse_cons, List.append_assoc]
  rfl
theorem put_append (σ : St) (ws vs : Ws) : put σ (ws ++ vs) = put (put σ ws) vs := by
  unfold put
  rw [List.reverse_append, List.append_assoc]
theorem tmpL_inj {t u : Nat} (h : tmpL t = tmpL u) : t = u := Nat.eq_of_mul_eq_mul_left (show 0 < 2 by decide) h

def isOwn : Cell → Bool
  | .row true _ _ _ => true
  | .mem true _ _ => true
  | .deep _ _ _ _ _ => true
  | _ => false
def isDeep : Cell → Bool
  | .deep _ _ _ _ _ => true
  | _ => false
theorem isDeep_own {c : Cell} (h : isDeep c = true) : isOwn c = true := by cases c <;> first | rfl | cases h

/-- A content with all the rows in it, down to the last block: F are these blocks. -/
def RdO (w : World) : (t : Ty) → T t → List Value → List Nat → Prop
  | .int k, n, cs, F => cs = [.int k n] ∧ F = []
  | .bool, b, cs, F => cs = [.bool b] ∧ F = []
  | .str, s, cs, F => cs = [.string s] ∧ F = []
  | .slice e t, xs, cs, F => ∃ (b : Option Nat) (c : Nat), cs = [.slice (b.map fun g => ⟨g, 0, none⟩) xs.length (if b = none then 0 else c)] ∧ match b with
    | none => xs = [] ∧ F = []
    | some g => ∃ (cur : Array Value) (F' : List Nat), w.heap[g]? = some (.cells cur e (0, 0)) ∧ xs.length ≤ c ∧ c ≤ maxLen ∧ cur.size = c * sz t ∧ rowR (RdO w t) xs (cur.toList.take (xs.length * sz t)) F' ∧ F = g :: F'
  | .vslice _ _, _, _, _ => False
  | .pair a b, x, cs, F => ∃ c1 c2 F1 F2, cs = c1 ++ c2 ∧ F = F1 ++ F2 ∧ RdO w a x.1 c1 F1 ∧ RdO w b x.2 c2 F2

theorem RdO_len : ∀ {t : Ty} {w : World} {x : T t} {cs F}, RdO w t x cs F → cs.length = sz t := by
  intro t
  induction t with
  | pair a b ha hb =>
    rintro w x cs F ⟨c1, c2, F1, F2, rfl, rfl, h1, h2⟩
    rw [List.length_append, ha h1, hb h2]
    rfl
  | slice e t _ => rintro w x cs F ⟨b, c, rfl, _⟩; rfl
  | vslice e t _ => intro w x cs F h; exact h.elim
  | int k => rintro w x cs F ⟨rfl, _⟩; rfl
  | bool => rintro w x cs F ⟨rfl, _⟩; rfl
  | str => rintro w x cs F ⟨rfl, _⟩; rfl

theorem RdO_one : ∀ {t : Ty} {w : World} {x : T t} {cs F}, RdO w t x cs F → ∀ u ∈ cs, u.oneCell' = true := by
  intro t
  induction t with
  | pair a b ha hb =>
    rintro w x cs F ⟨c1, c2, F1, F2, rfl, rfl, h1, h2⟩ u hu
    rcases List.mem_append.1 hu with hu | hu
    · exact ha h1 u hu
    · exact hb h2 u hu
  | slice e t _ => rintro w x cs F ⟨b, c, rfl, _⟩ u hu; rw [List.mem_singleton.1 hu]; cases b <;> rfl
  | vslice e t _ => intro w x cs F h; exact h.elim
  | int k => rintro w x cs F ⟨rfl, _⟩ u hu; rw [List.mem_singleton.1 hu]; rfl
  | bool => rintro w x cs F ⟨rfl, _⟩ u hu; rw [List.mem_singleton.1 hu]; rfl
  | str => rintro w x cs F ⟨rfl, _⟩ u hu; rw [List.mem_singleton.1 hu]; rfl

theorem RdO_move : ∀ {t : Ty} {w w' : World} {x : T t} {cs F}, (∀ g ∈ F, w'.heap[g]? = w.heap[g]?) → RdO w t x cs F → RdO w' t x cs F := by
  intro t
  induction t with
  | pair a b ha hb =>
    rintro w w' x cs F hm ⟨c1, c2, F1, F2, rfl, rfl, h1, h2⟩
    exact ⟨c1, c2, F1, F2, rfl, rfl, ha (fun g hg => hm g (List.mem_append_left _ hg)) h1, hb (fun g hg => hm g (List.mem_append_right _ hg)) h2⟩
  | slice e t ih =>
    rintro w w' x cs F hm ⟨b, c, rfl, h⟩
    refine ⟨b, c, rfl, ?_⟩
    cases b with
    | none => exact h
    | some g =>
      obtain ⟨cur, F', h1, h2, h3, h4, h5, rfl⟩ := h
      exact ⟨cur, F', by rw [hm g (List.mem_cons_self ..)]; exact h1, h2, h3, h4, rowR_imp (fun y ds G hG hy => ih (fun f hf => hm f (List.mem_cons_of_mem _ (hG f hf))) hy) h5, rfl⟩
  | vslice e t _ => intro w w' x cs F _ h; exact h.elim
  | int k => exact fun _ h => h
  | bool => exact fun _ h => h
  | str => exact fun _ h => h

theorem RdO_lt : ∀ {t : Ty} {w : World} {x : T t} {cs F}, RdO w t x cs F → ∀ g ∈ F, g < w.heap.size := by
  intro t
  induction t with
  | pair a b ha hb =>
    rintro w x cs F ⟨c1, c2, F1, F2, rfl, rfl, h1, h2⟩ g hg
    rcases List.mem_append.1 hg with hg | hg
    · exact ha h1 g hg
    · exact hb h2 g hg
  | slice e t ih =>
    rintro w x cs F ⟨b, c, rfl, h⟩ g hg
    cases b with
    | none => rw [h.2] at hg; cases hg
    | some g2 =>
      obtain ⟨cur, F', h1, h2, h3, h4, h5, rfl⟩ := h
      rcases List.mem_cons.1 hg with rfl | hg
      · exact (Array.getElem?_eq_some_iff.1 h1).1
      · exact rowR_blocks (p := fun g => g < w.heap.size) (fun _ _ _ hr => ih hr) h5 g hg
  | vslice e t _ => intro w x cs F h; exact h.elim
  | int k => rintro w x cs F ⟨_, rfl⟩ g hg; cases hg
  | bool => rintro w x cs F ⟨_, rfl⟩ g hg; cases hg
  | str => rintro w x cs F ⟨_, rfl⟩ g hg; cases hg

/-- The opened row: its cells, by what is opened and what is given away. -/
def DeepRow (β : Beta) (w : World) (Z : Nat → Prop) (t : Ty) (k : Nat) (xs : List (T t)) (cells : List Value) (I : List Nat) : Option (Nat × List AVal) → Prop
  | none => ∃ F, rowR (RdO w t) (xs.drop k) (cells.drop (k * sz t)) F ∧ F.Nodup ∧ ∀ f ∈ F, f ∈ I
  | some (i, cs) => k ≤ i ∧ i < xs.length ∧ ∃ c1 c2 c3 F1 F2, cells.drop (k * sz t) = c1 ++ c2 ++ c3 ∧ rowR (RdO w t) ((xs.drop k).take (i - k)) c1 F1 ∧ VRs β w Z cs c2 ∧ c2.length = sz t ∧ rowR (RdO w t) (xs.drop (i + 1)) c3 F2 ∧ (F1 ++ F2).Nodup ∧ ∀ f ∈ F1 ++ F2, f ∈ I

def DeepOk (β : Beta) (w : World) (Z : Nat → Prop) (e : TypeId) (t : Ty) (k : Nat) (xs : List (T t)) (op : Option (Nat × List AVal)) (b : Option Nat × Nat × Nat) (I : List Nat) : Prop :=
  b.2.2 = xs.length ∧ (∀ f ∈ I, f < w.heap.size) ∧ match b.1 with
  | none => xs = []
  | some g => g ∉ I ∧ k ≤ xs.length ∧ ∃ cur : Array Value, w.heap[g]? = some (.cells cur e (0, 0)) ∧ xs.length ≤ b.2.1 ∧ b.2.1 ≤ maxLen ∧ cur.size = b.2.1 * sz t ∧ DeepRow β w Z t k xs (cur.toList.take (xs.length * sz t)) I op

theorem DeepRow.mono {β β' : Beta} {w w' : World} {Z Z' : Nat → Prop} {t : Ty} {k : Nat} {xs : List (T t)} {cells : List Value} {I : List Nat} {op : Option (Nat × List AVal)} (hβ : ∀ l b, β l = some b → β' l = some b)
    (hZ : ∀ g, Z g → Z' g ∧ w'.heap[g]? = w.heap[g]?) (hI : ∀ g ∈ I, w'.heap[g]? = w.heap[g]?) (h : DeepRow β w Z t k xs cells I op) : DeepRow β' w' Z' t k xs cells I op := by
  cases op with
  | none =>
    obtain ⟨F, h1, h2, h3⟩ := h
    exact ⟨F, rowR_imp (fun y ds G hG hy => RdO_move (fun f hf => hI f (h3 f (hG f hf))) hy) h1, h2, h3⟩
  | some p =>
    obtain ⟨i, cs⟩ := p
    obtain ⟨h1, h2, c1, c2, c3, F1, F2, h3, h4, h5, h6, h7, h8, h9⟩ := h
    exact ⟨h1, h2, c1, c2, c3, F1, F2, h3, rowR_imp (fun y ds G hG hy => RdO_move (fun f hf => hI f (h9 f (List.mem_append_left _ (hG f hf)))) hy) h4, VRs_mono hβ hZ h5, h6, rowR_imp (fun y ds G hG hy => RdO_move (fun f hf => hI f (h9 f (List.mem_append_right _ (hG f hf)))) hy) h7, h8, h9⟩

theorem DeepOk.mono {β β' : Beta} {w w' : World} {Z Z' : Nat → Prop} {e : TypeId} {t : Ty} {k : Nat} {xs : List (T t)} {op : Option (Nat × List AVal)} {b} {I : List Nat} (hβ : ∀ l b, β l = some b → β' l = some b)
    (hle : w.heap.size ≤ w'.heap.size) (hZ : ∀ g, Z g → Z' g ∧ w'.heap[g]? = w.heap[g]?) (hI : ∀ g ∈ I, w'.heap[g]? = w.heap[g]?) (hb : ∀ g, b.1 = some g → w'.heap[g]? = w.heap[g]?) (h : DeepOk β w Z e t k xs op b I) : DeepOk β' w' Z' e t k xs op b I := by
  obtain ⟨h1, h0, h2⟩ := h
  refine ⟨h1, fun f hf => Nat.lt_of_lt_of_le (h0 f hf) hle, ?_⟩
  cases hb1 : b.1 with
  | none => rw [hb1] at h2; exact h2
  | some g =>
    rw [hb1] at h2
    obtain ⟨h3, h4, cur, h5, h6, h7, h8, h9⟩ := h2
    exact ⟨h3, h4, cur, by rw [hb g hb1]; exact h5, h6, h7, h8, h9.mono hβ hZ hI⟩

theorem DeepOk.closed {β β' : Beta} {w : World} {Z Z' : Nat → Prop} {e : TypeId} {t : Ty} {k : Nat} {xs : List (T t)} {b} {I : List Nat} (h : DeepOk β w Z e t k xs none b I) : DeepOk β' w Z' e t k xs none b I := by
  obtain ⟨h1, h0, h2⟩ := h
  refine ⟨h1, h0, ?_⟩
  cases hb1 : b.1 with
  | none => rw [hb1] at h2; exact h2
  | some g => rw [hb1] at h2; exact h2

structure Kept (X : Nat → Prop) (w w' : World) : Prop where
  os : w'.os = w.os
  tape : w'.tape = w.tape
  output : w'.output = w.output
  size : w.heap.size ≤ w'.heap.size
  block : ∀ k, k < w.heap.size → ¬ X k → w'.heap[k]? = w.heap[k]?

theorem Kept.refl (X : Nat → Prop) (w : World) : Kept X w w := ⟨rfl, rfl, rfl, Nat.le_refl _, fun _ _ _ => rfl⟩
theorem Kept.trans {X : Nat → Prop} {a b c : World} (h : Kept X a b) (k : Kept X b c) : Kept X a c :=
  ⟨k.os.trans h.os, k.tape.trans h.tape, k.output.trans h.output, Nat.le_trans h.size k.size, fun i hi hx => (k.block i (Nat.lt_of_lt_of_le hi h.size) hx).trans (h.block i hi hx)⟩
theorem Kept.below {w w' : World} (h : Kept (fun _ => False) w w') : RowKit.Below w.heap.size w w' := ⟨h.os, h.tape, h.output, h.size, fun k hk => h.block k hk (fun x => x)⟩
theorem Kept.of_below {X : Nat → Prop} {w w' : World} (h : RowKit.Below w.heap.size w w') : Kept X w w' := ⟨h.os, h.tape, h.output, h.size, fun k hk _ => h.block k hk⟩

/-- Blocks that nothing writes any more. -/
structure Zs (Y : Nat → Prop) (β : Beta) (σ : St) (w : World) (g : Nat) : Prop where
  lt : g < w.heap.size ∧ Y g
  top : ∀ l c len, isOwn (look σ l) = true → β l ≠ some (some g, c, len)
  inn : ∀ l, isDeep (look σ l) = true → g ∉ β.inn l

def RowOk (w : World) (Z : Nat → Prop) (e : TypeId) (t : Ty) (xs : List (T t)) (b : Option Nat × Nat × Nat) : Prop :=
  b.2.2 = xs.length ∧ match b.1 with
  | none => xs = []
  | some g => ∃ cur F, w.heap[g]? = some (.cells cur e (0, 0)) ∧ xs.length ≤ b.2.1 ∧ b.2.1 ≤ maxLen ∧ cur.size = b.2.1 * sz t ∧
      rowR (Rd w t) xs (cur.toList.take (xs.length * sz t)) F ∧ ∀ f ∈ F, Z f

def MemOk (β : Beta) (w : World) (Z : Nat → Prop) (e : TypeId) (s : Nat) (cs : List AVal) (b : Option Nat × Nat × Nat) : Prop :=
  ∃ g, ∃ vs : List Value, b.1 = some g ∧ w.heap[g]? = some (.cells vs.toArray e (0, 0)) ∧ VRs β w Z cs vs ∧ vs.length = b.2.1 * s ∧ b.2.2 = b.2.1 ∧ b.2.1 ≤ maxLen

def CellOk (ti : TI) (β : Beta) (w : World) (Z : Nat → Prop) (l : Loc) : Cell → Prop
  | .row own e t xs => ∃ b, β l = some b ∧ RowOk w Z e t xs b ∧ (own = false → ∀ g, b.1 = some g → Z g)
  | .mem own e cs => ∃ b, β l = some b ∧ MemOk β w Z e (sz (ti.at e).ty) cs b ∧ (own = false → ∀ g, b.1 = some g → Z g)
  | .deep e t k xs op => ∃ b, β l = some b ∧ DeepOk β w Z e t k xs op b (β.inn l)
  | _ => True

def pr2 (a b : Nat) : Nat := 2 ^ a * (2 * b + 1)
theorem pr2_inj : ∀ {a b c d : Nat}, pr2 a b = pr2 c d → a = c ∧ b = d
  | 0, b, 0, d, h => by unfold pr2 at h; simp at h; exact ⟨rfl, by omega⟩
  | 0, b, c + 1, d, h => by unfold pr2 at h; rw [Nat.pow_succ, Nat.mul_comm (2 ^ c) 2, Nat.mul_assoc, Nat.pow_zero] at h; omega
  | a + 1, b, 0, d, h => by unfold pr2 at h; rw [Nat.pow_succ, Nat.mul_comm (2 ^ a) 2, Nat.mul_assoc, Nat.pow_zero] at h; omega
  | a + 1, b, c + 1, d, h => by
    have h2 : pr2 a b = pr2 c d := by
      unfold pr2 at h ⊢
      rw [Nat.pow_succ, Nat.pow_succ, Nat.mul_comm (2 ^ a) 2, Nat.mul_comm (2 ^ c) 2, Nat.mul_assoc, Nat.mul_assoc] at h
      omega
    obtain ⟨e1, e2⟩ := pr2_inj h2
    exact ⟨by rw [e1], e2⟩
/-- Where a lent place lies, as a number. -/
def pcode (l g c n : Nat) : Nat := pr2 l (pr2 g (pr2 c n))
theorem pcode_inj {l g c n l' g' c' n' : Nat} (h : pcode l g c n = pcode l' g' c' n') : l = l' ∧ g = g' ∧ c = c' ∧ n = n' := by
  obtain ⟨e1, h⟩ := pr2_inj h
  obtain ⟨e2, h⟩ := pr2_inj h
  obtain ⟨e3, e4⟩ := pr2_inj h
  exact ⟨e1, e2, e3, e4⟩

def bcode (l : Nat) (b : Option Nat × Nat × Nat) : Nat := pcode l (match b.1 with | none => 0 | some g => g + 1) b.2.1 b.2.2
theorem bcode_inj {l l' : Nat} {b b' : Option Nat × Nat × Nat} (h : bcode l b = bcode l' b') : l = l' ∧ b = b' := by
  obtain ⟨x, y, z⟩ := b
  obtain ⟨x', y', z'⟩ := b'
  obtain ⟨e1, e2, e3, e4⟩ := pcode_inj h
  refine ⟨e1, ?_⟩
  cases x <;> cases x' <;> simp at e2 e3 e4 <;> simp [e2, e3, e4]

structure Rel (ti : TI) (N : Nat) (X Y : Nat → Prop) (w0 : World) (β : Beta) (σ : St) (a : Act) (w : World) : Prop where
  kept : Kept X w0 w
  yn : ∀ g, w0.heap.size ≤ g → Y g
  yx : ∀ g, X g → Y g
  size : a.tmps.size = N
  dfr : a.defers = []
  tmp : ∀ t v, look σ (tmpL t) = .val v → VR β w (Zs Y β σ w) v (a.tmps.getD t undef)
  obj : ∀ l, CellOk ti β w (Zs Y β σ w) l (look σ l)
  new : ∀ l g c len, isOwn (look σ l) = true → β l = some (some g, c, len) → w0.heap.size ≤ g ∨ X g
  apart : ∀ l l' g c len c' len', isOwn (look σ l) = true → isOwn (look σ l') = true → β l = some (some g, c, len) → β l' = some (some g, c', len') → l = l'
  pin : ∀ l b, l < 33 → X (w0.heap.size + bcode l b) → β l = some b
  dnew : ∀ l g, isDeep (look σ l) = true → g ∈ β.inn l → w0.heap.size ≤ g ∨ X g
  dap : ∀ l l' g, isDeep (look σ l) = true → isDeep (look σ l') = true → g ∈ β.inn l → g ∈ β.inn l' → l = l'
  dtop : ∀ l l' g c n, isOwn (look σ l) = true → β l = some (some g, c, n) → isDeep (look σ l') = true → g ∈ β.inn l' → False

theorem Rel.dlt {ti : TI} {N : Nat} {X Y : Nat → Prop} {w0 w : World} {β : Beta} {σ : St} {a : Act} (R : Rel ti N X Y w0 β σ a w) {l : Loc} (hd : isDeep (look σ l) = true) {g : Nat} (hg : g ∈ β.inn l) : g < w.heap.size := by
  have h := R.obj l
  cases hc : look σ l with
  | deep e t k xs op => rw [hc] at h; obtain ⟨b, _, _, h2, _⟩ := h; exact h2 g hg
  | _ => rw [hc] at hd; cases hd

section
variable {ti : TI} {N : Nat} {X Y : Nat → Prop} {w0 w w' : World} {β β' : Beta} {σ σ' : St} {a a' : Act}

theorem RowOk.mono {Z Z' : Nat → Prop} {e : TypeId} {t : Ty} {xs : List (T t)} {b} (hZ : ∀ g, Z g → Z' g ∧ w'.heap[g]? = w.heap[g]?) (hb : ∀ g, b.1 = some g → w'.heap[g]? = w.heap[g]?) (h : RowOk w Z e t xs b) : RowOk w' Z' e t xs b := by
  obtain ⟨h1, h2⟩ := h
  refine ⟨h1, ?_⟩
  cases hb1 : b.1 with
  | none => rw [hb1] at h2; exact h2
  | some g =>
    rw [hb1] at h2
    obtain ⟨cur, F, h3, h4, h5, h6, h7, h8⟩ := h2
    exact ⟨cur, F, by rw [hb g hb1]; exact h3, h4, h5, h6, rowR_imp (fun x cs F' hF hr => Rd_move (fun g hg => (hZ g (h8 g (hF g hg))).2) hr) h7, fun f hf => (hZ f (h8 f hf)).1⟩

theorem MemOk.mono {Z Z' : Nat → Prop} {e : TypeId} {s : Nat} {cs : List AVal} {b} (hβ : ∀ l b, β l = some b → β' l = some b) (hZ : ∀ g, Z g → Z' g ∧ w'.heap[g]? = w.heap[g]?) (hb : ∀ g, b.1 = some g → w'.heap[g]? = w.heap[g]?) (h : MemOk β w Z e s cs b) : MemOk β' w' Z' e s cs b := by
  obtain ⟨g, vs, h1, h2, h3, h4⟩ := h
  exact ⟨g, vs, h1, by rw [hb g h1]; exact h2, VRs_mono hβ hZ h3, h4⟩

theorem CellOk.mono {Z Z' : Nat → Prop} {l : Loc} {c : Cell} (hβ : ∀ l b, β l = some b → β' l = some b) (hle : w.heap.size ≤ w'.heap.size) (hZ : ∀ g, Z g → Z' g ∧ w'.heap[g]? = w.heap[g]?)
    (hd : isDeep c = true → β'.inn l = β.inn l ∧ ∀ g ∈ β.inn l, w'.heap[g]? = w.heap[g]?)
    (hb : ∀ g k len, isOwn c = true → β l = some (some g, k, len) → w'.heap[g]? = w.heap[g]?) (h : CellOk ti β w Z l c) : CellOk ti β' w' Z' l c := by
  have key : ∀ (own : Bool) (b : Option Nat × Nat × Nat), β l = some b → (own = true → isOwn c = true) → (own = false → ∀ g, b.1 = some g → Z g) → ∀ g, b.1 = some g → w'.heap[g]? = w.heap[g]? := by
    intro own b hl ho hz g hg
    cases own with
    | true => exact hb g b.2.1 b.2.2 (ho rfl) (by rw [hl, ← hg])
    | false => exact (hZ g (hz rfl g hg)).2
  cases c with
  | row own e t xs =>
    obtain ⟨b, h1, h2, h3⟩ := h
    exact ⟨b, hβ _ _ h1, h2.mono hZ (key own b h1 (fun h => by rw [h]; rfl) h3), fun ho g hg => (hZ g (h3 ho g hg)).1⟩
  | mem own e cs =>
    obtain ⟨b, h1, h2, h3⟩ := h
    exact ⟨b, hβ _ _ h1, h2.mono hβ hZ (key own b h1 (fun h => by rw [h]; rfl) h3), fun ho g hg => (hZ g (h3 ho g hg)).1⟩
  | deep e t k xs op =>
    obtain ⟨b, h1, h2⟩ := h
    obtain ⟨e1, e2⟩ := hd rfl
    refine ⟨b, hβ _ _ h1, ?_⟩
    rw [e1]
    exact h2.mono hβ hle hZ e2 (fun g hg => hb g b.2.1 b.2.2 rfl (by rw [h1, ← hg]))
  | dead => trivial
  | val v => trivial

/-- The general step: what is deep stays as it is. -/
theorem Rel.step (R : Rel ti N X Y w0 β σ a w) (hβ : ∀ l b, β l = some b → β' l = some b) (hi : β'.inn = β.inn) (hk : Kept X w0 w') (hle : w.heap.size ≤ w'.heap.size)
    (hZ : ∀ g, Zs Y β σ w g → Zs Y β' σ' w' g ∧ w'.heap[g]? = w.heap[g]?)
    (hdp : ∀ l, isDeep (look σ' l) = true → look σ' l = look σ l ∧ ∀ g ∈ β.inn l, w'.heap[g]? = w.heap[g]?)
    (htop : ∀ l g c n, isOwn (look σ' l) = true → β' l = some (some g, c, n) → (∃ l0 c0 n0, isOwn (look σ l0) = true ∧ β l0 = some (some g, c0, n0)) ∨ w.heap.size ≤ g)
    (hs : a'.tmps.size = N) (hd : a'.defers = [])
    (htmp : ∀ t v, look σ' (tmpL t) = .val v → (look σ (tmpL t) = .val v ∧ a'.tmps.getD t undef = a.tmps.getD t undef) ∨ VR β' w' (Zs Y β' σ' w') v (a'.tmps.getD t undef))
    (hobj : ∀ l, (look σ' l = look σ l ∧ ∀ g c len, isOwn (look σ l) = true → β l = some (some g, c, len) → w'.heap[g]? = w.heap[g]?) ∨ CellOk ti β' w' (Zs Y β' σ' w') l (look σ' l))
    (hap : ∀ l l' g c len c' len', isOwn (look σ' l) = true → isOwn (look σ' l') = true → β' l = some (some g, c, len) → β' l' = some (some g, c', len') → l = l') :
    Rel ti N X Y w0 β' σ' a' w' where
  kept := hk
  yn := R.yn
  yx := R.yx
  size := hs
  dfr := hd
  tmp := fun t v h => by
    rcases htmp t v h with ⟨h1, h2⟩ | h1
    · rw [h2]; exact VR_mono hβ hZ (R.tmp t v h1)
    · exact h1
  obj := fun l => by
    rcases hobj l with ⟨h1, h2⟩ | h1
    · rw [h1]
      exact (R.obj l).mono hβ hle hZ (fun h => ⟨by rw [hi], (hdp l (by rw [h1]; exact h)).2⟩) h2
    · exact h1
  new := fun l g c len h hb => by
    rcases htop l g c len h hb with ⟨l0, c0, n0, h1, h2⟩ | h1
    · exact R.new l0 g c0 n0 h1 h2
    · exact .inl (Nat.le_trans R.kept.size h1)
  apart := hap
  pin := fun l b hl hx => hβ _ _ (R.pin l b hl hx)
  dnew := fun l g h hg => by
    rw [hi] at hg
    exact R.dnew l g (by rw [← (hdp l h).1]; exact h) hg
  dap := fun l l' g h h' hg hg' => by
    rw [hi] at hg hg'
    exact R.dap l l' g (by rw [← (hdp l h).1]; exact h) (by rw [← (hdp l' h').1]; exact h') hg hg'
  dtop := fun l l' g c n h hb h' hg => by
    rw [hi] at hg
    have h'' : isDeep (look σ l') = true := by rw [← (hdp l' h').1]; exact h'
    rcases htop l g c n h hb with ⟨l0, c0, n0, h1, h2⟩ | h1
    · exact R.dtop l0 l' g c0 n0 h1 h2 h'' hg
    · have := R.dlt h'' hg; omega

/-- What stays safe over a step in which no more is owned. -/
theorem Rel.stepZ (R : Rel ti N X Y w0 β σ a w) (hi : β'.inn = β.inn) (hle : w.heap.size ≤ w'.heap.size)
    (hdp : ∀ l, isDeep (look σ' l) = true → look σ' l = look σ l)
    (htop : ∀ l g c n, isOwn (look σ' l) = true → β' l = some (some g, c, n) → (∃ l0 c0 n0, isOwn (look σ l0) = true ∧ β l0 = some (some g, c0, n0)) ∨ w.heap.size ≤ g) : ∀ g, Zs Y β σ w g → Zs Y β' σ' w' g :=
  fun g hg => ⟨⟨Nat.lt_of_lt_of_le hg.1.1 hle, hg.1.2⟩, fun l c n h hb => by
    rcases htop l g c n h hb with ⟨l0, c0, n0, h1, h2⟩ | h1
    · exact hg.2 l0 c0 n0 h1 h2
    · have := hg.1.1; omega, fun l h hm => by
    rw [hi] at hm
    exact hg.3 l (by rw [← hdp l h]; exact h) hm⟩

theorem put_getD {d t : Nat} {u : Value} (hs : a.tmps.size = N) (hd : d < N) : (a.put (some d) u).tmps.getD t undef = if d = t then u else a.tmps.getD t undef := by
  show (a.tmps.setIfInBounds d u).getD t undef = _
  rw [Array.getD_eq_getD_getElem?, Array.getD_eq_getD_getElem?, Array.getElem?_setIfInBounds]
  by_cases h : d = t
  · subst h
    rw [if_pos rfl, if_pos rfl, if_pos (by omega)]
    rfl
  · rw [if_neg h, if_neg h]

theorem put_size (d : Option Nat) (u : Value) : (a.put d u).tmps.size = a.tmps.size := by
  cases d with
  | none => rfl
  | some d => exact Array.size_setIfInBounds

theorem put_defers (d : Option Nat) (u : Value) : (a.put d u).defers = a.defers := by cases d <;> rfl

theorem own_block (R : Rel ti N X Y w0 β σ a w) {l : Loc} (ho : isOwn (look σ l) = true) {g c len} (hb : β l = some (some g, c, len)) : g < w.heap.size := by
  have h1 := R.obj l
  cases hcell : look σ l with
  | row own e t xs =>
    rw [hcell] at h1
    obtain ⟨b, hb', ⟨_, hr⟩, _⟩ := h1
    rw [hb] at hb'
    cases hb'
    obtain ⟨cur, F, hh, _⟩ := hr
    exact (Array.getElem?_eq_some_iff.1 hh).1
  | mem own e cs =>
    rw [hcell] at h1
    obtain ⟨b, hb', ⟨g2, vs, e1, hh, _⟩, _⟩ := h1
    rw [hb] at hb'
    cases hb'
    cases e1
    exact (Array.getElem?_eq_some_iff.1 hh).1
  | deep e t k xs op =>
    rw [hcell] at h1
    obtain ⟨b, hb', _, _, hr⟩ := h1
    rw [hb] at hb'
    cases hb'
    obtain ⟨_, _, cur, hh, _⟩ := hr
    exact (Array.getElem?_eq_some_iff.1 hh).1
  | dead => rw [hcell] at ho; cases ho
  | val v => rw [hcell] at ho; cases ho

/-- What a place owns: its block, and the blocks of the rows in it. -/
def Owns (β : Beta) (σ : St) (l : Loc) (g : Nat) : Prop := (isOwn (look σ l) = true ∧ ∃ c n, β l = some (some g, c, n)) ∨ (isDeep (look σ l) = true ∧ g ∈ β.inn l)
theorem Zs.no {Y : Nat → Prop} {β : Beta} {σ : St} {w : World} {g : Nat} (h : Zs Y β σ w g) (l : Loc) : ¬ Owns β σ l g := by
  rintro (⟨h1, c, n, h2⟩ | ⟨h1, h2⟩)
  · exact h.2 l c n h1 h2
  · exact h.3 l h1 h2
theorem Zs.of {Y : Nat → Prop} {β : Beta} {σ : St} {w : World} {g : Nat} (h1 : g < w.heap.size) (h2 : Y g) (h : ∀ l, ¬ Owns β σ l g) : Zs Y β σ w g :=
  ⟨⟨h1, h2⟩, fun l c n ho hb => h l (.inl ⟨ho, c, n, hb⟩), fun l hd hm => h l (.inr ⟨hd, hm⟩)⟩
theorem Owns.own {β : Beta} {σ : St} {l : Loc} {g : Nat} (h : Owns β σ l g) : isOwn (look σ l) = true := by
  rcases h with ⟨h, _⟩ | ⟨h, _⟩
  · exact h
  · exact isDeep_own h
theorem Rel.owns_lt (R : Rel ti N X Y w0 β σ a w) {l : Loc} {g : Nat} (h : Owns β σ l g) : g < w.heap.size := by
  rcases h with ⟨h1, c, n, h2⟩ | ⟨h1, h2⟩
  · exact own_block R h1 h2
  · exact R.dlt h1 h2
theorem Rel.owns_new (R : Rel ti N X Y w0 β σ a w) {l : Loc} {g : Nat} (h : Owns β σ l g) : w0.heap.size ≤ g ∨ X g := by
  rcases h with ⟨h1, c, n, h2⟩ | ⟨h1, h2⟩
  · exact R.new l g c n h1 h2
  · exact R.dnew l g h1 h2
theorem Rel.owns_Y (R : Rel ti N X Y w0 β σ a w) {l : Loc} {g : Nat} (h : Owns β σ l g) : Y g := (R.owns_new h).elim (R.yn g) (R.yx g)
theorem Rel.owns_apart (R : Rel ti N X Y w0 β σ a w) {l l' : Loc} {g : Nat} (h : Owns β σ l g) (h' : Owns β σ l' g) : l = l' := by
  rcases h with ⟨h1, c, n, h2⟩ | ⟨h1, h2⟩ <;> rcases h' with ⟨h1', c', n', h2'⟩ | ⟨h1', h2'⟩
  · exact R.apart l l' g c n c' n' h1 h1' h2 h2'
  · exact (R.dtop l l' g c n h1 h2 h1' h2').elim
  · exact (R.dtop l' l g c' n' h1' h2' h1 h2).elim
  · exact R.dap l l' g h1 h1' h2 h2'

theorem Rel.stepGZ (R : Rel ti N X Y w0 β σ a w) (hle : w.heap.size ≤ w'.heap.size) (hown : ∀ l g, Owns β' σ' l g → (∃ l0, Owns β σ l0 g) ∨ w.heap.size ≤ g) : ∀ g, Zs Y β σ w g → Zs Y β' σ' w' g :=
  fun g hg => .of (Nat.lt_of_lt_of_le hg.1.1 hle) hg.1.2 fun l ho => by
    rcases hown l g ho with ⟨l0, h⟩ | h
    · exact hg.no l0 h
    · have := hg.1.1; omega

/-- The general step, in which what is deep may change too. -/
theorem Rel.stepG (R : Rel ti N X Y w0 β σ a w) (hβ : ∀ l b, β l = some b → β' l = some b) (hk : Kept X w0 w') (hle : w.heap.size ≤ w'.heap.size)
    (hsame : ∀ g, Zs Y β σ w g → w'.heap[g]? = w.heap[g]?)
    (hown : ∀ l g, Owns β' σ' l g → (∃ l0, Owns β σ l0 g) ∨ w.heap.size ≤ g)
    (hap : ∀ l l' g, Owns β' σ' l g → Owns β' σ' l' g → l = l')
    (hs : a'.tmps.size = N) (hd : a'.defers = [])
    (htmp : ∀ t v, look σ' (tmpL t) = .val v → (look σ (tmpL t) = .val v ∧ a'.tmps.getD t undef = a.tmps.getD t undef) ∨ VR β' w' (Zs Y β' σ' w') v (a'.tmps.getD t undef))
    (hobj : ∀ l, (look σ' l = look σ l ∧ (isDeep (look σ l) = true → β'.inn l = β.inn l) ∧ ∀ g, Owns β σ l g → w'.heap[g]? = w.heap[g]?) ∨ CellOk ti β' w' (Zs Y β' σ' w') l (look σ' l)) :
    Rel ti N X Y w0 β' σ' a' w' := by
  have hZ : ∀ g, Zs Y β σ w g → Zs Y β' σ' w' g ∧ w'.heap[g]? = w.heap[g]? := fun g hg => ⟨R.stepGZ hle hown g hg, hsame g hg⟩
  have obj : ∀ l, CellOk ti β' w' (Zs Y β' σ' w') l (look σ' l) := fun l => by
    rcases hobj l with ⟨h1, h2, h3⟩ | h1
    · rw [h1]
      exact (R.obj l).mono hβ hle hZ (fun h => ⟨h2 h, fun g hg => h3 g (.inr ⟨h, hg⟩)⟩) (fun g c n ho hb => h3 g (.inl ⟨ho, c, n, hb⟩))
    · exact h1
  have onew : ∀ l g, Owns β' σ' l g → w0.heap.size ≤ g ∨ X g := fun l g h => by
    rcases hown l g h with ⟨l0, h1⟩ | h1
    · exact R.owns_new h1
    · exact .inl (Nat.le_trans R.kept.size h1)
  exact {
    kept := hk
    yn := R.yn
    yx := R.yx
    size := hs
    dfr := hd
    tmp := fun t v h => by
      rcases htmp t v h with ⟨h1, h2⟩ | h1
      · rw [h2]; exact VR_mono hβ hZ (R.tmp t v h1)
      · exact h1
    obj := obj
    new := fun l g c n h hb => onew l g (.inl ⟨h, c, n, hb⟩)
    apart := fun l l' g c n c' n' h h' hb hb' => hap l l' g (.inl ⟨h, c, n, hb⟩) (.inl ⟨h', c', n', hb'⟩)
    pin := fun l b hl hx => hβ _ _ (R.pin l b hl hx)
    dnew := fun l g h hg => onew l g (.inr ⟨h, hg⟩)
    dap := fun l l' g h h' hg hg' => hap l l' g (.inr ⟨h, hg⟩) (.inr ⟨h', hg'⟩)
    dtop := fun l l' g c n h hb h' hg => by
      have e := hap l l' g (.inl ⟨h, c, n, hb⟩) (.inr ⟨h', hg⟩)
      subst e
      have ho := obj l
      cases hc : look σ' l with
      | deep e t k xs op =>
        rw [hc] at ho
        obtain ⟨b, h1, _, _, h2⟩ := ho
        rw [hb] at h1
        cases h1
        exact h2.1 hg
      | _ => rw [hc] at h'; cases h' }

/-- A temporary is set; memory stays. -/
theorem Rel.set (R : Rel ti N X Y w0 β σ a w) {d : Option Nat} (hd : ∀ t, d = some t → t < N) {v : AVal} {u : Value} (hv : VR β w (Zs Y β σ w) v u) : Rel ti N X Y w0 β (put σ (setTmp d v)) (a.put d u) w := by
  cases d with
  | none => exact R
  | some d =>
    have hd := hd d rfl
    have hl : ∀ l, look (put σ (setTmp (some d) v)) l = if tmpL d = l then .val v else look σ l := fun l => look_cons _ _ _ _
    have ho : ∀ l, isOwn (look (put σ (setTmp (some d) v)) l) = true → isOwn (look σ l) = true := fun l h => by
      rw [hl] at h
      split at h
      · cases h
      · exact h
    have hdp : ∀ l, isDeep (look (put σ (setTmp (some d) v)) l) = true → look (put σ (setTmp (some d) v)) l = look σ l := fun l h => by
      rw [hl] at h ⊢
      split at h
      · cases h
      · rename_i hne
        rw [if_neg hne]
    have htop : ∀ l g c n, isOwn (look (put σ (setTmp (some d) v)) l) = true → β l = some (some g, c, n) → (∃ l0 c0 n0, isOwn (look σ l0) = true ∧ β l0 = some (some g, c0, n0)) ∨ w.heap.size ≤ g := fun l g c n h hb => .inl ⟨l, c, n, ho l h, hb⟩
    have hZ : ∀ g, Zs Y β σ w g → Zs Y β (put σ (setTmp (some d) v)) w g ∧ w.heap[g]? = w.heap[g]? := fun g hg => ⟨R.stepZ rfl (Nat.le_refl _) hdp htop g hg, rfl⟩
    refine R.step (fun _ _ h => h) rfl R.kept (Nat.le_refl _) hZ (fun l h => ⟨hdp l h, fun _ _ => rfl⟩) htop (by rw [put_size]; exact R.size) (by rw [put_defers]; exact R.dfr) ?_ ?_ (fun l l' g c len c' len' h h' => R.apart l l' g c len c' len' (ho l h) (ho l' h'))
    · intro t x h
      rw [hl] at h
      by_cases ht : tmpL d = tmpL t
      · rw [if_pos ht] at h
        cases h
        obtain rfl := tmpL_inj ht
        right
        rw [put_getD R.size hd, if_pos rfl]
        exact VR_mono (fun _ _ h => h) hZ hv
      · rw [if_neg ht] at h
        left
        refine ⟨h, ?_⟩
        rw [put_getD R.size hd, if_neg (fun e => ht (by rw [e]))]
    · intro l
      rw [hl]
      by_cases ht : tmpL d = l
      · rw [if_pos ht]; exact .inr trivial
      · rw [if_neg ht]; exact .inl ⟨rfl, fun _ _ _ _ _ => rfl⟩
end
end Go.Proofs.YtchdegcfohegfaaE
