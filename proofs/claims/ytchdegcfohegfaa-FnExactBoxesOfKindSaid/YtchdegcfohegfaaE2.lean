/- The engine, part 2: what a content says of memory; how it stays. Plain lemmas. -/
import Derived.Test.YtchdegcfohegfaaE1
import Derived.Below
import Derived.Laws.OwnMore
namespace Go.Proofs.YtchdegcfohegfaaE
set_option linter.unusedVariables false
set_option linter.unusedSimpArgs false

def rowR {α : Type} (R : α → List Value → List Nat → Prop) : List α → List Value → List Nat → Prop
  | [], cs, F => cs = [] ∧ F = []
  | x :: xs, cs, F => ∃ c1 c2 F1 F2, cs = c1 ++ c2 ∧ F = F1 ++ F2 ∧ R x c1 F1 ∧ rowR R xs c2 F2

def At (w : World) (a : Addr) (cs : List Value) : Prop := ∀ j u, cs[j]? = some u → w.cell? (a.add j) = some u

def slR {α : Type} (R : α → List Value → List Nat → Prop) (w : World) (xs : List α) (A : Option Addr) (F : List Nat) : Prop :=
  (xs = [] ∧ F = []) ∨ (xs ≠ [] ∧ ∃ a cs F', A = some a ∧ F = a.block :: F' ∧ At w a cs ∧ rowR R xs cs F')

def Rd (w : World) : (t : Ty) → T t → List Value → List Nat → Prop
  | .int k, n, cs, F => cs = [.int k n] ∧ F = []
  | .bool, b, cs, F => cs = [.bool b] ∧ F = []
  | .str, s, cs, F => cs = [.string s] ∧ F = []
  | .slice _ t, xs, cs, F => ∃ A c, cs = [.slice A xs.length c] ∧ xs.length ≤ c ∧ slR (Rd w t) w xs A F
  | .vslice _ t, x, cs, F => ∃ A c, cs = [.slice A x.2 c] ∧ x.2 ≤ x.1.length ∧ x.1.length ≤ c ∧ slR (Rd w t) w x.1 A F
  | .pair a b, x, cs, F => ∃ c1 c2 F1 F2, cs = c1 ++ c2 ∧ F = F1 ++ F2 ∧ Rd w a x.1 c1 F1 ∧ Rd w b x.2 c2 F2

theorem sz_pos : ∀ t : Ty, 0 < sz t := by
  intro t
  induction t with
  | pair a b ha hb => simp only [sz]; omega
  | _ => exact Nat.one_pos

section rows
variable {α : Type} {R R' : α → List Value → List Nat → Prop} {n : Nat}
theorem rowR_len (hl : ∀ x cs F, R x cs F → cs.length = n) : ∀ {xs : List α} {cs F}, rowR R xs cs F → cs.length = xs.length * n
  | [], _, _, h => by rw [h.1]; simp
  | x :: xs, _, _, ⟨c1, c2, F1, F2, rfl, _, h1, h2⟩ => by
    rw [List.length_append, hl _ _ _ h1, rowR_len hl h2, List.length_cons, Nat.add_mul, Nat.one_mul, Nat.add_comm]
theorem rowR_imp : ∀ {xs : List α} {cs F}, (∀ x cs F', (∀ g ∈ F', g ∈ F) → R x cs F' → R' x cs F') → rowR R xs cs F → rowR R' xs cs F
  | [], _, _, _, h => h
  | x :: xs, _, F, hi, ⟨c1, c2, F1, F2, h0, hF, h1, h2⟩ =>
    ⟨c1, c2, F1, F2, h0, hF, hi _ _ _ (fun g hg => hF ▸ List.mem_append_left _ hg) h1, rowR_imp (fun y cs F' hF' => hi y cs F' (fun g hg => hF ▸ List.mem_append_right _ (hF' g hg))) h2⟩
theorem rowR_all {p : Value → Prop} (hp : ∀ x cs F, R x cs F → ∀ u ∈ cs, p u) : ∀ {xs : List α} {cs F}, rowR R xs cs F → ∀ u ∈ cs, p u
  | [], _, _, h => by rw [h.1]; simp
  | x :: xs, _, _, ⟨c1, c2, F1, F2, rfl, _, h1, h2⟩ => fun u hu => by
    rcases List.mem_append.1 hu with hu | hu
    · exact hp _ _ _ h1 u hu
    · exact rowR_all hp h2 u hu
theorem rowR_blocks {p : Nat → Prop} (hp : ∀ x cs F, R x cs F → ∀ u ∈ F, p u) : ∀ {xs : List α} {cs F}, rowR R xs cs F → ∀ u ∈ F, p u
  | [], _, _, h => by rw [h.2]; simp
  | x :: xs, _, _, ⟨c1, c2, F1, F2, _, rfl, h1, h2⟩ => fun u hu => by
    rcases List.mem_append.1 hu with hu | hu
    · exact hp _ _ _ h1 u hu
    · exact rowR_blocks hp h2 u hu
theorem rowR_append : ∀ {xs ys : List α} {cs ds F G}, rowR R xs cs F → rowR R ys ds G → rowR R (xs ++ ys) (cs ++ ds) (F ++ G)
  | [], _, _, _, _, _, h, h' => by rw [h.1, h.2]; exact h'
  | x :: xs, _, _, _, _, _, ⟨c1, c2, F1, F2, rfl, rfl, h1, h2⟩, h' =>
    ⟨c1, _, F1, _, List.append_assoc .., List.append_assoc .., h1, rowR_append h2 h'⟩
theorem rowR_split : ∀ {xs ys : List α} {cs F}, rowR R (xs ++ ys) cs F → ∃ c1 c2 F1 F2, cs = c1 ++ c2 ∧ F = F1 ++ F2 ∧ rowR R xs c1 F1 ∧ rowR R ys c2 F2
  | [], _, cs, F, h => ⟨[], cs, [], F, rfl, rfl, ⟨rfl, rfl⟩, h⟩
  | x :: xs, _, _, _, ⟨c1, c2, F1, F2, rfl, rfl, h1, h2⟩ => by
    obtain ⟨d1, d2, G1, G2, rfl, rfl, h3, h4⟩ := rowR_split h2
    exact ⟨c1 ++ d1, d2, F1 ++ G1, G2, (List.append_assoc ..).symm, (List.append_assoc ..).symm, ⟨c1, d1, F1, G1, rfl, rfl, h1, h3⟩, h4⟩
theorem rowR_take (hl : ∀ x cs F, R x cs F → cs.length = n) {xs : List α} {cs F} (m : Nat) (h : rowR R xs cs F) : ∃ F', (∀ g ∈ F', g ∈ F) ∧ rowR R (xs.take m) (cs.take (m * n)) F' := by
  have h' : rowR R (xs.take m ++ xs.drop m) cs F := by rw [List.take_append_drop]; exact h
  obtain ⟨c1, c2, F1, F2, rfl, rfl, h1, h2⟩ := rowR_split h'
  have e := rowR_len hl h1
  refine ⟨F1, fun g hg => List.mem_append_left _ hg, ?_⟩
  by_cases hm : m ≤ xs.length
  · rw [List.length_take, Nat.min_eq_left hm] at e
    have e2 : (c1 ++ c2).take (m * n) = c1 := by rw [← e]; exact List.take_left
    rw [e2]
    exact h1
  · have h0 : xs.drop m = [] := List.drop_eq_nil_of_le (by omega)
    rw [h0] at h2
    have e2 : (c1 ++ c2).take (m * n) = c1 := by
      rw [h2.1, List.append_nil]
      refine List.take_of_length_le ?_
      rw [e, List.length_take]
      exact Nat.mul_le_mul_right _ (Nat.min_le_left _ _)
    rw [e2]
    exact h1
theorem rowR_drop (hl : ∀ x cs F, R x cs F → cs.length = n) {xs : List α} {cs F} (m : Nat) (h : rowR R xs cs F) : ∃ F', (∀ g ∈ F', g ∈ F) ∧ rowR R (xs.drop m) (cs.drop (m * n)) F' := by
  rw [← List.take_append_drop m xs] at h
  obtain ⟨c1, c2, F1, F2, rfl, rfl, h1, h2⟩ := rowR_split h
  have e := rowR_len hl h1
  refine ⟨F2, fun g hg => List.mem_append_right _ hg, ?_⟩
  by_cases hm : m ≤ xs.length
  · rw [List.length_take, Nat.min_eq_left hm] at e
    rw [← e, List.drop_left]
    exact h2
  · have h0 : xs.drop m = [] := List.drop_eq_nil_of_le (by omega)
    rw [h0] at h2 ⊢
    obtain ⟨rfl, rfl⟩ := h2
    refine ⟨?_, rfl⟩
    rw [List.append_nil]
    exact List.drop_eq_nil_of_le (by rw [e, List.length_take]; exact Nat.mul_le_mul_right _ (Nat.min_le_left _ _))
theorem rowR_get (hl : ∀ x cs F, R x cs F → cs.length = n) {xs : List α} {cs F} {i : Nat} {x : α} (h : rowR R xs cs F) (hx : xs[i]? = some x) :
    ∃ F', (∀ g ∈ F', g ∈ F) ∧ R x ((cs.drop (i * n)).take n) F' := by
  obtain ⟨F1, hF1, h1⟩ := rowR_drop hl i h
  have hlt : i < xs.length := (List.getElem?_eq_some_iff.1 hx).1
  rw [List.drop_eq_getElem_cons hlt, (List.getElem?_eq_some_iff.1 hx).2] at h1
  obtain ⟨c1, c2, F2, F3, e1, rfl, h2, _⟩ := h1
  refine ⟨F2, fun g hg => hF1 g (List.mem_append_left _ hg), ?_⟩
  rw [e1, ← hl _ _ _ h2, List.take_left]
  exact h2
theorem rowR_set (hl : ∀ x cs F, R x cs F → cs.length = n) {xs : List α} {cs F} {i : Nat} {y : α} {ds G} (h : rowR R xs cs F) (hi : i < xs.length) (hy : R y ds G) :
    ∃ F', (∀ g ∈ F', g ∈ F ∨ g ∈ G) ∧ rowR R (xs.set i y) (cs.take (i * n) ++ ds ++ cs.drop (i * n + ds.length)) F' := by
  obtain ⟨F1, hF1, h1⟩ := rowR_take hl i h
  obtain ⟨F2, hF2, h2⟩ := rowR_drop hl (i + 1) h
  rw [List.set_eq_take_append_cons_drop, if_pos hi, hl _ _ _ hy]
  refine ⟨F1 ++ (G ++ F2), ?_, ?_⟩
  · intro g hg
    rcases List.mem_append.1 hg with hg | hg
    · exact .inl (hF1 g hg)
    · rcases List.mem_append.1 hg with hg | hg
      · exact .inr hg
      · exact .inl (hF2 g hg)
  · rw [List.append_assoc]
    refine rowR_append h1 ⟨ds, _, G, F2, ?_, rfl, hy, h2⟩
    rw [Nat.add_mul, Nat.one_mul]
theorem rowR_rep {x : α} {c : List Value} (hx : R x c []) : ∀ m, rowR R (List.replicate m x) (List.replicate m c).flatten []
  | 0 => ⟨rfl, rfl⟩
  | m + 1 => ⟨c, _, [], [], by rw [List.replicate_succ, List.flatten_cons], rfl, hx, rowR_rep hx m⟩
end rows

theorem Rd_len : ∀ {t : Ty} {w : World} {x : T t} {cs F}, Rd w t x cs F → cs.length = sz t := by
  intro t
  induction t with
  | pair a b ha hb =>
    rintro w x cs F ⟨c1, c2, F1, F2, rfl, rfl, h1, h2⟩
    rw [List.length_append, ha h1, hb h2]
    rfl
  | slice e t _ => rintro w x cs F ⟨A, c, rfl, _⟩; rfl
  | vslice e t _ => rintro w x cs F ⟨A, c, rfl, _⟩; rfl
  | int k => rintro w x cs F ⟨rfl, _⟩; rfl
  | bool => rintro w x cs F ⟨rfl, _⟩; rfl
  | str => rintro w x cs F ⟨rfl, _⟩; rfl

theorem Rd_one : ∀ {t : Ty} {w : World} {x : T t} {cs F}, Rd w t x cs F → ∀ u ∈ cs, u.oneCell' = true := by
  intro t
  induction t with
  | pair a b ha hb =>
    rintro w x cs F ⟨c1, c2, F1, F2, rfl, rfl, h1, h2⟩ u hu
    rcases List.mem_append.1 hu with hu | hu
    · exact ha h1 u hu
    · exact hb h2 u hu
  | slice e t _ => rintro w x cs F ⟨A, c, rfl, _⟩ u hu; rw [List.mem_singleton.1 hu]; rfl
  | vslice e t _ => rintro w x cs F ⟨A, c, rfl, _⟩ u hu; rw [List.mem_singleton.1 hu]; rfl
  | int k => rintro w x cs F ⟨rfl, _⟩ u hu; rw [List.mem_singleton.1 hu]; rfl
  | bool => rintro w x cs F ⟨rfl, _⟩ u hu; rw [List.mem_singleton.1 hu]; rfl
  | str => rintro w x cs F ⟨rfl, _⟩ u hu; rw [List.mem_singleton.1 hu]; rfl

theorem At_move {w w' : World} {a : Addr} {cs : List Value} (hm : w'.heap[a.block]? = w.heap[a.block]?) (h : At w a cs) : At w' a cs := fun j u hu => by
  have hb : (a.add j).block = a.block := by unfold Addr.add; split <;> rfl
  have h1 := h j u hu
  unfold World.cell? at h1 ⊢
  rw [hb] at h1 ⊢
  rw [hm]
  exact h1

theorem slR_imp {α : Type} {R R' : α → List Value → List Nat → Prop} {w w' : World} {xs : List α} {A F} (hm : ∀ g ∈ F, w'.heap[g]? = w.heap[g]?) (hi : ∀ x cs F', (∀ g ∈ F', g ∈ F) → R x cs F' → R' x cs F') (h : slR R w xs A F) : slR R' w' xs A F := by
  rcases h with h | ⟨hx, a, cs, F', rfl, rfl, h1, h2⟩
  · exact .inl h
  · exact .inr ⟨hx, a, cs, F', rfl, rfl, At_move (hm _ (List.mem_cons_self ..)) h1, rowR_imp (fun x cs G hG => hi x cs G (fun g hg => List.mem_cons_of_mem _ (hG g hg))) h2⟩

theorem Rd_move : ∀ {t : Ty} {w w' : World} {x : T t} {cs F}, (∀ g ∈ F, w'.heap[g]? = w.heap[g]?) → Rd w t x cs F → Rd w' t x cs F := by
  intro t
  induction t with
  | pair a b ha hb =>
    rintro w w' x cs F hm ⟨c1, c2, F1, F2, rfl, rfl, h1, h2⟩
    exact ⟨c1, c2, F1, F2, rfl, rfl, ha (fun g hg => hm g (List.mem_append_left _ hg)) h1, hb (fun g hg => hm g (List.mem_append_right _ hg)) h2⟩
  | slice e t ih =>
    rintro w w' x cs F hm ⟨A, c, rfl, hc, h⟩
    exact ⟨A, c, rfl, hc, slR_imp hm (fun y ds G hG hy => ih (fun g hg => hm g (hG g hg)) hy) h⟩
  | vslice e t ih =>
    rintro w w' x cs F hm ⟨A, c, rfl, hc, hc2, h⟩
    exact ⟨A, c, rfl, hc, hc2, slR_imp hm (fun y ds G hG hy => ih (fun g hg => hm g (hG g hg)) hy) h⟩
  | int k => exact fun _ h => h
  | bool => exact fun _ h => h
  | str => exact fun _ h => h

theorem At_lt {w : World} {a : Addr} {cs : List Value} (h : At w a cs) (hn : cs ≠ []) : a.block < w.heap.size := by
  cases cs with
  | nil => exact absurd rfl hn
  | cons u us =>
    have h1 := h 0 u rfl
    have := World.block_lt_of_cell? w _ h1
    simpa [Addr.add] using this

theorem row_ne {α : Type} {R : α → List Value → List Nat → Prop} {n : Nat} (hl : ∀ x cs F, R x cs F → cs.length = n) (hn : 0 < n) {xs : List α} {cs F} (h : rowR R xs cs F) (hx : xs ≠ []) : cs ≠ [] := by
  rintro rfl
  have h1 := rowR_len hl h
  have h2 := List.length_pos_iff.2 hx
  have h3 := Nat.mul_pos h2 hn
  simp at h1
  omega

theorem Rd_lt : ∀ {t : Ty} {w : World} {x : T t} {cs F}, Rd w t x cs F → ∀ g ∈ F, g < w.heap.size := by
  intro t
  induction t with
  | pair a b ha hb =>
    rintro w x cs F ⟨c1, c2, F1, F2, rfl, rfl, h1, h2⟩ g hg
    rcases List.mem_append.1 hg with hg | hg
    · exact ha h1 g hg
    · exact hb h2 g hg
  | slice e t ih =>
    rintro w x cs F ⟨A, c, rfl, hc, h⟩ g hg
    rcases h with ⟨_, rfl⟩ | ⟨hx, a, cs, F', rfl, rfl, h1, h2⟩
    · cases hg
    · rcases List.mem_cons.1 hg with rfl | hg
      · exact At_lt h1 (row_ne (fun _ _ _ => Rd_len) (sz_pos t) h2 hx)
      · exact rowR_blocks (p := fun g => g < w.heap.size) (fun _ _ _ hr => ih hr) h2 g hg
  | vslice e t ih =>
    rintro w x cs F ⟨A, c, rfl, hc, hc2, h⟩ g hg
    rcases h with ⟨_, rfl⟩ | ⟨hx, a, cs, F', rfl, rfl, h1, h2⟩
    · cases hg
    · rcases List.mem_cons.1 hg with rfl | hg
      · exact At_lt h1 (row_ne (fun _ _ _ => Rd_len) (sz_pos t) h2 hx)
      · exact rowR_blocks (p := fun g => g < w.heap.size) (fun _ _ _ hr => ih hr) h2 g hg
  | int k => rintro w x cs F ⟨_, rfl⟩ g hg; cases hg
  | bool => rintro w x cs F ⟨_, rfl⟩ g hg; cases hg
  | str => rintro w x cs F ⟨_, rfl⟩ g hg; cases hg

/-- The zero value's cells. -/
def zeroC : Ty → List Value
  | .int k => [.int k 0]
  | .bool => [.bool false]
  | .str => [.string ByteArray.empty]
  | .slice _ _ => [.slice none 0 0]
  | .vslice _ _ => [.slice none 0 0]
  | .pair a b => zeroC a ++ zeroC b

theorem Rd_zero (w : World) : ∀ t : Ty, Rd w t (dflt t) (zeroC t) [] := by
  intro t
  induction t with
  | pair a b ha hb => exact ⟨_, _, [], [], rfl, rfl, ha, hb⟩
  | slice e t _ => exact ⟨none, 0, rfl, Nat.le_refl _, .inl ⟨rfl, rfl⟩⟩
  | vslice e t _ => exact ⟨none, 0, rfl, Nat.le_refl _, Nat.le_refl _, .inl ⟨rfl, rfl⟩⟩
  | int k => exact ⟨rfl, rfl⟩
  | bool => exact ⟨rfl, rfl⟩
  | str => exact ⟨rfl, rfl⟩

theorem zeroC_len : ∀ t : Ty, (zeroC t).length = sz t := fun t => Rd_len (Rd_zero default t)

/-! ### values -/
/-- Of an object's place: its block (none: a nil slice), how many elements it has room for, how many it holds. -/
structure Beta where
  f : Loc → Option (Option Nat × Nat × Nat)
  inn : Loc → List Nat
instance : CoeFun Beta (fun _ => Loc → Option (Option Nat × Nat × Nat)) := ⟨Beta.f⟩
def Beta.nil : Beta := ⟨fun _ => none, fun _ => []⟩
theorem Beta.nil_at (l : Loc) : Beta.nil l = none := rfl

section values
variable (β : Beta) (w : World) (Z : Nat → Prop)

/-- A value of one cell. -/
def VR1 : AVal → Value → Prop
  | .int k n, v => v = .int k n
  | .bool b, v => v = .bool b
  | .str s, v => v = .string s
  | .slc e t xs, v => ∃ F, Rd w (.slice e t) xs [v] F ∧ ∀ g ∈ F, Z g
  | .vslc e t xs n, v => ∃ F, Rd w (.vslice e t) (xs, n) [v] F ∧ ∀ g ∈ F, Z g
  | .nilslc, v => v = .slice none 0 0
  | .ref l n, v => ∃ b c len, β l = some (b, c, len) ∧ match b with
    | none => v = .slice none 0 0 ∧ len = 0 ∧ n.getD 0 = 0
    | some g => v = .slice (some ⟨g, 0, none⟩) (n.getD len) c ∧ n.getD len ≤ len ∧ len ≤ c
  | .ptr l off, v => ∃ g c len, β l = some (some g, c, len) ∧ v = .pointer (some ⟨g, off, none⟩)
  | .eptr l i s off, v => ∃ g c len, β l = some (some g, c, len) ∧ v = .pointer (some ⟨g, i * s + off, none⟩)
  | .fptr t x, v => ∃ a cs F, v = .pointer (some a) ∧ At w a cs ∧ Rd w t x cs F ∧ Z a.block ∧ ∀ g ∈ F, Z g
  | .fn f, v => v = .func (.func f) #[] #[]
  | .undef, v => v = Go.undef
  | .agg _, _ => False
  | .tup _, _ => False

def VRs : List AVal → List Value → Prop
  | [], vs => vs = []
  | c :: cs, vs => ∃ u us, vs = u :: us ∧ VR1 β w Z c u ∧ u.oneCell' = true ∧ VRs cs us

/-- A value: of one cell, or a struct of such. -/
def VR2 : AVal → Value → Prop
  | .agg cs, v => ∃ us : List Value, v = .agg us.toArray ∧ VRs β w Z cs us
  | c, v => VR1 β w Z c v

def VRt : List AVal → List Value → Prop
  | [], vs => vs = []
  | c :: cs, vs => ∃ u us, vs = u :: us ∧ VR2 β w Z c u ∧ VRt cs us

def VR : AVal → Value → Prop
  | .tup cs, v => ∃ us : List Value, v = .tuple us.toArray ∧ VRt β w Z cs us
  | c, v => VR2 β w Z c v
end values

section mono
variable {β β' : Beta} {w w' : World} {Z Z' : Nat → Prop}
theorem VR1_mono (hβ : ∀ l b, β l = some b → β' l = some b) (hZ : ∀ g, Z g → Z' g ∧ w'.heap[g]? = w.heap[g]?) : ∀ {c : AVal} {v : Value}, VR1 β w Z c v → VR1 β' w' Z' c v := by
  intro c v h
  cases c with
  | slc e t xs =>
    obtain ⟨F, h1, h2⟩ := h
    exact ⟨F, Rd_move (fun g hg => (hZ g (h2 g hg)).2) h1, fun g hg => (hZ g (h2 g hg)).1⟩
  | vslc e t xs n =>
    obtain ⟨F, h1, h2⟩ := h
    exact ⟨F, Rd_move (fun g hg => (hZ g (h2 g hg)).2) h1, fun g hg => (hZ g (h2 g hg)).1⟩
  | ref l n =>
    obtain ⟨b, c, len, h1, h2⟩ := h
    exact ⟨b, c, len, hβ _ _ h1, h2⟩
  | ptr l off =>
    obtain ⟨g, c, len, h1, h2⟩ := h
    exact ⟨g, c, len, hβ _ _ h1, h2⟩
  | eptr l i s off =>
    obtain ⟨g, c, len, h1, h2⟩ := h
    exact ⟨g, c, len, hβ _ _ h1, h2⟩
  | fptr t x =>
    obtain ⟨a, cs, F, h1, h2, h3, h4, h5⟩ := h
    exact ⟨a, cs, F, h1, At_move (hZ _ h4).2 h2, Rd_move (fun g hg => (hZ g (h5 g hg)).2) h3, (hZ _ h4).1, fun g hg => (hZ g (h5 g hg)).1⟩
  | _ => exact h
theorem VRs_mono (hβ : ∀ l b, β l = some b → β' l = some b) (hZ : ∀ g, Z g → Z' g ∧ w'.heap[g]? = w.heap[g]?) : ∀ {cs : List AVal} {vs : List Value}, VRs β w Z cs vs → VRs β' w' Z' cs vs
  | [], _, h => h
  | _ :: _, _, ⟨u, us, h0, h1, h2, h3⟩ => ⟨u, us, h0, VR1_mono hβ hZ h1, h2, VRs_mono hβ hZ h3⟩
theorem VR2_mono (hβ : ∀ l b, β l = some b → β' l = some b) (hZ : ∀ g, Z g → Z' g ∧ w'.heap[g]? = w.heap[g]?) {c : AVal} {v : Value} (h : VR2 β w Z c v) : VR2 β' w' Z' c v := by
  cases c with
  | agg cs => obtain ⟨us, h1, h2⟩ := h; exact ⟨us, h1, VRs_mono hβ hZ h2⟩
  | _ => simp only [VR2] at h ⊢; exact VR1_mono hβ hZ h
theorem VRt_mono (hβ : ∀ l b, β l = some b → β' l = some b) (hZ : ∀ g, Z g → Z' g ∧ w'.heap[g]? = w.heap[g]?) : ∀ {cs : List AVal} {vs : List Value}, VRt β w Z cs vs → VRt β' w' Z' cs vs
  | [], _, h => h
  | _ :: _, _, ⟨u, us, h0, h1, h3⟩ => ⟨u, us, h0, VR2_mono hβ hZ h1, VRt_mono hβ hZ h3⟩
theorem VR_mono (hβ : ∀ l b, β l = some b → β' l = some b) (hZ : ∀ g, Z g → Z' g ∧ w'.heap[g]? = w.heap[g]?) {c : AVal} {v : Value} (h : VR β w Z c v) : VR β' w' Z' c v := by
  cases c with
  | tup cs => obtain ⟨us, h1, h2⟩ := h; exact ⟨us, h1, VRt_mono hβ hZ h2⟩
  | _ => simp only [VR] at h ⊢; exact VR2_mono hβ hZ h
end mono

section values
variable {β : Beta} {w : World} {Z : Nat → Prop}
theorem VRs_len : ∀ {cs : List AVal} {vs : List Value}, VRs β w Z cs vs → vs.length = cs.length
  | [], _, h => by rw [show _ = [] from h]; rfl
  | _ :: _, _, ⟨u, us, h0, _, _, h3⟩ => by rw [h0, List.length_cons, List.length_cons, VRs_len h3]
theorem VRs_one : ∀ {cs : List AVal} {vs : List Value}, VRs β w Z cs vs → ∀ u ∈ vs, u.oneCell' = true
  | [], _, h => by rw [show _ = [] from h]; simp
  | _ :: _, _, ⟨u, us, h0, _, h2, h3⟩ => fun x hx => by
    rw [h0] at hx
    rcases List.mem_cons.1 hx with rfl | hx
    · exact h2
    · exact VRs_one h3 x hx
theorem VRs_append : ∀ {cs ds : List AVal} {vs us : List Value}, VRs β w Z cs vs → VRs β w Z ds us → VRs β w Z (cs ++ ds) (vs ++ us)
  | [], _, _, _, h, h' => by rw [show _ = [] from h]; exact h'
  | _ :: _, _, _, _, ⟨u, us, h0, h1, h2, h3⟩, h' => ⟨u, _, by rw [h0]; rfl, h1, h2, VRs_append h3 h'⟩
theorem VRs_take : ∀ {cs : List AVal} {vs : List Value} (n : Nat), VRs β w Z cs vs → VRs β w Z (cs.take n) (vs.take n)
  | _, _, 0, _ => rfl
  | [], _, n + 1, h => by rw [show _ = [] from h]; rfl
  | _ :: _, _, n + 1, ⟨u, us, h0, h1, h2, h3⟩ => ⟨u, us.take n, by rw [h0]; rfl, h1, h2, VRs_take n h3⟩
theorem VRs_drop : ∀ {cs : List AVal} {vs : List Value} (n : Nat), VRs β w Z cs vs → VRs β w Z (cs.drop n) (vs.drop n)
  | _, _, 0, h => h
  | [], _, n + 1, h => by rw [show _ = [] from h]; rfl
  | _ :: _, _, n + 1, ⟨u, us, h0, h1, h2, h3⟩ => by rw [h0]; exact VRs_drop n h3
theorem VR1_one {c : AVal} {v : Value} (hu : ∀ x, c = x → x ≠ .undef) (h : VR1 β w Z c v) : v.oneCell' = true := by
  cases c with
  | slc e t xs => obtain ⟨F, h1, h2⟩ := h; exact Rd_one h1 v (List.mem_singleton.2 rfl)
  | vslc e t xs n => obtain ⟨F, h1, h2⟩ := h; exact Rd_one h1 v (List.mem_singleton.2 rfl)
  | ref l n =>
    obtain ⟨b, c, len, h1, h2⟩ := h
    cases b with
    | none => rw [h2.1]; rfl
    | some g => rw [h2.1]; rfl
  | ptr l off => obtain ⟨g, c, len, h1, h2⟩ := h; rw [h2]; rfl
  | eptr l i s off => obtain ⟨g, c, len, h1, h2⟩ := h; rw [h2]; rfl
  | fptr t x => obtain ⟨a, cs, F, h1, h2⟩ := h; rw [h1]; rfl
  | undef => exact absurd rfl (hu _ rfl)
  | agg _ => exact h.elim
  | tup _ => exact h.elim
  | _ => rw [show v = _ from h]; rfl

/-- The seen part alone. -/
theorem Rd_seen {e : TypeId} {t : Ty} {x : List (T t) × Nat} {cs F} (hh : Rd w (.vslice e t) x cs F) : ∃ F', (∀ g ∈ F', g ∈ F) ∧ Rd w (.slice e t) (x.1.take x.2) cs F' := by
  obtain ⟨A, c, rfl, hc, hc2, h⟩ := hh
  have e2 : (x.1.take x.2).length = x.2 := by rw [List.length_take]; exact Nat.min_eq_left hc
  have h' : ∃ F', (∀ g ∈ F', g ∈ F) ∧ slR (Rd w t) w (x.1.take x.2) A F' := by
    rcases h with ⟨h0, rfl⟩ | ⟨hx, a, ds, F', rfl, rfl, h1, h2⟩
    · exact ⟨[], by simp, .inl ⟨by rw [h0]; simp, rfl⟩⟩
    · obtain ⟨F2, h3, h4⟩ := rowR_take (n := sz t) (fun _ _ _ => Rd_len) x.2 h2
      by_cases h5 : x.1.take x.2 = []
      · exact ⟨[], by simp, .inl ⟨h5, rfl⟩⟩
      · refine ⟨a.block :: F2, ?_, .inr ⟨h5, a, ds.take (x.2 * sz t), F2, rfl, rfl, ?_, h4⟩⟩
        · intro g hg
          rcases List.mem_cons.1 hg with rfl | hg
          · exact List.mem_cons_self ..
          · exact List.mem_cons_of_mem _ (h3 g hg)
        · intro j u hu
          rw [List.getElem?_take] at hu
          split at hu
          · exact h1 j u hu
          · cases hu
  obtain ⟨F', h1, h2⟩ := h'
  refine ⟨F', h1, ⟨A, c, by rw [e2], by rw [e2]; omega, h2⟩⟩

/-- A content's cells. -/
theorem VRs_cells : ∀ {t : Ty} {x : T t} {cs F}, Rd w t x cs F → (∀ g ∈ F, Z g) → VRs β w Z (cells t x) cs := by
  intro t
  induction t with
  | pair a b ha hb =>
    rintro x cs F ⟨c1, c2, F1, F2, rfl, rfl, h1, h2⟩ hF
    exact VRs_append (ha h1 (fun g hg => hF g (List.mem_append_left _ hg))) (hb h2 (fun g hg => hF g (List.mem_append_right _ hg)))
  | slice e t _ =>
    rintro x cs F ⟨A, c, rfl, hc, h⟩ hF
    exact ⟨_, [], rfl, ⟨F, ⟨A, c, rfl, hc, h⟩, hF⟩, rfl, rfl⟩
  | vslice e t _ =>
    rintro x cs F ⟨A, c, rfl, hc, hc2, h⟩ hF
    exact ⟨_, [], rfl, ⟨F, ⟨A, c, rfl, hc, hc2, h⟩, hF⟩, rfl, rfl⟩
  | int k => rintro x cs F ⟨rfl, _⟩ hF; exact ⟨_, [], rfl, rfl, rfl, rfl⟩
  | bool => rintro x cs F ⟨rfl, _⟩ hF; exact ⟨_, [], rfl, rfl, rfl, rfl⟩
  | str => rintro x cs F ⟨rfl, _⟩ hF; exact ⟨_, [], rfl, rfl, rfl, rfl⟩

theorem VRs_zero : ∀ t : Ty, VRs β w Z (zeroA t) (zeroC t) := by
  intro t
  induction t with
  | pair a b ha hb => exact VRs_append ha hb
  | _ => exact ⟨_, [], rfl, rfl, rfl, rfl⟩

theorem castRow_rfl {t : Ty} (h : tyEq t t = true) (xs : List (T t)) : castRow h xs = xs := rfl

theorem encRow_spec {t t' : Ty} {xs : List (T t)} {ys : List (T t')} (h : encRow t' t xs = some ys) : ∃ e : t = t', ys = e ▸ xs := by
  unfold encRow at h
  split at h
  · rename_i h'
    obtain rfl := tyEq_eq h'
    exact ⟨rfl, (Option.some.inj h).symm⟩
  · cases h

theorem Rd_enc1 : ∀ {t : Ty} {c : AVal} {v : Value} {x : T t}, enc1 t c = some x → VR1 β w Z c v → ∃ F, Rd w t x [v] F ∧ ∀ g ∈ F, Z g := by
  intro t c v x h hv
  cases t <;> cases c <;> simp only [enc1] at h <;> try (cases h; done)
  · rename_i k k' n
    cases hk : kindEq k' k with
    | false => rw [hk] at h; cases h
    | true =>
      rw [hk] at h
      obtain rfl := kindEq_eq hk
      cases h
      exact ⟨[], ⟨by rw [show v = _ from hv], rfl⟩, by simp⟩
  · cases h
    exact ⟨[], ⟨by rw [show v = _ from hv], rfl⟩, by simp⟩
  · cases h
    exact ⟨[], ⟨by rw [show v = _ from hv], rfl⟩, by simp⟩
  · rename_i e t e' t' xs
    cases he : Nat.beq e' e with
    | false => rw [he] at h; cases h
    | true =>
      rw [he] at h
      obtain ⟨rfl, rfl⟩ := encRow_spec h
      obtain rfl := Nat.eq_of_beq_eq_true he
      exact hv
  · rename_i e t e' t' xs n
    cases he : Nat.beq e' e with
    | false => rw [he] at h; cases h
    | true =>
      rw [he] at h
      obtain ⟨rfl, rfl⟩ := encRow_spec h
      obtain rfl := Nat.eq_of_beq_eq_true he
      obtain ⟨F, h1, h2⟩ := hv
      obtain ⟨F', h3, h4⟩ := Rd_seen h1
      exact ⟨F', h4, fun g hg => h2 g (h3 g hg)⟩
  · cases h
    exact ⟨[], ⟨none, 0, by rw [show v = _ from hv]; rfl, Nat.le_refl _, .inl ⟨rfl, rfl⟩⟩, by simp⟩
  · rename_i e t e' t' xs
    cases he : Nat.beq e' e with
    | false => rw [he] at h; cases h
    | true =>
      rw [he] at h
      simp only [cond_true] at h
      split at h
      · rename_i ys hys
        obtain ⟨rfl, rfl⟩ := encRow_spec hys
        obtain rfl := Nat.eq_of_beq_eq_true he
        cases h
        obtain ⟨F, ⟨A, c, e1, h1, h2⟩, h3⟩ := hv
        exact ⟨F, ⟨A, c, e1, Nat.le_refl _, h1, h2⟩, h3⟩
      · cases h
  · rename_i e t e' t' xs n
    cases he : Nat.beq e' e with
    | false => rw [he] at h; cases h
    | true =>
      rw [he] at h
      simp only [cond_true] at h
      split at h
      · rename_i ys hys
        obtain ⟨rfl, rfl⟩ := encRow_spec hys
        obtain rfl := Nat.eq_of_beq_eq_true he
        cases h
        exact hv
      · cases h
  · cases h
    exact ⟨[], ⟨none, 0, by rw [show v = _ from hv], Nat.le_refl _, Nat.le_refl _, .inl ⟨rfl, rfl⟩⟩, by simp⟩

theorem rowR_map {α β : Type} {R : α → List Value → List Nat → Prop} {R' : β → List Value → List Nat → Prop} {f : α → β} (hi : ∀ x cs F, R x cs F → ∃ F', (∀ g ∈ F', g ∈ F) ∧ R' (f x) cs F') : ∀ {xs : List α} {cs F}, rowR R xs cs F → ∃ F', (∀ g ∈ F', g ∈ F) ∧ rowR R' (xs.map f) cs F'
  | [], _, _, h => ⟨[], by simp, h.1, rfl⟩
  | x :: xs, _, _, ⟨c1, c2, F1, F2, rfl, rfl, h1, h2⟩ => by
    obtain ⟨G1, g1, r1⟩ := hi _ _ _ h1
    obtain ⟨G2, g2, r2⟩ := rowR_map hi h2
    refine ⟨G1 ++ G2, fun g hg => ?_, c1, c2, G1, G2, rfl, rfl, r1, r2⟩
    rcases List.mem_append.1 hg with hg | hg
    · exact List.mem_append_left _ (g1 g hg)
    · exact List.mem_append_right _ (g2 g hg)

theorem slR_map {α β : Type} {R : α → List Value → List Nat → Prop} {R' : β → List Value → List Nat → Prop} {f : α → β} (hi : ∀ x cs F, R x cs F → ∃ F', (∀ g ∈ F', g ∈ F) ∧ R' (f x) cs F') {xs : List α} {A F} (h : slR R w xs A F) : ∃ F', (∀ g ∈ F', g ∈ F) ∧ slR R' w (xs.map f) A F' := by
  rcases h with ⟨rfl, rfl⟩ | ⟨hx, a, cs, F', rfl, rfl, h1, h2⟩
  · exact ⟨[], by simp, .inl ⟨rfl, rfl⟩⟩
  · obtain ⟨G, g1, g2⟩ := rowR_map hi h2
    refine ⟨a.block :: G, fun g hg => ?_, .inr ⟨by simpa using hx, a, cs, G, rfl, rfl, h1, g2⟩⟩
    rcases List.mem_cons.1 hg with rfl | hg
    · exact List.mem_cons_self ..
    · exact List.mem_cons_of_mem _ (g1 g hg)

theorem Rd_fg : ∀ {t : Ty} {x : T t} {cs F}, Rd w t x cs F → ∃ F', (∀ g ∈ F', g ∈ F) ∧ Rd w (pl t) (fg t x) cs F' := by
  intro t
  induction t with
  | pair a b ha hb =>
    rintro x cs F ⟨c1, c2, F1, F2, rfl, rfl, h1, h2⟩
    obtain ⟨G1, g1, r1⟩ := ha h1
    obtain ⟨G2, g2, r2⟩ := hb h2
    refine ⟨G1 ++ G2, fun g hg => ?_, c1, c2, G1, G2, rfl, rfl, r1, r2⟩
    rcases List.mem_append.1 hg with hg | hg
    · exact List.mem_append_left _ (g1 g hg)
    · exact List.mem_append_right _ (g2 g hg)
  | slice e t ih =>
    rintro x cs F ⟨A, c, rfl, hc, h⟩
    obtain ⟨F', g1, g2⟩ := slR_map (f := fg t) (R' := Rd w (pl t)) (fun _ _ _ h => ih h) h
    exact ⟨F', g1, A, c, by rw [show fg (.slice e t) x = x.map (fg t) from rfl, List.length_map], by rw [show fg (.slice e t) x = x.map (fg t) from rfl, List.length_map]; exact hc, g2⟩
  | vslice e t ih =>
    intro x cs F hh
    obtain ⟨F1, f1, A, c, rfl, hc, h⟩ := Rd_seen hh
    obtain ⟨F', g1, g2⟩ := slR_map (f := fg t) (R' := Rd w (pl t)) (fun _ _ _ h => ih h) h
    exact ⟨F', fun g hg => f1 g (g1 g hg), A, c, by rw [show fg (.vslice e t) x = (x.1.take x.2).map (fg t) from rfl, List.length_map], by rw [show fg (.vslice e t) x = (x.1.take x.2).map (fg t) from rfl, List.length_map]; exact hc, g2⟩
  | int k => exact fun h => ⟨_, fun _ h => h, h⟩
  | bool => exact fun h => ⟨_, fun _ h => h, h⟩
  | str => exact fun h => ⟨_, fun _ h => h, h⟩

theorem VR1_forget {c : AVal} {v : Value} (h : VR1 β w Z c v) : VR1 β w Z (forget1 c) v := by
  cases c <;> try exact h
  case slc e t xs =>
    simp only [forget1]
    cases hn : noV t with
    | true => exact h
    | false =>
      obtain ⟨F, h1, h2⟩ := h
      obtain ⟨F', g1, g2⟩ := Rd_fg h1
      exact ⟨F', g2, fun g hg => h2 g (g1 g hg)⟩
  case vslc e t xs n =>
    simp only [forget1]
    obtain ⟨F, h1, h2⟩ := h
    cases hn : noV t with
    | true =>
      obtain ⟨F', g1, g2⟩ := Rd_seen h1
      exact ⟨F', g2, fun g hg => h2 g (g1 g hg)⟩
    | false =>
      obtain ⟨F', g1, g2⟩ := Rd_fg h1
      exact ⟨F', g2, fun g hg => h2 g (g1 g hg)⟩
  case fptr t x =>
    simp only [forget1]
    cases hn : noV t with
    | true => exact h
    | false =>
      obtain ⟨a, cs, F, e1, h1, h2, h3, h4⟩ := h
      obtain ⟨F', g1, g2⟩ := Rd_fg h2
      exact ⟨a, cs, F', e1, h1, g2, h3, fun g hg => h4 g (g1 g hg)⟩

theorem VR1_view {c : AVal} {v : Value} (h : VR1 β w Z c v) : VR1 β w Z (view1 c) v := by
  cases c <;> try exact h
  obtain ⟨F, ⟨A, c, e1, h1, h2⟩, h3⟩ := h
  exact ⟨F, ⟨A, c, e1, Nat.le_refl _, h1, h2⟩, h3⟩

theorem VRs_view : ∀ {cs : List AVal} {vs : List Value}, VRs β w Z cs vs → VRs β w Z (cs.map view1) vs
  | [], _, h => h
  | _ :: _, _, ⟨u, us, h0, h1, h2, h3⟩ => ⟨u, us, h0, VR1_view h1, h2, VRs_view h3⟩

theorem VR1_nil1 {t : Ty} {c : AVal} {v : Value} (h : VR1 β w Z c v) : VR1 β w Z (nil1 t c) v := by
  cases t <;> first | exact h | skip
  all_goals cases c <;> first | exact h | skip
  · exact ⟨[], ⟨none, 0, by rw [show v = _ from h]; rfl, Nat.le_refl _, .inl ⟨rfl, rfl⟩⟩, by simp⟩
  · exact ⟨[], ⟨none, 0, by rw [show v = _ from h], Nat.le_refl _, Nat.le_refl _, .inl ⟨rfl, rfl⟩⟩, by simp⟩

theorem VRs_nils : ∀ {t : Ty} {cs : List AVal} {vs : List Value}, VRs β w Z cs vs → VRs β w Z ((nils t cs).1 ++ (nils t cs).2) vs ∧ ∃ us us', vs = us ++ us' ∧ VRs β w Z (nils t cs).1 us ∧ VRs β w Z (nils t cs).2 us' := by
  intro t
  suffices h : ∀ {cs : List AVal} {vs : List Value}, VRs β w Z cs vs → ∃ us us', vs = us ++ us' ∧ VRs β w Z (nils t cs).1 us ∧ VRs β w Z (nils t cs).2 us' by
    intro cs vs hv
    obtain ⟨us, us', e, h1, h2⟩ := h hv
    exact ⟨by rw [e]; exact VRs_append h1 h2, us, us', e, h1, h2⟩
  induction t with
  | pair a b ha hb =>
    intro cs vs hv
    obtain ⟨u1, u2, rfl, h1, h2⟩ := ha hv
    obtain ⟨u3, u4, rfl, h3, h4⟩ := hb h2
    refine ⟨u1 ++ u3, u4, (List.append_assoc ..).symm, ?_, ?_⟩
    · show VRs β w Z ((nils a cs).1 ++ (nils b (nils a cs).2).1) _
      exact VRs_append h1 h3
    · exact h4
  | slice e t _ =>
    intro cs vs hv
    cases cs with
    | nil => exact ⟨[], vs, rfl, rfl, hv⟩
    | cons c cs =>
      obtain ⟨u, us, rfl, h1, h2, h3⟩ := hv
      refine ⟨[u], us, rfl, ?_⟩
      cases c <;> first | exact ⟨⟨u, [], rfl, h1, h2, rfl⟩, h3⟩ | skip
      exact ⟨⟨u, [], rfl, VR1_nil1 (t := .slice e t) h1, h2, rfl⟩, h3⟩
  | vslice e t _ =>
    intro cs vs hv
    cases cs with
    | nil => exact ⟨[], vs, rfl, rfl, hv⟩
    | cons c cs =>
      obtain ⟨u, us, rfl, h1, h2, h3⟩ := hv
      refine ⟨[u], us, rfl, ?_⟩
      cases c <;> first | exact ⟨⟨u, [], rfl, h1, h2, rfl⟩, h3⟩ | skip
      exact ⟨⟨u, [], rfl, VR1_nil1 (t := .vslice e t) h1, h2, rfl⟩, h3⟩
  | _ =>
    intro cs vs hv
    cases cs with
    | nil => exact ⟨[], vs, rfl, rfl, hv⟩
    | cons c cs =>
      obtain ⟨u, us, rfl, h1, h2, h3⟩ := hv
      exact ⟨[u], us, rfl, ⟨u, [], rfl, h1, h2, rfl⟩, h3⟩

theorem VRs_forget : ∀ {cs : List AVal} {vs : List Value}, VRs β w Z cs vs → VRs β w Z (cs.map forget1) vs
  | [], _, h => h
  | _ :: _, _, ⟨u, us, h0, h1, h2, h3⟩ => ⟨u, us, h0, VR1_forget h1, h2, VRs_forget h3⟩

theorem forget1_agg {c : AVal} (h : ∀ cs, c ≠ .agg cs) (h' : ∀ cs, c ≠ .tup cs) : (∀ cs, forget1 c ≠ .agg cs) ∧ (∀ cs, forget1 c ≠ .tup cs) := by
  cases c <;> simp only [forget1] <;> first | exact absurd rfl (h _) | exact absurd rfl (h' _) | skip
  case slc e t xs => cases noV t <;> constructor <;> intro cs hc <;> cases hc
  case vslc e t xs n => cases noV t <;> constructor <;> intro cs hc <;> cases hc
  case fptr t x => cases noV t <;> constructor <;> intro cs hc <;> cases hc
  all_goals constructor <;> intro cs hc <;> cases hc

theorem VR_of_one {c : AVal} {v : Value} (h : ∀ cs, c ≠ .agg cs) (h' : ∀ cs, c ≠ .tup cs) : VR β w Z c v ↔ VR1 β w Z c v := by
  cases c <;> first | exact absurd rfl (h _) | exact absurd rfl (h' _) | exact Iff.rfl

theorem VR_forget {views : Bool} {c : AVal} {v : Value} (h : VR β w Z c v) : VR β w Z (forgetA views c) v := by
  cases views with
  | true =>
    by_cases ha : ∃ cs, c = .agg cs
    · obtain ⟨cs, rfl⟩ := ha
      obtain ⟨us, h1, h2⟩ := h
      exact ⟨us, h1, VRs_view h2⟩
    by_cases hb : ∃ cs, c = .tup cs
    · obtain ⟨cs, rfl⟩ := hb
      exact h
    have ha' : ∀ cs, c ≠ .agg cs := fun cs e => ha ⟨cs, e⟩
    have hb' : ∀ cs, c ≠ .tup cs := fun cs e => hb ⟨cs, e⟩
    have h' := VR1_view ((VR_of_one ha' hb').1 h)
    cases c <;> first | exact absurd rfl (ha' _) | exact absurd rfl (hb' _) | exact h'
  | false =>
    by_cases ha : ∃ cs, c = .agg cs
    · obtain ⟨cs, rfl⟩ := ha
      obtain ⟨us, h1, h2⟩ := h
      exact ⟨us, h1, VRs_forget h2⟩
    by_cases hb : ∃ cs, c = .tup cs
    · obtain ⟨cs, rfl⟩ := hb
      exact h
    have ha' : ∀ cs, c ≠ .agg cs := fun cs e => ha ⟨cs, e⟩
    have hb' : ∀ cs, c ≠ .tup cs := fun cs e => hb ⟨cs, e⟩
    have hs := forget1_agg ha' hb'
    have e : forgetA false c = forget1 c := by
      unfold forgetA
      cases c <;> first | exact absurd rfl (ha' _) | rfl
    rw [e]
    exact (VR_of_one hs.1 hs.2).2 (VR1_forget ((VR_of_one ha' hb').1 h))

theorem Rd_enc : ∀ {t : Ty} {as : List AVal} {vs : List Value} {x : T t} {rest}, enc t as = some (x, rest) → VRs β w Z as vs →
    ∃ cs us F, vs = cs ++ us ∧ Rd w t x cs F ∧ (∀ g ∈ F, Z g) ∧ VRs β w Z rest us := by
  intro t
  induction t with
  | pair a b ha hb =>
    intro as vs x rest h hv
    unfold enc at h
    split at h
    · rename_i x1 cs1 h1
      split at h
      · rename_i x2 cs2 h2
        cases h
        obtain ⟨c1, u1, F1, rfl, r1, z1, v1⟩ := ha h1 hv
        obtain ⟨c2, u2, F2, rfl, r2, z2, v2⟩ := hb h2 v1
        refine ⟨c1 ++ c2, u2, F1 ++ F2, (List.append_assoc ..).symm, ⟨c1, c2, F1, F2, rfl, rfl, r1, r2⟩, ?_, v2⟩
        intro g hg
        rcases List.mem_append.1 hg with hg | hg
        · exact z1 g hg
        · exact z2 g hg
      · cases h
    · cases h
  | _ =>
    intro as vs x rest h hv
    cases as with
    | nil => simp [enc] at h
    | cons c cs =>
      simp only [enc] at h
      split at h
      · rename_i y h1
        cases h
        obtain ⟨u, us, rfl, hv1, _, hv2⟩ := hv
        obtain ⟨F, r1, z1⟩ := Rd_enc1 h1 hv1
        exact ⟨[u], us, F, rfl, r1, z1, hv2⟩
      · cases h

theorem Rd_encAll : ∀ {t : Ty} {n : Nat} {as : List AVal} {vs : List Value} {xs : List (T t)}, encAll t n as = some xs → VRs β w Z as vs →
    xs.length = n ∧ ∃ F, rowR (Rd w t) xs vs F ∧ ∀ g ∈ F, Z g
  | t, 0, [], vs, xs, h, hv => by cases h; exact ⟨rfl, [], ⟨hv, rfl⟩, by simp⟩
  | t, 0, _ :: _, vs, xs, h, hv => by simp [encAll] at h
  | t, n + 1, as, vs, xs, h, hv => by
    unfold encAll at h
    split at h
    · rename_i x cs h1
      split at h
      · rename_i ys h2
        cases h
        obtain ⟨c1, u1, F1, rfl, r1, z1, v1⟩ := Rd_enc h1 hv
        obtain ⟨hl, F2, r2, z2⟩ := Rd_encAll h2 v1
        refine ⟨by rw [List.length_cons, hl], F1 ++ F2, ⟨c1, u1, F1, F2, rfl, rfl, r1, r2⟩, ?_⟩
        intro g hg
        rcases List.mem_append.1 hg with hg | hg
        · exact z1 g hg
        · exact z2 g hg
      · cases h
    · cases h
end values
end Go.Proofs.YtchdegcfohegfaaE
