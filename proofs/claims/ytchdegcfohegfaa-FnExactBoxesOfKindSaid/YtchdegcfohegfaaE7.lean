/- The engine, part 7: builds, new variables and rows. -/
import Derived.Test.YtchdegcfohegfaaE6
namespace Go.Proofs.YtchdegcfohegfaaE
set_option linter.unusedVariables false
set_option linter.unusedSimpArgs false
set_option linter.unusedSectionVars false
open Pr

theorem fold_put (off : Nat) : ∀ (l : List Value) (k : Nat) (arr : Array Value), off + k + l.length ≤ arr.size →
    ((l.zipIdx k).foldl (fun cs (p : Value × Nat) => cs.setIfInBounds (off + p.2) p.1) arr) = (arr.toList.take (off + k) ++ l ++ arr.toList.drop (off + k + l.length)).toArray
  | [], k, arr, h => by simp
  | v :: l, k, arr, h => by
    rw [List.zipIdx_cons, List.foldl_cons, fold_put off l (k + 1) _ (by simp only [Array.size_setIfInBounds, List.length_cons] at h ⊢; omega)]
    simp only [List.length_cons] at h
    have hlt : off + k < arr.toList.length := by rw [Array.length_toList]; omega
    congr 1
    rw [Array.toList_setIfInBounds, List.set_eq_take_append_cons_drop, if_pos hlt]
    have e1 : (arr.toList.take (off + k)).length = off + k := by rw [List.length_take]; omega
    have e2 : (arr.toList.take (off + k) ++ v :: arr.toList.drop (off + k + 1)).take (off + (k + 1)) = arr.toList.take (off + k) ++ [v] := by
      rw [List.take_append, e1, List.take_of_length_le (by omega), show off + (k + 1) - (off + k) = 1 by omega]
      rfl
    have e3 : (arr.toList.take (off + k) ++ v :: arr.toList.drop (off + k + 1)).drop (off + (k + 1) + l.length) = arr.toList.drop (off + k + (l.length + 1)) := by
      rw [List.drop_append, e1, List.drop_eq_nil_of_le (by omega), List.nil_append, show off + (k + 1) + l.length - (off + k) = l.length + 1 by omega, List.drop_succ_cons, List.drop_drop]
      congr 1
      omega
    rw [e2, e3]
    simp

theorem array_fold_put (off : Nat) (v arr : Array Value) (h : off + v.size ≤ arr.size) :
    (v.zipIdx.foldl (fun cs (p : Value × Nat) => cs.setIfInBounds (off + p.2) p.1) arr) = (arr.toList.take off ++ v.toList ++ arr.toList.drop (off + v.size)).toArray := by
  have h1 := fold_put off v.toList 0 arr (by simpa using h)
  rw [← Array.foldl_toList, Array.toList_zipIdx]
  simpa using h1

section
variable {P : Program} {ti : TI} {N : Nat} {X Y : Nat → Prop} {w0 w w' : World} {β β' : Beta} {σ σ' : St} {a a' : Act}

def partsR (β : Beta) (w : World) (Z : Nat → Prop) : List (Nat × AVal) → List (Nat × Value) → Prop
  | [], us => us = []
  | (i, v) :: ps, us => ∃ u us', us = (i, u) :: us' ∧ VR β w Z v u ∧ partsR β w Z ps us'

theorem partsA_sound (R : Rel ti N X Y w0 β σ a w) : ∀ {xs : List (Nat × Operand)} {ps}, (partsA xs).E σ ps → partsR β w (Zs Y β σ w) ps (xs.map fun p => (p.1, a.eval p.2))
  | [], ps, h => by rw [partsA, E_ret] at h; subst h; rfl
  | (i, x) :: xs, ps, h => by
    simp only [partsA, E_bind, E_ret] at h
    obtain ⟨v, h1, us, h2, rfl⟩ := h
    exact ⟨_, _, rfl, opd_sound R h1, partsA_sound R h2⟩

theorem cells_of {Z : Nat → Prop} {v : AVal} {u : Value} (h : VR β w Z v u) (hok : cellsOk v = true) : VRs β w Z (asCells v) u.cells.toList := by
  refine VR_asCells h (fun _ => trivial) ?_ ?_
  · rintro rfl; cases hok
  · rintro l rfl; cases hok

theorem VRs_put {Z : Nat → Prop} {cs ds : List AVal} {vs us : List Value} (h : VRs β w Z cs vs) (h' : VRs β w Z ds us) (off : Nat) : VRs β w Z (putA cs off ds) (vs.take off ++ us ++ vs.drop (off + us.length)) := by
  unfold putA
  have e := VRs_len h'
  rw [← e]
  exact VRs_append (VRs_append (VRs_take off h) h') (VRs_drop _ h)

theorem fill_cons (place : Nat → Option (Nat × Nat)) (i off size : Nat) (v : Value) (rest : List (Nat × Value)) (cells : Array Value) (hp : place i = some (off, size)) (hs : v.cells.size = size) (hl : off + v.cells.size ≤ cells.size) :
    Instr.fill place cells ((i, v) :: rest) = Instr.fill place (cells.toList.take off ++ v.cells.toList ++ cells.toList.drop (off + v.cells.size)).toArray rest := by
  have h1 : (decide (v.cells.size ≠ size) || decide (off + v.cells.size > cells.size)) = false := by simp; omega
  rw [Instr.fill, hp]
  simp only [h1]
  rw [array_fold_put off v.cells cells hl]
  rfl

theorem fillA_sound {Z : Nat → Prop} {fs : List (Nat × TypeId)} {places : Array (Nat × Nat)} (hpl : places.toList = fs.map fun f => (f.1, sz (ti.at f.2).ty)) :
    ∀ {ps : List (Nat × AVal)} {us : List (Nat × Value)} {cs ds : List AVal} {vs : List Value}, partsR β w Z ps us → VRs β w Z cs vs → fillA ti fs cs ps = some ds →
      ∃ xs : List Value, Instr.fill (fun i => places[i]?) vs.toArray us = some xs.toArray ∧ VRs β w Z ds xs
  | [], us, cs, ds, vs, h1, h2, h3 => by
    rw [show us = [] from h1]
    cases h3
    exact ⟨vs, rfl, h2⟩
  | (i, v) :: ps, us, cs, ds, vs, h1, h2, h3 => by
    obtain ⟨u, us', rfl, hv, h4⟩ := h1
    unfold fillA at h3
    split at h3
    · rename_i off ft hfo
      cases hb : (cellsOk v && (Nat.beq (asCells v).length (sz (ti.at ft).ty) && Nat.ble (off + sz (ti.at ft).ty) cs.length)) with
      | false => rw [hb] at h3; cases h3
      | true =>
        rw [hb] at h3
        rw [Bool.and_eq_true, Bool.and_eq_true] at hb
        obtain ⟨hb1, hb2, hb3⟩ := hb
        have hb2 := Nat.eq_of_beq_eq_true hb2
        have hb3 := Nat.le_of_ble_eq_true hb3
        have hc := cells_of hv hb1
        have hcl := VRs_len hc
        have hvl := VRs_len h2
        have hfo' : ∀ (l : List (Nat × TypeId)) (n : Nat) (p), fieldOff l n = some p → l[n]? = some p := by
          intro l
          induction l with
          | nil => intro n p h; simp [fieldOff] at h
          | cons q l ih => intro n p h; cases n with
            | zero => simpa [fieldOff] using h
            | succ n => simpa using ih n p h
        have hp : places[i]? = some (off, sz (ti.at ft).ty) := by
          rw [← Array.getElem?_toList, hpl, List.getElem?_map, hfo' _ _ _ hfo]
          rfl
        have hs : u.cells.size = sz (ti.at ft).ty := by rw [← Array.length_toList, hcl, hb2]
        rw [fill_cons _ i off _ u us' vs.toArray hp hs (by simp only [List.size_toArray]; omega)]
        have := fillA_sound hpl h4 (VRs_put h2 hc off) h3
        rw [Array.length_toList] at this
        exact this
    · cases h3

theorem fillE_sound {Z : Nat → Prop} {n : Nat} :
    ∀ {ps : List (Nat × AVal)} {us : List (Nat × Value)} {cs ds : List AVal} {vs : List Value}, partsR β w Z ps us → VRs β w Z cs vs → fillE n cs ps = some ds →
      ∃ xs : List Value, Instr.fill (fun i => some (i * n, n)) vs.toArray us = some xs.toArray ∧ VRs β w Z ds xs ∧ xs.length = vs.length
  | [], us, cs, ds, vs, h1, h2, h3 => by
    rw [show us = [] from h1]
    cases h3
    exact ⟨vs, rfl, h2, rfl⟩
  | (i, v) :: ps, us, cs, ds, vs, h1, h2, h3 => by
    obtain ⟨u, us', rfl, hv, h4⟩ := h1
    unfold fillE at h3
    cases hb : (cellsOk v && (Nat.beq (asCells v).length n && Nat.ble (i * n + n) cs.length)) with
    | false => rw [hb] at h3; cases h3
    | true =>
      rw [hb] at h3
      rw [Bool.and_eq_true, Bool.and_eq_true] at hb
      obtain ⟨hb1, hb2, hb3⟩ := hb
      have hb2 := Nat.eq_of_beq_eq_true hb2
      have hb3 := Nat.le_of_ble_eq_true hb3
      have hc := cells_of hv hb1
      have hcl := VRs_len hc
      have hvl := VRs_len h2
      have hs : u.cells.size = n := by rw [← Array.length_toList, hcl, hb2]
      rw [fill_cons _ i (i * n) n u us' vs.toArray rfl hs (by simp only [List.size_toArray]; omega)]
      obtain ⟨xs, g1, g2, g3⟩ := fillE_sound h4 (VRs_put h2 hc (i * n)) h3
      rw [Array.length_toList] at g1
      refine ⟨xs, g1, g2, ?_⟩
      rw [g3]
      simp only [List.length_append, List.length_take, List.length_drop]
      omega

theorem flat_rep_get {l : List Value} (hl : 0 < l.length) : ∀ (c i : Nat), (List.replicate c l).flatten[i]? = if i < c * l.length then l[i % l.length]? else none
  | 0, i => by simp
  | c + 1, i => by
    rw [List.replicate_succ, List.flatten_cons]
    by_cases h : i < l.length
    · rw [List.getElem?_append_left h, Nat.mod_eq_of_lt h, if_pos (by rw [Nat.add_mul]; omega)]
    · have h' : l.length ≤ i := by omega
      rw [List.getElem?_append_right h', flat_rep_get hl c, Nat.add_mul, Nat.one_mul]
      have e : (i - l.length) % l.length = i % l.length := by
        conv => rhs; rw [← Nat.sub_add_cancel h']
        rw [Nat.add_mod_right]
      rw [e]
      by_cases h2 : i - l.length < c * l.length
      · rw [if_pos h2, if_pos (by omega)]
      · rw [if_neg h2, if_neg (by omega)]

theorem madeCells_rep {z : Array Value} {l : List Value} (hz : z = l.toArray) (hl : 0 < l.length) (c : Nat) : madeCells z (c * l.length) = ((List.replicate c l).flatten).toArray := by
  subst hz
  have e : (madeCells l.toArray (c * l.length)).toList = (List.replicate c l).flatten := by
    apply List.ext_getElem?
    intro i
    rw [flat_rep_get hl]
    unfold madeCells
    rw [Array.toList_map, List.getElem?_map, Array.toList_range]
    by_cases h : i < c * l.length
    · rw [if_pos h, List.getElem?_range h]
      have hm := Nat.mod_lt i hl
      simp [List.getElem?_eq_getElem hm, getElem!_pos, hm]
    · rw [if_neg h, List.getElem?_eq_none (by rw [List.length_range]; omega)]
      rfl
  rw [← e]

theorem reps_VRs {Z : Nat → Prop} {cs : List AVal} {vs : List Value} (h : VRs β w Z cs vs) : ∀ n, VRs β w Z (reps n cs) (List.replicate n vs).flatten
  | 0 => rfl
  | n + 1 => by rw [List.replicate_succ, List.flatten_cons]; exact VRs_append h (reps_VRs h n)

/-! ### a new object -/
def upd (β : Beta) (l : Loc) (b : Option Nat × Nat × Nat) : Beta := ⟨fun l' => if l' = l then some b else β l', β.inn⟩
theorem upd_at (β : Beta) (l : Loc) (b : Option Nat × Nat × Nat) (l' : Loc) : upd β l b l' = if l' = l then some b else β l' := rfl
theorem upd_inn (β : Beta) (l : Loc) (b : Option Nat × Nat × Nat) : (upd β l b).inn = β.inn := rfl

theorem upd_ext {l : Loc} {b : Option Nat × Nat × Nat} (hl : β l = none) : ∀ l' b', β l' = some b' → upd β l b l' = some b' := by
  intro l' b' h
  rw [upd_at]
  split
  · rename_i e; rw [e, hl] at h; cases h
  · exact h

/-- A new own object in a new block: memory has grown. -/
theorem Zs_new {l : Loc} {c : Cell} {g cap len : Nat} (hl : β l = none) (hnd : isDeep c = false) (hk : ∀ k, k < w.heap.size → w'.heap[k]? = w.heap[k]?) (hs : w.heap.size ≤ w'.heap.size) (hg : w.heap.size ≤ g) :
    ∀ k, Zs Y β σ w k → Zs Y (upd β l (some g, cap, len)) ((l, c) :: σ) w' k ∧ w'.heap[k]? = w.heap[k]? := by
  intro k hk'
  refine ⟨⟨⟨Nat.lt_of_lt_of_le hk'.1.1 hs, hk'.1.2⟩, ?_, ?_⟩, hk k hk'.1.1⟩
  · intro l' c' len' ho he
    rw [upd_at] at he
    split at he
    · cases he
      have := hk'.1.1
      omega
    · rename_i hne
      rw [look_cons, if_neg (fun e => hne e.symm)] at ho
      exact hk'.2 l' c' len' ho he
  · intro l' hd
    rw [look_cons] at hd
    by_cases e : l = l'
    · rw [if_pos e, hnd] at hd; cases hd
    · rw [if_neg e] at hd; exact hk'.3 l' hd

theorem Rel.newObj (R : Rel ti N X Y w0 β σ a w) {l : Loc} {c : Cell} {g cap len : Nat} (hl : β l = none) (hnd : isDeep c = false) (hodd : ∀ t, l ≠ tmpL t) (hk : Kept (fun _ => False) w w') (hg : w.heap.size ≤ g)
    (hc : CellOk ti (upd β l (some g, cap, len)) w' (Zs Y (upd β l (some g, cap, len)) ((l, c) :: σ) w') l c) : Rel ti N X Y w0 (upd β l (some g, cap, len)) ((l, c) :: σ) a w' := by
  have hkk : ∀ k, k < w.heap.size → w'.heap[k]? = w.heap[k]? := fun k h => hk.block k h (fun x => x)
  have hlo : ∀ l', isOwn (look σ l') = true → ∀ g' c' len', β l' = some (some g', c', len') → g' < w.heap.size := fun l' ho g' c' len' hb => own_block R ho hb
  refine R.step (upd_ext hl) (upd_inn ..) (R.kept.trans ⟨hk.os, hk.tape, hk.output, hk.size, fun k h _ => hkk k h⟩) hk.size (Zs_new hl hnd hkk hk.size hg) ?_ ?_ R.size R.dfr ?_ ?_ ?_
  · intro l' hd
    rw [look_cons] at hd ⊢
    by_cases e : l = l'
    · rw [if_pos e, hnd] at hd; cases hd
    · rw [if_neg e] at hd ⊢
      exact ⟨rfl, fun f hf => hkk f (R.dlt hd hf)⟩
  · intro l' g' c' len' ho hb
    rw [upd_at] at hb
    split at hb
    · cases hb
      exact .inr hg
    · rename_i hne
      rw [look_cons, if_neg (fun e => hne e.symm)] at ho
      exact .inl ⟨l', c', len', ho, hb⟩
  · intro t v h
    rw [look_cons, if_neg (hodd t)] at h
    exact .inl ⟨h, rfl⟩
  · intro l'
    rw [look_cons]
    by_cases e : l = l'
    · subst e; rw [if_pos rfl]; exact .inr hc
    · rw [if_neg e]; exact .inl ⟨rfl, fun g' c' len' ho hb => hkk g' (hlo l' ho g' c' len' hb)⟩
  · intro l1 l2 g' c1 n1 c2 n2 h1 h2 e1 e2
    rw [upd_at] at e1 e2
    rw [look_cons] at h1 h2
    by_cases i1 : l1 = l <;> by_cases i2 : l2 = l
    · rw [i1, i2]
    · rw [if_pos i1] at e1
      rw [if_neg i2] at e2
      rw [if_neg (fun e => i2 e.symm)] at h2
      cases e1
      have := hlo l2 h2 _ _ _ e2
      omega
    · rw [if_neg i1] at e1
      rw [if_pos i2] at e2
      rw [if_neg (fun e => i1 e.symm)] at h1
      cases e2
      have := hlo l1 h1 _ _ _ e1
      omega
    · rw [if_neg i1] at e1
      rw [if_neg i2] at e2
      rw [if_neg (fun e => i1 e.symm)] at h1
      rw [if_neg (fun e => i2 e.symm)] at h2
      exact R.apart l1 l2 g' c1 n1 c2 n2 h1 h2 e1 e2

theorem Kept.alloc (w : World) (ob : Obj) : Kept (fun _ => False) w (w.alloc ob) :=
  ⟨rfl, rfl, rfl, by simp, fun k h _ => RowKit.Below.heap_alloc w ob k h⟩

theorem alloc_new (w : World) (ob : Obj) : (w.alloc ob).heap[w.heap.size]? = some ob := by
  show (w.heap.push ob)[w.heap.size]? = _
  simp

/-- A new variable or a literal's row. -/
theorem Rel.newMem (R : Rel ti N X Y w0 β σ a w) {l : Loc} {e : TypeId} {cs : List AVal} {vs : List Value} {n : Nat} (hl : β l = none) (hodd : ∀ t, l ≠ tmpL t) (hvs : VRs β w (Zs Y β σ w) cs vs)
    (hn : vs.length = n * sz (ti.at e).ty) (hm : n ≤ maxLen) : Rel ti N X Y w0 (upd β l (some w.heap.size, n, n)) ((l, .mem true e cs) :: σ) a (w.alloc (.cells vs.toArray e)) := by
  refine R.newObj hl rfl hodd (Kept.alloc w _) (Nat.le_refl _) ?_
  refine ⟨(some w.heap.size, n, n), by rw [upd_at, if_pos rfl], ⟨w.heap.size, vs, rfl, alloc_new w _, ?_, hn, rfl, hm⟩, fun h => by cases h⟩
  exact VRs_mono (upd_ext hl) (Zs_new hl rfl (fun k h => RowKit.Below.heap_alloc w _ k h) (by simp) (Nat.le_refl _)) hvs
end
end Go.Proofs.YtchdegcfohegfaaE
