/- The engine, part 8: new variables and rows, stores, rows given away. -/
import Derived.Test.YtchdegcfohegfaaE7
namespace Go.Proofs.YtchdegcfohegfaaE
set_option linter.unusedVariables false
set_option linter.unusedSimpArgs false
set_option linter.unusedSectionVars false
open Pr

section
variable {P : Program} {ti : TI} {N : Nat} {X Y : Nat → Prop} {w0 w w' : World} {β β' : Beta} {σ σ' : St} {a a' : Act}

theorem sz_ud_agg (hti : TiOk P ti) : True := trivial

section
variable (hti : TiOk P ti) (R : Rel ti N X Y w0 β σ a w) {o : Oper} {new : Loc} (hd : ∀ t, o.dst = some t → t < N) {ws : Ws}
  (hodd : ∀ t, new ≠ tmpL t) (hf : ∀ j, new ≤ j → j < new + 128 → β j = none)
include hti R hd hodd hf

theorem hf0 : β new = none := hf new (Nat.le_refl _) (Nat.lt_add_of_pos_right (by decide))

theorem upd_same (b) : ∀ l, ¬ (new ≤ l ∧ l < new + 128) → upd β new b l = β l := by
  intro l hl
  rw [upd_at]
  rw [if_neg]
  rintro rfl
  exact hl ⟨Nat.le_refl _, Nat.lt_add_of_pos_right (by decide)⟩

theorem op_box {e : TypeId} {x : Operand} (ho : o.op = .box e x) (h : ((opd x).bind fun v => bif cellsOk v && ((ti.at e).ud.kn && Nat.beq (asCells v).length (sz (ti.at e).ty)) then Pr.ret ((new, Cell.mem true e (asCells v)) :: setTmp o.dst (.ptr new 0)) else .fail).E σ ws) : Sound P ti N X Y w0 β σ a w o new ws := by
  rw [E_bind] at h
  obtain ⟨v, h1, h2⟩ := h
  cases hb : (cellsOk v && ((ti.at e).ud.kn && Nat.beq (asCells v).length (sz (ti.at e).ty))) with
  | false => rw [hb] at h2; exact (E_fail.1 h2).elim
  | true =>
    rw [hb] at h2
    have h2 : (Pr.ret ((new, Cell.mem true e (asCells v)) :: setTmp o.dst (.ptr new 0))).E σ ws := h2
    rw [E_ret] at h2
    subst h2
    rw [Bool.and_eq_true, Bool.and_eq_true] at hb
    obtain ⟨b1, b2, b3⟩ := hb
    have hv := opd_sound R h1
    have hc := cells_of hv b1
    have hl := VRs_len hc
    rw [Nat.eq_of_beq_eq_true b3] at hl
    intro next Q hn
    have R2 := R.newMem (e := e) (n := 1) (hf0 hti R hd hodd hf) hodd hc (by rw [hl, Nat.one_mul]) (by simp [maxLen])
    have hrun : (execOp a.eval o).run P w = .ok (.value (.pointer (some ⟨w.heap.size, 0, none⟩))) (w.alloc (.cells (a.eval x).cells.toList.toArray e)) := by
      simp [execOp, ho, Instr.box, newVar, newRow, newObj, Sem.run]
    have R3 := R2.set (v := .ptr new 0) (u := .pointer (some ⟨w.heap.size, 0, none⟩)) hd ⟨w.heap.size, 1, 1, by rw [upd_at, if_pos rfl], rfl⟩
    rw [← put_cons] at R3
    exact wp_val hrun (hn _ _ _ R3 (upd_same hti R hd hodd hf _))

theorem op_alloc {e : TypeId} (ho : o.op = .alloc e) (h : (bif (ti.at e).ud.kn then Pr.ret ((new, Cell.mem true e (zeroA (ti.at e).ty)) :: setTmp o.dst (.ptr new 0)) else .fail).E σ ws) : Sound P ti N X Y w0 β σ a w o new ws := by
  cases hb : (ti.at e).ud.kn with
  | false => rw [hb] at h; exact (E_fail.1 h).elim
  | true =>
    rw [hb] at h
    have h2 : (Pr.ret ((new, Cell.mem true e (zeroA (ti.at e).ty)) :: setTmp o.dst (.ptr new 0))).E σ ws := h
    rw [E_ret] at h2
    subst h2
    intro next Q hn
    obtain ⟨i, z, h1, _, _, h2, h3⟩ := (hti.td e hb).info
    have R2 := R.newMem (e := e) (n := 1) (hf0 hti R hd hodd hf) hodd (VRs_zero (ti.at e).ty) (by rw [zeroC_len, Nat.one_mul]) (by simp [maxLen])
    have hrun : (execOp a.eval o).run P w = .ok (.value (.pointer (some ⟨w.heap.size, 0, none⟩))) (w.alloc (.cells (zeroC (ti.at e).ty).toArray e)) := by
      simp [execOp, ho, Instr.alloc, zeroValue, typeInfo, h1, h2, h3, newVar, newRow, newObj, Sem.run]
    have R3 := R2.set (v := .ptr new 0) (u := .pointer (some ⟨w.heap.size, 0, none⟩)) hd ⟨w.heap.size, 1, 1, by rw [upd_at, if_pos rfl], rfl⟩
    rw [← put_cons] at R3
    exact wp_val hrun (hn _ _ _ R3 (upd_same hti R hd hodd hf _))

theorem op_build {t : TypeId} {parts : Array (Nat × Operand)} (ho : o.op = .build t parts) (h : ((partsA parts.toList).bind fun ps => match (ti.at t).ud with
    | .struct fs => match fillA ti fs (zeroA (ti.at t).ty) ps with
      | some cs => Pr.ret (setTmp o.dst (.agg cs))
      | none => .fail
    | .arr _ e => match fillE (sz (ti.at e).ty) (zeroA (ti.at t).ty) ps with
      | some cs => .ret (setTmp o.dst (.agg cs))
      | none => .fail
    | _ => .fail).E σ ws) : Sound P ti N X Y w0 β σ a w o new ws := by
  rw [E_bind] at h
  obtain ⟨ps, h1, h2⟩ := h
  have hps := partsA_sound R h1
  split at h2
  · rename_i fs hs
    split at h2
    · rename_i cs hfl
      rw [E_ret] at h2
      subst h2
      obtain ⟨fields, hu, hfs⟩ := hti.und hs rfl
      obtain ⟨i, z, i1, _, _, i2, i3⟩ := (hti.td t (by rw [hs]; rfl)).info
      have hpl : (fields.map fun f => (f.offset, sz (ti.at f.type).ty)).toList = fs.map fun f => (f.1, sz (ti.at f.2).ty) := by
        rw [← hfs]; simp
      obtain ⟨xs, g1, g2⟩ := fillA_sound (ti := ti) hpl hps (VRs_zero (ti.at t).ty) hfl
      have hmap : (fields.mapM fun f => (do pure (f.offset, ← sizeOf f.type) : Sem (Nat × Nat))).run P w = .ok (fields.map fun f => (f.offset, sz (ti.at f.type).ty)) w := by
        rw [Array.mapM_eq_mapM_toList]
        have key : ∀ l : List Field, (∀ f ∈ l, (ti.at f.type).ud.kn = true) → ((l.mapM fun f => (do pure (f.offset, ← sizeOf f.type) : Sem (Nat × Nat))).run P w) = .ok (l.map fun f => (f.offset, sz (ti.at f.type).ty)) w := by
          intro l
          induction l with
          | nil => intro _; simp
          | cons f l ih =>
            intro hk
            have h3 := ih (fun g hg => hk g (List.mem_cons_of_mem _ hg))
            rw [List.mapM_cons]
            simp only [Sem.run_bind, Sem.run_pure, hti.size (hk f (List.mem_cons_self ..)), Result.andThen_ok, h3, List.map_cons]
        rw [Sem.run_map, key]
        · simp only [Result.andThen_ok]
          rw [← Array.toList_map, Array.toArray_toList]
        · intro f hff
          have : (f.offset, f.type) ∈ fs := by rw [← hfs]; exact List.mem_map.2 ⟨f, hff, rfl⟩
          exact hti.st t fs hs _ this
      refine sound_pure (u := .agg xs.toArray) R hd ⟨xs, rfl, g2⟩ ?_
      have hpe : (parts.map fun (x : Nat × Operand) => (x.1, a.eval x.2)).toList = parts.toList.map fun p => (p.1, a.eval p.2) := by simp
      simp only [execOp, ho, Instr.build, Sem.run_bind, zeroValue, typeInfo, program, Sem.run, Result.andThen_ok, i1, i2, Sem.run_pure, run_underlying hu, hmap, i3, hpe, g1]
    · exact (E_fail.1 h2).elim
  · rename_i n e hs
    split at h2
    · rename_i cs hfl
      rw [E_ret] at h2
      subst h2
      have hu : P.underlying t = _ := hti.und hs rfl
      obtain ⟨i, z, i1, _, _, i2, i3⟩ := (hti.td t (by rw [hs]; rfl)).info
      obtain ⟨xs, g1, g2, _⟩ := fillE_sound hps (VRs_zero (ti.at t).ty) hfl
      refine sound_pure (u := .agg xs.toArray) R hd ⟨xs, rfl, g2⟩ ?_
      have hpe : (parts.map fun (x : Nat × Operand) => (x.1, a.eval x.2)).toList = parts.toList.map fun p => (p.1, a.eval p.2) := by simp
      simp only [execOp, ho, Instr.build, Sem.run_bind, zeroValue, typeInfo, program, Sem.run, Result.andThen_ok, i1, i2, Sem.run_pure, run_underlying hu, hti.size (hti.ar t n e hs), i3, hpe, g1]
    · exact (E_fail.1 h2).elim
  · exact (E_fail.1 h2).elim

theorem op_buildSlice {t : TypeId} {n : Nat} {parts : Array (Nat × Operand)} (ho : o.op = .buildSlice t n parts) (h : ((partsA parts.toList).bind fun ps => match (ti.at t).ud with
    | .slice e => bif Nat.ble (n * sz (ti.at e).ty) 4096 then match fillE (sz (ti.at e).ty) (reps n (zeroA (ti.at e).ty)) ps with
      | some cs => Pr.ret ((new, Cell.mem true e cs) :: setTmp o.dst (.ref new none))
      | none => .fail else .fail
    | _ => .fail).E σ ws) : Sound P ti N X Y w0 β σ a w o new ws := by
  rw [E_bind] at h
  obtain ⟨ps, h1, h2⟩ := h
  have hps := partsA_sound R h1
  split at h2
  · rename_i e hs
    cases hle : Nat.ble (n * sz (ti.at e).ty) 4096 with
    | false => rw [hle] at h2; exact (E_fail.1 h2).elim
    | true =>
      rw [hle] at h2
      have hle := Nat.le_of_ble_eq_true hle
      have h2 : (match fillE (sz (ti.at e).ty) (reps n (zeroA (ti.at e).ty)) ps with
        | some cs => Pr.ret ((new, Cell.mem true e cs) :: setTmp o.dst (.ref new none))
        | none => .fail).E σ ws := h2
      split at h2
      · rename_i cs hfl
        rw [E_ret] at h2
        subst h2
        have hu : P.underlying t = _ := hti.slice hs
        have hk := hti.sl t e hs
        obtain ⟨i, z, i1, i4, _, i2, i3⟩ := (hti.td e hk).info
        obtain ⟨xs, g1, g2, g3⟩ := fillE_sound hps (reps_VRs (VRs_zero (ti.at e).ty) n) hfl
        have hzl := zeroC_len (ti.at e).ty
        have hsp := sz_pos (ti.at e).ty
        have hxl : xs.length = n * sz (ti.at e).ty := by rw [g3]; simp [List.length_flatten, hzl]
        have hnm : n ≤ maxLen := by
          have := Nat.le_mul_of_pos_right n hsp
          simp only [maxLen]
          omega
        intro next Q hn
        have R2 := R.newMem (e := e) (n := n) (hf0 hti R hd hodd hf) hodd g2 hxl hnm
        have hpe : (parts.map fun (x : Nat × Operand) => (x.1, a.eval x.2)).toList = parts.toList.map fun p => (p.1, a.eval p.2) := by simp
        have hmade : (Array.range (n * sz (ti.at e).ty)).map (fun j => (if n * sz (ti.at e).ty = 0 then (#[] : Array Value) else z.cells)[j % (if n * sz (ti.at e).ty = 0 then (#[] : Array Value) else z.cells).size]!) = ((List.replicate n (zeroC (ti.at e).ty)).flatten).toArray := by
          by_cases h0 : n * sz (ti.at e).ty = 0
          · have hn0 : n = 0 := by
              rcases Nat.mul_eq_zero.1 h0 with h | h
              · exact h
              · omega
            subst hn0
            simp
          · rw [if_neg h0]
            have := madeCells_rep (l := zeroC (ti.at e).ty) i3 (by omega) n
            rw [hzl] at this
            exact this
        have hrun : (execOp a.eval o).run P w = .ok (.value (.slice (some ⟨w.heap.size, 0, none⟩) n n)) (w.alloc (.cells xs.toArray e)) := by
          have h224 : ¬ n * sz (ti.at e).ty > 2 ^ 24 := by have : (2:Nat) ^ 24 = 16777216 := rfl; omega
          have h225 : ¬ (0 > 2 ^ 24) := by decide
          by_cases h0 : n * sz (ti.at e).ty = 0
          · rw [if_pos h0] at hmade
            simp only [execOp, ho, Instr.buildSlice, Sem.run_bind, run_underlying hu, Result.andThen_ok, hti.size hk, h224, h225, if_false, h0, if_true, Sem.run_pure]
            rw [h0] at hmade
            simp only [hpe, hmade, g1, newRow, newObj, Sem.run_bind, Sem.run, Result.andThen_ok, Sem.run_pure]
            rfl
          · rw [if_neg h0] at hmade
            simp only [execOp, ho, Instr.buildSlice, Sem.run_bind, run_underlying hu, Result.andThen_ok, hti.size hk, h224, if_false, h0, zeroValue, typeInfo, program, Sem.run, i1, i2, Sem.run_pure]
            simp only [hpe, hmade, g1, newRow, newObj, Sem.run_bind, Sem.run, Result.andThen_ok, Sem.run_pure]
            rfl
        have R3 := R2.set (v := .ref new none) (u := .slice (some ⟨w.heap.size, 0, none⟩) n n) hd ⟨some w.heap.size, n, n, by rw [upd_at, if_pos rfl], rfl, Nat.le_refl _, Nat.le_refl _⟩
        rw [← put_cons] at R3
        exact wp_val hrun (hn _ _ _ R3 (upd_same hti R hd hodd hf _))
      · exact (E_fail.1 h2).elim
  · exact (E_fail.1 h2).elim
end
end
end Go.Proofs.YtchdegcfohegfaaE
