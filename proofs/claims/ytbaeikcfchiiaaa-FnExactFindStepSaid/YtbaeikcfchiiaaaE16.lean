/- The engine, part 16: every operation; a region whose order is fixed. -/
import Derived.Test.YtbaeikcfchiiaaaE15
import Derived.Tactics
namespace Go.Proofs.YtbaeikcfchiiaaaE
set_option linter.unusedVariables false
set_option linter.unusedSimpArgs false
set_option linter.unusedSectionVars false
open Pr

def SOdd (σ : St) : Prop := ∀ l, isObj (look σ l) = true → l % 2 = 1

theorem SOdd.ne {σ : St} (h : SOdd σ) : ∀ l, isObj (look σ l) = true → ∀ t, l ≠ tmpL t := by
  intro l hl t e
  have := h l hl
  rw [e] at this
  unfold tmpL at this
  have h2 : 2 * t % 2 = 0 := Nat.mul_mod_right 2 t
  rw [h2] at this
  cases this

theorem SOdd.put {σ : St} (h : SOdd σ) : ∀ {ws : Ws}, oddW ws = true → SOdd (put σ ws) := by
  intro ws
  induction ws generalizing σ with
  | nil => exact fun _ => h
  | cons p ws ih =>
    intro hw
    obtain ⟨l', c⟩ := p
    simp only [oddW, Bool.and_eq_true, Bool.or_eq_true, Bool.not_eq_true'] at hw
    rw [put_cons]
    refine ih ?_ hw.2
    intro l hl
    rw [look_cons] at hl
    by_cases e : l' = l
    · rw [if_pos e] at hl
      rcases hw.1 with h1 | h1
      · rw [h1] at hl; cases hl
      · rw [← e]; exact Nat.eq_of_beq_eq_true h1
    · rw [if_neg e] at hl; exact h l hl

theorem objL_odd (tick i j t : Nat) : objL tick i + 2 * j ≠ tmpL t := by
  intro e
  have h1 : (2 * (tick * 65536 + i) + 1 + 2 * j) % 2 = 1 := by omega
  have h2 : (2 * t) % 2 = 0 := Nat.mul_mod_right 2 t
  unfold objL tmpL at e
  rw [e, h2] at h1
  cases h1

section
variable {P : Program} {ti : TI} {N : Nat} {X Y : Nat → Prop} {w0 w w' : World} {β β' : Beta} {σ σ' : St} {a a' : Act} {env : Env}

theorem opA_sound (hti : TiOk P ti) (henv : EnvOk P env) (R : Rel ti N X Y w0 β σ a w) (hs : SOdd σ) {o : Oper} {k tick i : Nat} (hd : ∀ t, o.dst = some t → t < N) {ws : Ws}
    (hf : ∀ j, objL tick i ≤ j → j < objL tick i + 128 → β j = none) (h : (opA ti env k (objL tick i) o).E σ ws) : Sound P ti N X Y w0 β σ a w o (objL tick i) ws := by
  have hodd : ∀ t, objL tick i ≠ tmpL t := fun t => objL_odd tick i 0 t
  have hodd2 := hs.ne
  unfold opA at h
  split at h
  · rename_i x ho; exact op_move hti R hd ho h
  · rename_i x ho; exact op_assign hti R hd ho h
  · rename_i c x y ho; exact op_pick hti R hd ho h
  · rename_i e ho; exact op_alloc hti R hd hodd hf ho h
  · rename_i e x ho; exact op_box hti R hd hodd hf ho h
  · rename_i t parts ho; exact op_build hti R hd hodd hf ho h
  · rename_i t n parts ho; exact op_buildSlice hti R hd hodd hf ho h
  · rename_i t x ho; exact op_load hti R hd ho h
  · rename_i t x y ho; exact op_store hti R hodd2 ho h
  · rename_i x ho; exact op_nilCheck hti R hd ho h
  · rename_i op t x y t' ho; exact op_bin hti R hd ho h
  · rename_i op t x ho; exact op_un hti R hd ho h
  · rename_i s d x ho; exact op_convert hti R hd ho h
  · rename_i t l c ho; exact op_makeSlice hti R hd hodd hf ho h
  · rename_i t x lo hi mx ho
    split at h
    · exact (E_fail.1 h).elim
    · simp only [E_bind] at h
      obtain ⟨v, h1, lv, h2, hv, h3, h4⟩ := h
      split at h4
      · rename_i hu; exact op_strSlice hti R hd hu ho h1 h2 h3 h4
      · rename_i e hu; exact op_sliceObj hti R hd hodd hf hodd2 hu ho h1 h2 h3 h4
      · exact (E_fail.1 h4).elim
  · rename_i s x f ho; exact op_fieldAddr hti R hd ho h
  · rename_i s x f ho; exact op_field hti R hd ho h
  · rename_i t x ix ho; exact op_indexAddr hti R hd ho h
  · rename_i t x ix ho; exact op_index hti R hd ho h
  · rename_i x ix ho; exact op_extract hti R hd ho h
  · rename_i c ho
    split at h
    · rename_i hc; exact op_len hti R hd hodd hf hc ho h
    · rename_i hc
      rw [E_bind] at h
      obtain ⟨vs, h1, h2⟩ := h
      split at h2
      · rename_i sv xv
        split at h2
        · rename_i t t' hts
          cases ht : Nat.beq t t' with
          | false => rw [ht] at h2; exact (E_fail.1 h2).elim
          | true =>
            rw [ht] at h2
            obtain rfl := Nat.eq_of_beq_eq_true ht
            simp only [cond_true] at h2
            split at h2
            · rename_i e hu
              have hlen := (opds_sound R h1).1
              obtain ⟨s, x, hx⟩ : ∃ s x, c.args.toList = [s, x] := by
                match hh : c.args.toList, hlen with
                | [x, y], _ => exact ⟨x, y, rfl⟩
              have hargs : c.args = #[s, x] := by rw [← Array.toList_inj, hx]
              have hats : c.argTypes = #[t, t] := by rw [← Array.toList_inj, hts]
              rw [hx] at h1
              simp only [opds, E_bind, E_ret] at h1
              obtain ⟨s', g1, xs', ⟨x', g2, nil', g3, rfl⟩, g4⟩ := h1
              cases g4
              refine op_append hti R hd hodd hf hodd2 (c := c) (s := s) (x := x) ?_ ho hu g1 g2 h2
              obtain ⟨cal, ar, at'⟩ := c
              simp only at hc hargs hats
              rw [hc, hargs, hats]
            · exact (E_fail.1 h2).elim
        · exact (E_fail.1 h2).elim
      · exact (E_fail.1 h2).elim
    · rename_i hc; exact op_minmax (least := false) hti R hd hodd hf hc ho h
    · rename_i hc; exact op_minmax (least := true) hti R hd hodd hf hc ho h
    · rename_i f hc; exact op_call hti henv R hd (fun j t => objL_odd tick i j t) hf hc ho h
    · exact (E_fail.1 h).elim
  · exact (E_fail.1 h).elim

/-! ### guards -/
theorem gtmp_spec {all : List Oper} {j t : Nat} (h : gtmp all j = some t) : (all.toArray[j]?).bind (·.dst) = some t := by
  unfold gtmp at h
  split at h
  · rename_i o r hd
    have : all[j]? = some o := by
      have := congrArg List.head? hd
      rw [List.head?_drop] at this
      simpa using this
    simp [this, h]
  · cases h

theorem yields_bool {all : List Oper} {j t : Nat} {b : Bool} (h : gtmp all j = some t) (hv : a.tmps.getD t undef = .bool b) : yielded all.toArray a.tmps j = some b := by
  unfold yielded
  rw [gtmp_spec h]
  have : a.tmps[t]? = some (.bool b) := by
    rw [Array.getD_eq_getD_getElem?] at hv
    cases h1 : a.tmps[t]? with
    | none => rw [h1] at hv; cases hv
    | some v => rw [h1] at hv; simpa using hv
  simp [this]

theorem yields_undef {all : List Oper} {j t : Nat} (h : gtmp all j = some t) (hv : a.tmps.getD t undef = undef) : yielded all.toArray a.tmps j = none := by
  unfold yielded
  rw [gtmp_spec h]
  cases h1 : a.tmps[t]? with
  | none => simp [h1]
  | some v =>
    rw [Array.getD_eq_getD_getElem?, h1] at hv
    have hv : v = undef := by simpa using hv
    subst hv
    simp [h1, undef]

/-- What is told apart: the same state. -/
theorem splitB_sound {ws ws' : Ws} (h : (splitB ws).E σ ws') : ws' = ws := by
  unfold splitB at h
  split at h
  · rename_i l b
    rw [E_ite, E_ret, E_ret] at h
    rcases h with ⟨rfl, rfl⟩ | ⟨rfl, rfl⟩ <;> rfl
  · exact (E_fail.1 h).elim

theorem stepA_sound (hti : TiOk P ti) (henv : EnvOk P env) (R : Rel ti N X Y w0 β σ a w) (hs : SOdd σ) {all : List Oper} {o : Oper} {k tick i n : Nat} (hd : ∀ t, o.dst = some t → t < N) {ws : Ws}
    (hf : ∀ j, objL tick i ≤ j → j < objL tick i + 128 → β j = none) (h : (stepA ti env k all (objL tick i) n o).E σ ws) {next : Act → World → Prop} {Q : Exit → Act → World → Prop}
    (hn : ∀ a' w' β', Rel ti N X Y w0 β' (put σ ws) a' w' → (∀ l, ¬ (objL tick i ≤ l ∧ l < objL tick i + 128) → β' l = β l) → next a' w') :
    if Region.wanted o (yielded all.toArray a.tmps) then o.wp P a w next Q ∨ (o.asks P a w ∧ LetsOut Q) else next (a.put o.dst undef) w := by
  have body : ∀ {ws : Ws}, (bif isGuard all n then (opA ti env k (objL tick i) o).bind splitB else opA ti env k (objL tick i) o).E σ ws → Sound P ti N X Y w0 β σ a w o (objL tick i) ws := by
    intro ws h
    cases hg : isGuard all n with
    | false => rw [hg] at h; exact opA_sound hti henv R hs hd hf h
    | true =>
      rw [hg] at h
      have h : ((opA ti env k (objL tick i) o).bind splitB).E σ ws := h
      rw [E_bind] at h
      obtain ⟨ws1, h1, h2⟩ := h
      rw [splitB_sound h2]
      exact opA_sound hti henv R hs hd hf h1
  have off : ws = setTmp o.dst .undef → next (a.put o.dst undef) w := by
    rintro rfl
    exact hn _ _ β (R.set hd rfl) (fun _ _ => rfl)
  unfold stepA at h
  simp only at h
  split at h
  · rename_i hg
    rw [show Region.wanted o (yielded all.toArray a.tmps) = true by unfold Region.wanted; rw [hg], if_pos rfl]
    exact .inl (body h next Q hn)
  · rename_i j want hg
    have hw : ∀ r, yielded all.toArray a.tmps j = r → Region.wanted o (yielded all.toArray a.tmps) = (r == some want) := by
      intro r hr
      unfold Region.wanted
      rw [hg]
      simp only [hr]
    split at h
    · rename_i t ht
      rw [E_get] at h
      split at h
      · rename_i b hlk
        have hv : a.tmps.getD t undef = .bool b := R.tmp t _ hlk
        have hy := hw _ (yields_bool ht hv)
        rw [E_ite] at h
        rcases h with ⟨he, h⟩ | ⟨he, h⟩
        · have : b = want := by cases b <;> cases want <;> simp_all [boolEq]
          subst this
          rw [hy]
          simp only [beq_self_eq_true, if_true]
          exact .inl (body h next Q hn)
        · have : b ≠ want := by cases b <;> cases want <;> simp_all [boolEq]
          rw [hy, show (some b == some want) = false by simpa using this]
          simp only [Bool.false_eq_true, if_false]
          rw [E_ret] at h
          exact off h.symm
      · rename_i hlk
        have hv : a.tmps.getD t undef = undef := R.tmp t _ hlk
        have hy := hw _ (yields_undef ht hv)
        rw [hy]
        simp only [show ((none : Option Bool) == some want) = false from rfl, Bool.false_eq_true, if_false]
        rw [E_ret] at h
        exact off h.symm
      · exact (E_fail.1 h).elim
    · exact (E_fail.1 h).elim

theorem dstOk_spec {o : Oper} (h : dstOk N o = true) : ∀ t, o.dst = some t → t < N := by
  intro t ht
  unfold dstOk at h
  rw [ht] at h
  exact Nat.le_of_ble_eq_true h

theorem objL_step (tick i : Nat) : objL tick (64 * (i + 1)) = objL tick (64 * i) + 128 := by unfold objL; show 2 * (tick * 65536 + 64 * (i + 1)) + 1 = 2 * (tick * 65536 + 64 * i) + 1 + 128; omega
theorem objL_next (tick n : Nat) (h : n ≤ 1024) : objL tick (64 * n) ≤ objL (tick + 1) 0 := by unfold objL; show 2 * (tick * 65536 + 64 * n) + 1 ≤ 2 * ((tick + 1) * 65536 + 0) + 1; omega

theorem run_E {α R' : Type} {p : Pr α} {rs0 : List Loc} {κ : α → List Loc → Option R'} {r : R'} (h : p.run σ rs0 κ = some r) : ∃ b rs, p.E σ b ∧ κ b rs = some r := by
  obtain ⟨b, rs, h1, h2⟩ := run_ev h
  exact ⟨b, _, ⟨rs, h1⟩, h2⟩

variable {R' : Type}

/-- A region in the order of its text. -/
theorem runOps_sound (hti : TiOk P ti) (henv : EnvOk P env) {k tick : Nat} {all : List Oper} {r : R'} {κ : St → List (List Loc × List Loc) → Option R'} {Q : Exit → Act → World → Prop} {n : Nat}
    (hκ : ∀ σ' acc a' w' β', κ σ' acc = some r → Rel ti N X Y w0 β' σ' a' w' → SOdd σ' → (∀ j, objL tick (64 * n) ≤ j → β' j = none) → Q .normal a' w') :
    ∀ {os : List Oper} {i : Nat} {σ : St} {acc} {a : Act} {w : World} {β : Beta}, i + os.length = n → runOps ti env N k tick all os i σ acc κ = some r → Rel ti N X Y w0 β σ a w → SOdd σ → (∀ j, objL tick (64 * i) ≤ j → β j = none) →
      wpList P all.toArray Q os a w
  | [], i, σ, acc, a, w, β, hi, h, R, hs, hf => by
    have : i = n := by simpa using hi
    subst this
    exact hκ σ acc a w β h R hs hf
  | o :: os, i, σ, acc, a, w, β, hi, h, R, hs, hf => by
    unfold runOps at h
    cases hdo : dstOk N o with
    | false => rw [hdo] at h; cases h
    | true =>
    rw [hdo] at h
    simp only [cond_true] at h
    obtain ⟨ws, rs, h1, h2⟩ := run_E h
    cases ho : oddW ws with
    | false => rw [ho] at h2; cases h2
    | true =>
    rw [ho] at h2
    simp only [cond_true] at h2
    refine stepA_sound hti henv R hs (i := 64 * i) (dstOk_spec hdo) (fun j h1 _ => hf j h1) h1 (fun a' w' β' R' hag => ?_)
    refine runOps_sound hti henv hκ (i := i + 1) (by simp only [List.length_cons] at hi; omega) h2 R' (hs.put ho) (fun j hj => ?_)
    rw [objL_step] at hj
    rw [hag j (fun hh => absurd hh.2 (Nat.not_lt.2 hj))]
    exact hf j (Nat.le_trans (Nat.le_add_right _ _) hj)
end
end Go.Proofs.YtbaeikcfchiiaaaE
