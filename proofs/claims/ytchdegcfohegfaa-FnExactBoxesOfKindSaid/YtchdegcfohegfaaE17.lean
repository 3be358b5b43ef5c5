/- The engine, part 17: a region that draws its order: whatever order is drawn, the state behind is that of the text's order. -/
import Derived.Test.YtchdegcfohegfaaE16
namespace Go.Proofs.YtchdegcfohegfaaE
set_option linter.unusedVariables false
set_option linter.unusedSimpArgs false
set_option linter.unusedSectionVars false
open Pr

abbrev Tr := List (Ws × List Loc)

/-- The writes of some operations, in the order given. -/
def wsOf (tr : Tr) (js : List Nat) : Ws := js.flatMap fun j => (tr.getD j ([], [])).1

theorem wsOf_append (tr : Tr) (a b : List Nat) : wsOf tr (a ++ b) = wsOf tr a ++ wsOf tr b := List.flatMap_append

theorem look_put_in {ws : Ws} : ∀ {σ τ : St} {l : Loc}, l ∈ locsOf ws → look (put σ ws) l = look (put τ ws) l := by
  induction ws with
  | nil => intro σ τ l h; cases h
  | cons p ws ih =>
    intro σ τ l h
    obtain ⟨l', c⟩ := p
    rw [put_cons, put_cons]
    by_cases hm : l ∈ locsOf ws
    · exact ih hm
    · rw [look_put_notin hm, look_put_notin hm, look_cons, look_cons]
      have : l' = l := by
        rcases List.mem_cons.1 h with e | e
        · exact e.symm
        · exact absurd e hm
      rw [if_pos this, if_pos this]

theorem look_put_congr {ws : Ws} {σ τ : St} {l : Loc} (h : look σ l = look τ l) : look (put σ ws) l = look (put τ ws) l := by
  by_cases hm : l ∈ locsOf ws
  · exact look_put_in hm
  · rw [look_put_notin hm, look_put_notin hm, h]

/-- Only those that write the place count. -/
theorem look_filter (tr : Tr) (l : Loc) : ∀ (js : List Nat) (σ τ : St), look σ l = look τ l → look (put σ (wsOf tr js)) l = look (put τ (wsOf tr (js.filter fun j => memN l (locsOf (tr.getD j ([], [])).1)))) l
  | [], σ, τ, h => h
  | j :: js, σ, τ, h => by
    have e1 : wsOf tr (j :: js) = (tr.getD j ([], [])).1 ++ wsOf tr js := rfl
    rw [e1, put_append]
    cases hm : memN l (locsOf (tr.getD j ([], [])).1) with
    | true =>
      rw [List.filter_cons_of_pos (by simpa using hm)]
      have e2 : wsOf tr (j :: js.filter fun j => memN l (locsOf (tr.getD j ([], [])).1)) = (tr.getD j ([], [])).1 ++ wsOf tr (js.filter fun j => memN l (locsOf (tr.getD j ([], [])).1)) := rfl
      rw [e2, put_append]
      exact look_filter tr l js _ _ (look_put_congr h)
    | false =>
      rw [List.filter_cons_of_neg (by simpa using hm)]
      refine look_filter tr l js _ _ ?_
      rw [look_put_notin (fun h => by rw [memN_iff.2 h] at hm; cases hm)]
      exact h

def onL (listed : Array Bool) (n : Nat) : List Nat := (List.range n).filter fun j => listed.getD j false

section
variable {P : Program} {ti : TI} {N : Nat} {X Y : Nat → Prop} {w0 w w' : World} {β β' : Beta} {σ σ' : St} {a a' : Act} {env : Env} {R' : Type}

theorem Rel.congr (R : Rel ti N X Y w0 β σ a w) (h : ∀ l, look σ' l = look σ l) : Rel ti N X Y w0 β σ' a w :=
  (R.less (fun t v hv => by rw [← h]; exact hv) (fun l => .inl (h l))).1

theorem Rel.drew (R : Rel ti N X Y w0 β σ a w) : Rel ti N X Y w0 β σ a w.drew := by
  refine R.step (fun _ _ h => h) rfl ⟨R.kept.os, R.kept.tape, R.kept.output, R.kept.size, R.kept.block⟩ (Nat.le_refl _) (fun g hg => ⟨⟨hg.1, hg.2, hg.3⟩, rfl⟩) (fun l h => ⟨rfl, fun _ _ => rfl⟩) (fun l g c n h hb => .inl ⟨l, c, n, h, hb⟩) R.size R.dfr (fun t v h => .inl ⟨h, rfl⟩) (fun l => .inl ⟨rfl, fun _ _ _ _ _ => rfl⟩) R.apart

/-- The run in the text's order, taken apart. -/
theorem runOps_chain {k tick : Nat} {all : List Oper} {r : R'} {κ : St → List (List Loc × List Loc) → Option R'} :
    ∀ {os : List Oper} {i : Nat} {σ : St} {acc}, runOps ti env N k tick all os i σ acc κ = some r →
      ∃ tr : Tr, tr.length = os.length ∧ (∀ (m : Nat) o, os[m]? = some o → dstOk N o = true ∧ oddW (tr.getD m ([], [])).1 = true ∧
        (stepA ti env k all (objL tick (64 * (i + m))) (i + m) o).Ev (put σ (wsOf tr (List.range m))) (tr.getD m ([], [])).1 (tr.getD m ([], [])).2) ∧
        κ (put σ (wsOf tr (List.range os.length))) (acc ++ tr.map fun p => (p.2.reverse, locsOf p.1)) = some r
  | [], i, σ, acc, h => ⟨[], rfl, fun m o ho => by simp at ho, by rw [List.map_nil, List.append_nil]; exact h⟩
  | o :: os, i, σ, acc, h => by
    unfold runOps at h
    cases hdo : dstOk N o with
    | false => rw [hdo] at h; cases h
    | true =>
    rw [hdo] at h
    simp only [cond_true] at h
    obtain ⟨ws, rs, h1, h2⟩ := run_ev h
    rw [List.append_nil] at h2
    cases ho : oddW ws with
    | false => rw [ho] at h2; cases h2
    | true =>
    rw [ho] at h2
    simp only [cond_true] at h2
    obtain ⟨tr, g1, g2, g3⟩ := runOps_chain h2
    have hshift : ∀ m, wsOf ((ws, rs) :: tr) (List.range (m + 1)) = ws ++ wsOf tr (List.range m) := by
      intro m
      rw [List.range_succ_eq_map]
      show ws ++ List.flatMap _ (List.map Nat.succ (List.range m)) = _
      rw [List.flatMap_map]
      rfl
    refine ⟨(ws, rs) :: tr, by simp [g1], ?_, ?_⟩
    · intro m o' hm
      cases m with
      | zero =>
        simp at hm
        subst hm
        exact ⟨hdo, ho, h1⟩
      | succ m =>
        obtain ⟨q1, q2, q3⟩ := g2 m o' (by simpa using hm)
        refine ⟨q1, q2, ?_⟩
        rw [hshift, put_append, show i + (m + 1) = i + 1 + m by omega]
        exact q3
    · rw [List.length_cons, hshift, put_append, List.map_cons]
      simpa using g3

theorem backB_spec : ∀ {os : List Oper} {i : Nat}, backB os i = true → ∀ (m : Nat) o, os[m]? = some o → ∀ e ∈ o.after, Region.binds .any e = true → e.on < i + m
  | [], i, h, m, o, ho => by simp at ho
  | o' :: os, i, h, m, o, ho => by
    simp only [backB, Bool.and_eq_true] at h
    intro e he hb
    cases m with
    | zero =>
      simp at ho
      subst ho
      have := List.all_eq_true.1 h.1 e (by simpa using he)
      rw [hb] at this
      simp only [Bool.not_true, Bool.false_or] at this
      exact Nat.le_of_ble_eq_true this
    | succ m =>
      have := backB_spec h.2 m o (by simpa using ho) e he hb
      omega

theorem addN_mem {y : Nat} : ∀ {xs l : List Nat}, y ∈ addN l xs → y ∈ l ∨ y ∈ xs
  | [], l, h => .inl h
  | x :: xs, l, h => by
    rcases addN_mem (xs := xs) h with h | h
    · cases hm : memN x l with
      | true => rw [hm] at h; exact .inl h
      | false =>
        rw [hm] at h
        rcases List.mem_cons.1 h with rfl | h
        · exact .inr (List.mem_cons_self ..)
        · exact .inl h
    · exact .inr (List.mem_cons_of_mem _ h)

theorem ancs_spec : ∀ {os : List Oper} {acc : List (List Nat)}, (∀ k, k < acc.length → (ancs os acc)[k]? = acc[k]?) ∧ (ancs os acc).length = acc.length + os.length ∧
    ∀ (m : Nat) o, os[m]? = some o → ∀ x ∈ (ancs os acc).getD (acc.length + m) [], ∃ e ∈ o.after, Region.binds .any e = true ∧ (x = e.on ∨ (e.on < acc.length + m ∧ x ∈ (ancs os acc).getD e.on []))
  | [], acc => ⟨fun k _ => rfl, rfl, fun m o h => by simp at h⟩
  | o :: os, acc => by
    show (∀ k, k < acc.length → (ancs os (acc ++ [_]))[k]? = acc[k]?) ∧ (ancs os (acc ++ [_])).length = _ ∧ _
    obtain ⟨h1, h2, h3⟩ := ancs_spec (os := os) (acc := acc ++ [addN [] (o.after.toList.flatMap fun e => bif Region.binds .any e then e.on :: acc.getD e.on [] else [])])
    refine ⟨fun k hk => ?_, by rw [h2]; simp; omega, ?_⟩
    · rw [h1 k (by simp; omega), List.getElem?_append_left hk]
    · intro m o' ho x hx
      cases m with
      | zero =>
        simp at ho
        subst ho
        have h4 := h1 acc.length (by simp)
        rw [List.getElem?_append_right (Nat.le_refl _), Nat.sub_self] at h4
        have hx : x ∈ (ancs os (acc ++ [addN [] (o.after.toList.flatMap fun e => bif Region.binds .any e then e.on :: acc.getD e.on [] else [])])).getD acc.length [] := hx
        rw [List.getD_eq_getElem?_getD, h4] at hx
        simp only [List.getElem?_cons_zero, Option.getD_some] at hx
        have hx := (addN_mem hx).resolve_left (by simp)
        simp only [List.mem_flatMap] at hx
        obtain ⟨e, he, hx⟩ := hx
        refine ⟨e, by simpa using he, ?_⟩
        cases hb : Region.binds .any e with
        | false => rw [hb] at hx; cases hx
        | true =>
          rw [hb] at hx
          refine ⟨rfl, ?_⟩
          rcases List.mem_cons.1 hx with hx | hx
          · exact .inl hx
          · right
            by_cases hlt : e.on < acc.length
            · refine ⟨by omega, ?_⟩
              show x ∈ (ancs os (acc ++ [_])).getD e.on []
              rw [List.getD_eq_getElem?_getD, h1 e.on (by simp; omega), List.getElem?_append_left hlt, ← List.getD_eq_getElem?_getD]
              exact hx
            · rw [List.getD_eq_getElem?_getD, List.getElem?_eq_none (by omega)] at hx
              cases hx
      | succ m =>
        obtain ⟨e, q1, q2, q3⟩ := h3 m o' (by simpa using ho) x (by
          have : (acc ++ [addN [] (o.after.toList.flatMap fun e => bif Region.binds .any e then e.on :: acc.getD e.on [] else [])]).length + m = acc.length + (m + 1) := by simp; omega
          rw [this]
          exact hx)
        refine ⟨e, q1, q2, q3.imp id (fun h => ⟨?_, h.2⟩)⟩
        have := h.1
        simp at this
        omega

theorem disj_spec {x y : List Nat} (h : disj x y = true) : ∀ l, l ∈ x → l ∉ y := by
  intro l hl hy
  have := List.all_eq_true.1 h l hl
  rw [memN_iff.2 hy] at this
  cases this

theorem apartB_spec {as : List (List Nat)} {acc : List (List Loc × List Loc)} (h : apartB as acc = true) {i j : Nat} (hij : i < j) (hj : j < acc.length) (hna : i ∉ as.getD j []) :
    (∀ l, l ∈ (acc.getD i ([], [])).2 → l ∉ (acc.getD j ([], [])).1 ∧ l ∉ (acc.getD j ([], [])).2) ∧ ∀ l, l ∈ (acc.getD j ([], [])).2 → l ∉ (acc.getD i ([], [])).1 := by
  have h1 := List.all_eq_true.1 (List.all_eq_true.1 h j (List.mem_range.2 hj)) i (List.mem_range.2 hij)
  rw [Bool.or_eq_true, Bool.and_eq_true, Bool.and_eq_true] at h1
  rcases h1 with h1 | ⟨⟨h1, h2⟩, h3⟩
  · exact absurd (memN_iff.1 h1) hna
  · exact ⟨fun l hl => ⟨disj_spec h1 l hl, disj_spec h2 l hl⟩, disj_spec h3⟩

theorem range_filter_lt {i n : Nat} (h : i ≤ n) : List.range i = (List.range n).filter fun j => decide (j < i) := by
  induction n with
  | zero => obtain rfl : i = 0 := Nat.le_zero.1 h; rfl
  | succ n ih =>
    rw [List.range_succ, List.filter_append]
    by_cases he : i = n + 1
    · subst he
      rw [List.filter_eq_self.2 (by intro a ha; have := List.mem_range.1 ha; simp; omega), List.range_succ]
      simp
    · rw [← ih (by omega)]
      have : ¬ n < i := by omega
      simp [this]

theorem objL_apart {tick i m : Nat} {j : Nat} (h1 : objL tick (64 * m) ≤ j) (h2 : j < objL tick (64 * m) + 128) (g1 : objL tick (64 * i) ≤ j) (g2 : j < objL tick (64 * i) + 128) : m = i := by
  have h1 : (2 * (tick * 65536 + 64 * m) + 1 : Nat) ≤ j := h1
  have h2 : j < (2 * (tick * 65536 + 64 * m) + 1 + 128 : Nat) := h2
  have g1 : (2 * (tick * 65536 + 64 * i) + 1 : Nat) ≤ j := g1
  have g2 : j < (2 * (tick * 65536 + 64 * i) + 1 + 128 : Nat) := g2
  omega

theorem objL_far {tick i n : Nat} {j : Nat} (hi : i < n) (h : objL tick (64 * n) ≤ j) (g : j < objL tick (64 * i) + 128) : False := by
  have h : (2 * (tick * 65536 + 64 * n) + 1 : Nat) ≤ j := h
  have g : j < (2 * (tick * 65536 + 64 * i) + 1 + 128 : Nat) := g
  omega

/-- A region that draws. -/
theorem runDraw_sound (hti : TiOk P ti) (henv : EnvOk P env) (hm : P.follows .mixedOrders = true) {k tick id : Nat} {ops : Array Oper} {r : R'} {κ : St → Option R'} {Q : Exit → Act → World → Prop}
    (hκ : ∀ σ' a' w' β', κ σ' = some r → Rel ti N X Y w0 β' σ' a' w' → SOdd σ' → (∀ j, objL tick (64 * ops.size) ≤ j → β' j = none) → Q .normal a' w')
    (h : runOps ti env N k tick ops.toList ops.toList 0 σ [] (fun σ' acc => bif backB ops.toList 0 && apartB (ancs ops.toList []) acc then κ σ' else none) = some r)
    (R : Rel ti N X Y w0 β σ a w) (hs : SOdd σ) (hf : ∀ j, objL tick 0 ≤ j → β j = none) : (Code.region id ops true).wp P Q a w := by
  obtain ⟨tr, htl, htr, hlast⟩ := runOps_chain h
  cases hck : (backB ops.toList 0 && apartB (ancs ops.toList []) ([] ++ tr.map fun p => (p.2.reverse, locsOf p.1))) with
  | false => rw [hck] at hlast; cases hlast
  | true =>
  rw [hck] at hlast
  simp only [cond_true] at hlast
  rw [Bool.and_eq_true, List.nil_append] at hck
  obtain ⟨hback, hap⟩ := hck
  have hn : tr.length = ops.size := by rw [htl]; simp
  have hacc : ∀ m, m < ops.size → (tr.map fun p => (p.2.reverse, locsOf p.1)).getD m ([], []) = ((tr.getD m ([], [])).2.reverse, locsOf (tr.getD m ([], [])).1) := by
    intro m hm
    have hm' : m < tr.length := by omega
    rw [List.getD_eq_getElem?_getD, List.getElem?_map, List.getElem?_eq_getElem hm', List.getD_eq_getElem?_getD, List.getElem?_eq_getElem hm']
    rfl
  have hop : ∀ (m : Nat) o, ops[m]? = some o → ops.toList[m]? = some o := fun m o h => by simpa using h
  -- closed under what each waits for
  have hanc : ∀ listed : Array Bool, (∀ (m : Nat) o, ops[m]? = some o → listed.getD m false = true → ∀ e ∈ o.after, Region.binds .any e = true → listed.getD e.on false = true) →
      ∀ m, m < ops.size → (∀ e ∈ (ops.getD m default).after, Region.binds .any e = true → listed.getD e.on false = true) → ∀ x ∈ (ancs ops.toList []).getD m [], listed.getD x false = true := by
    intro listed hcl m
    induction m using Nat.strongRecOn with
    | _ m ih =>
      intro hm hdir x hx
      have ho : ops[m]? = some (ops.getD m default) := by
        rw [Array.getD_eq_getD_getElem?, Array.getElem?_eq_getElem hm]
        rfl
      obtain ⟨_, _, h3⟩ := ancs_spec (os := ops.toList) (acc := [])
      obtain ⟨e, q1, q2, q3⟩ := h3 m _ (hop m _ ho) x (by simpa using hx)
      have hl := hdir e q1 q2
      rcases q3 with rfl | ⟨q3, q4⟩
      · exact hl
      · have hlt : e.on < m := by simpa using q3
        have hlt2 : e.on < ops.size := by omega
        refine ih e.on hlt hlt2 ?_ x q4
        have ho2 : ops[e.on]? = some (ops.getD e.on default) := by
          rw [Array.getD_eq_getD_getElem?, Array.getElem?_eq_getElem hlt2]
          rfl
        exact hcl e.on _ ho2 hl
  -- the invariant
  have key : ∀ (fuel : Nat) (listed : Array Bool) (a : Act) (w : World) (β : Beta), listed.size = ops.size → ((List.range ops.size).filter fun j => !listed.getD j false).length = fuel →
      (∀ (m : Nat) o, ops[m]? = some o → listed.getD m false = true → ∀ e ∈ o.after, Region.binds .any e = true → listed.getD e.on false = true) →
      Rel ti N X Y w0 β (put σ (wsOf tr (onL listed ops.size))) a w → (∀ m, m < ops.size → listed.getD m false = false → ∀ j, objL tick (64 * m) ≤ j → j < objL tick (64 * m) + 128 → β j = none) →
      (∀ j, objL tick (64 * ops.size) ≤ j → β j = none) → wpAny P .any ops Q fuel listed a w := by
    intro fuel
    -- all listed: done
    have fin : ∀ (listed : Array Bool) (a : Act) (w : World) (β : Beta), (∀ m, m < ops.size → listed.getD m false = true) → Rel ti N X Y w0 β (put σ (wsOf tr (onL listed ops.size))) a w → (∀ j, objL tick (64 * ops.size) ≤ j → β j = none) → Q .normal a w := by
      intro listed a w β hall R hfr
      have he : onL listed ops.size = List.range ops.size := List.filter_eq_self.2 (fun m hm => hall m (List.mem_range.1 hm))
      rw [he] at R
      rw [Array.length_toList] at hlast
      refine hκ _ a w β hlast R (hs.put ?_) hfr
      have : ∀ js : List Nat, (∀ j ∈ js, oddW (tr.getD j ([], [])).1 = true) → oddW (wsOf tr js) = true := by
        intro js
        induction js with
        | nil => intro _; rfl
        | cons j js ih =>
          intro h
          have happ : ∀ (x y : Ws), oddW x = true → oddW y = true → oddW (x ++ y) = true := by
            intro x
            induction x with
            | nil => exact fun y _ hy => hy
            | cons p x ihx =>
              intro y hx hy
              obtain ⟨l, c⟩ := p
              simp only [List.cons_append, oddW, Bool.and_eq_true] at hx ⊢
              exact ⟨hx.1, ihx y hx.2 hy⟩
          exact happ _ _ (h j (List.mem_cons_self ..)) (ih (fun j' h' => h j' (List.mem_cons_of_mem _ h')))
      refine this _ (fun j hj => ?_)
      have hj := List.mem_range.1 hj
      exact (htr j _ (hop j _ (Array.getElem?_eq_getElem hj))).2.1
    -- something is ready as long as not all is listed
    have prog : ∀ (listed : Array Bool), listed.size = ops.size → Region.ready .any ops listed = [] → ∀ m, m < ops.size → listed.getD m false = true := by
      intro listed hsz hr m
      induction m using Nat.strongRecOn with
      | _ m ih =>
        intro hm
        cases hl : listed.getD m false with
        | true => rfl
        | false =>
          have ho : ops[m]? = some ops[m] := Array.getElem?_eq_getElem hm
          have : m ∈ Region.ready .any ops listed := by
            rw [mem_ready]
            refine ⟨?_, _, ho, fun e he hb => ?_⟩
            · rw [Array.getD_eq_getD_getElem?] at hl ⊢
              rw [Array.getElem?_eq_getElem (by omega)] at hl ⊢
              exact hl
            · have := backB_spec hback m _ (hop m _ ho) e he hb
              exact ih e.on (by omega) (by omega)
          rw [hr] at this
          cases this
    induction fuel with
    | zero =>
      intro listed a w β hsz hfu hcl R hfr hfr2
      have hall : ∀ m, m < ops.size → listed.getD m false = true := by
        intro m hm
        cases hl : listed.getD m false with
        | true => rfl
        | false =>
          have : m ∈ (List.range ops.size).filter fun j => !listed.getD j false := List.mem_filter.2 ⟨List.mem_range.2 hm, by simp [hl]⟩
          rw [List.eq_nil_of_length_eq_zero hfu] at this
          cases this
      refine ⟨?_, fin listed a w β hall R hfr2⟩
      refine List.eq_nil_iff_forall_not_mem.2 (fun m hm => ?_)
      obtain ⟨h1, o, h2, _⟩ := mem_ready.1 hm
      have hlt : m < ops.size := (Array.getElem?_eq_some_iff.1 h2).1
      have := hall m hlt
      rw [Array.getD_eq_getD_getElem?, Array.getElem?_eq_getElem (by omega)] at h1 this
      simp only [Option.getD_some] at h1 this
      rw [this] at h1
      cases h1
    | succ fuel ih =>
      intro listed a w β hsz hfu hcl R hfr hfr2
      refine ⟨fun hr => fin listed a w β (prog listed hsz hr) R hfr2, fun i hi => ?_⟩
      obtain ⟨hun, o, ho, hdir⟩ := mem_ready.1 hi
      have hilt : i < ops.size := (Array.getElem?_eq_some_iff.1 ho).1
      have hun' : listed.getD i false = false := by
        rw [Array.getD_eq_getD_getElem?, Array.getElem?_eq_getElem (by omega)] at hun ⊢
        exact hun
      have hod : ops.getD i default = o := by rw [Array.getD_eq_getD_getElem?, ho]; rfl
      have hia := hanc listed hcl i hilt (by rw [hod]; exact hdir)
      obtain ⟨hdo, hodw, hev⟩ := htr i o (hop i o ho)
      rw [Nat.zero_add] at hev
      -- a listed one behind i does not wait for i
      have hbehind : ∀ m, m < ops.size → listed.getD m false = true → i ∉ (ancs ops.toList []).getD m [] := by
        intro m hm hl hx
        have ho2 : ops[m]? = some (ops.getD m default) := by
          rw [Array.getD_eq_getD_getElem?, Array.getElem?_eq_getElem hm]
          rfl
        have := hanc listed hcl m hm (hcl m _ ho2 hl) i hx
        rw [hun'] at this
        cases this
      -- what i looks at is as in the text's order
      have hreads : ∀ l ∈ (tr.getD i ([], [])).2, look (put σ (wsOf tr (onL listed ops.size))) l = look (put σ (wsOf tr (List.range i))) l := by
        intro l hl
        rw [look_filter tr l _ σ σ rfl, look_filter tr l (List.range i) σ σ rfl]
        congr 3
        unfold onL
        rw [range_filter_lt (Nat.le_of_lt hilt), List.filter_filter, List.filter_filter]
        refine List.filter_congr (fun m hm => ?_)
        have hm := List.mem_range.1 hm
        cases ht : memN l (locsOf (tr.getD m ([], [])).1) with
        | false => rfl
        | true =>
          simp only [Bool.true_and]
          have ht := memN_iff.1 ht
          rcases Nat.lt_trichotomy m i with hmi | rfl | hmi
          · have : m ∈ (ancs ops.toList []).getD i [] := by
              refine Classical.byContradiction fun hna => ?_
              have := (apartB_spec hap hmi (by simpa [hn] using hilt) hna).1 l (by rw [hacc m hm]; exact ht)
              rw [hacc i hilt] at this
              exact this.1 (by simpa using hl)
            rw [hia m this]
            simp [hmi]
          · rw [hun']; simp
          · have h1 : listed.getD m false = false := by
              cases hlm : listed.getD m false with
              | false => rfl
              | true =>
                have := (apartB_spec hap hmi (by simpa [hn] using hm) (hbehind m hm hlm)).2 l (by rw [hacc m hm]; exact ht)
                rw [hacc i hilt] at this
                exact absurd (by simpa using hl) this
            rw [h1]
            have : ¬ m < i := by omega
            simp [this]
      have hE : (stepA ti env k ops.toList (objL tick (64 * i)) i o).E (put σ (wsOf tr (onL listed ops.size))) (tr.getD i ([], [])).1 := ⟨_, ev_local hev hreads⟩
      have hsL : SOdd (put σ (wsOf tr (onL listed ops.size))) := by
        refine hs.put ?_
        have : ∀ js : List Nat, (∀ j ∈ js, oddW (tr.getD j ([], [])).1 = true) → oddW (wsOf tr js) = true := by
          intro js
          induction js with
          | nil => intro _; rfl
          | cons j js ih =>
            intro h
            have happ : ∀ (x y : Ws), oddW x = true → oddW y = true → oddW (x ++ y) = true := by
              intro x
              induction x with
              | nil => exact fun y _ hy => hy
              | cons p x ihx =>
                intro y hx hy
                obtain ⟨l, c⟩ := p
                simp only [List.cons_append, oddW, Bool.and_eq_true] at hx ⊢
                exact ⟨hx.1, ihx y hx.2 hy⟩
            exact happ _ _ (h j (List.mem_cons_self ..)) (ih (fun j' h' => h j' (List.mem_cons_of_mem _ h')))
        refine this _ (fun j hj => ?_)
        have hj := List.mem_range.1 (List.mem_filter.1 hj).1
        exact (htr j _ (hop j _ (Array.getElem?_eq_getElem hj))).2.1
      have hset : ∀ m, (listed.setIfInBounds i true).getD m false = if m = i then true else listed.getD m false := by
        intro m
        rw [Array.getD_eq_getD_getElem?, Array.getD_eq_getD_getElem?, Array.getElem?_setIfInBounds]
        by_cases e : m = i
        · subst e; rw [if_pos rfl, if_pos rfl, if_pos (by omega)]; rfl
        · rw [if_neg (fun h => e h.symm), if_neg e]
      show wpOp P ops Q i _ a w
      unfold wpOp
      rw [ho]
      refine stepA_sound (all := ops.toList) hti henv R hsL (dstOk_spec hdo) (hfr i hilt hun') hE (fun a' w' β' R2 hag => ?_)
      refine ih (listed.setIfInBounds i true) a' w' β' (by simpa using hsz) ?_ ?_ ?_ ?_ ?_
      · have h1 : ((List.range ops.size).filter fun j => !(listed.setIfInBounds i true).getD j false) = ((List.range ops.size).filter fun j => !listed.getD j false).filter fun j => decide (j ≠ i) := by
          rw [List.filter_filter]
          refine List.filter_congr (fun m _ => ?_)
          rw [hset]
          by_cases e : m = i
          · subst e; simp
          · simp [e]
        rw [h1]
        have h2 : i ∈ (List.range ops.size).filter fun j => !listed.getD j false := List.mem_filter.2 ⟨List.mem_range.2 hilt, by simp [hun']⟩
        have h3 : ((List.range ops.size).filter fun j => !listed.getD j false).Nodup := List.Nodup.sublist List.filter_sublist List.nodup_range
        have h4 : (((List.range ops.size).filter fun j => !listed.getD j false).filter fun j => decide (j ≠ i)) = ((List.range ops.size).filter fun j => !listed.getD j false).erase i := by
          rw [List.Nodup.erase_eq_filter h3]
          refine List.filter_congr (fun m _ => ?_)
          by_cases e : m = i <;> simp [e]
        rw [h4, List.length_erase_of_mem h2, hfu]
        rfl
      · intro m o' hm hl e he hb
        rw [hset] at hl ⊢
        by_cases e1 : e.on = i
        · rw [if_pos e1]
        · rw [if_neg e1]
          by_cases e2 : m = i
          · subst e2
            rw [ho] at hm
            cases hm
            exact hdir e he hb
          · rw [if_neg e2] at hl
            exact hcl m o' hm hl e he hb
      · refine R2.congr (fun l => ?_)
        by_cases hl : l ∈ locsOf (tr.getD i ([], [])).1
        · -- i is the last that writes it
          rw [look_filter tr l _ σ σ rfl]
          have hsp : ((onL (listed.setIfInBounds i true) ops.size).filter fun j => memN l (locsOf (tr.getD j ([], [])).1)) = ((List.range i).filter fun j => listed.getD j false && memN l (locsOf (tr.getD j ([], [])).1)) ++ [i] := by
            have h1 : (List.range i ++ [i]) = (List.range ops.size).filter fun j => decide (j < i + 1) := by
              rw [← range_filter_lt (by omega), List.range_succ]
            have h2 : ((List.range i).filter fun j => listed.getD j false && memN l (locsOf (tr.getD j ([], [])).1)) ++ [i] = (List.range i ++ [i]).filter fun j => (listed.setIfInBounds i true).getD j false && memN l (locsOf (tr.getD j ([], [])).1) := by
              rw [List.filter_append]
              congr 1
              · refine List.filter_congr (fun m hm => ?_)
                rw [hset, if_neg (by have := List.mem_range.1 hm; omega)]
              · rw [List.filter_cons_of_pos (by rw [hset, if_pos rfl, memN_iff.2 hl]; rfl)]
                rfl
            rw [h2, h1]
            unfold onL
            rw [List.filter_filter, List.filter_filter]
            refine List.filter_congr (fun m hm => ?_)
            have hm := List.mem_range.1 hm
            rw [hset]
            by_cases e : m = i
            · subst e; simp
            · rw [if_neg e]
              cases ht : memN l (locsOf (tr.getD m ([], [])).1) with
              | false => simp
              | true =>
                have ht := memN_iff.1 ht
                cases hlm : listed.getD m false with
                | false => simp
                | true =>
                  have : m < i + 1 := by
                    refine Classical.byContradiction fun hge => ?_
                    have hmi : i < m := by omega
                    have := (apartB_spec hap hmi (by simpa [hn] using hm) (hbehind m hm hlm)).1 l (by rw [hacc i hilt]; exact hl)
                    rw [hacc m hm] at this
                    exact this.2 ht
                  simp [this]
          rw [hsp, wsOf_append, put_append]
          have e9 : wsOf tr [i] = (tr.getD i ([], [])).1 := by simp [wsOf]
          rw [e9]
          exact look_put_in hl
        · rw [look_put_notin hl, look_filter tr l _ σ σ rfl, look_filter tr l (onL listed ops.size) σ σ rfl]
          congr 3
          unfold onL
          rw [List.filter_filter, List.filter_filter]
          refine List.filter_congr (fun m _ => ?_)
          rw [hset]
          by_cases e : m = i
          · subst e
            have : memN l (locsOf (tr.getD m ([], [])).1) = false := by
              cases hh : memN l (locsOf (tr.getD m ([], [])).1) with
              | false => rfl
              | true => exact absurd (memN_iff.1 hh) hl
            rw [this]
            rfl
          · rw [if_neg e]
      · intro m hm hl j h1 h2
        rw [hset] at hl
        by_cases e : m = i
        · rw [if_pos e] at hl; cases hl
        · rw [if_neg e] at hl
          rw [hag j, hfr m hm hl j h1 h2]
          rintro ⟨g1, g2⟩
          exact e (objL_apart h1 h2 g1 g2)
      · intro j hj
        rw [hag j, hfr2 j hj]
        rintro ⟨g1, g2⟩
        exact objL_far hilt hj g2
  refine wp_region_any hm ?_
  have hrep : ∀ m, (Array.replicate ops.size false).getD m false = false := by
    intro m
    rw [Array.getD_eq_getD_getElem?, Array.getElem?_replicate]
    split <;> rfl
  refine key ops.size (Array.replicate ops.size false) a _ β (by simp) ?_ (fun m o _ hl => by rw [hrep] at hl; cases hl) ?_ ?_ ?_
  · rw [List.filter_eq_self.2 (fun m _ => by rw [hrep]; rfl), List.length_range]
  · have : onL (Array.replicate ops.size false) ops.size = [] := List.filter_eq_nil_iff.2 (fun m _ => by rw [hrep]; simp)
    rw [this]
    exact R.drew
  · intro m _ _ j h1 _
    refine hf j (Nat.le_trans ?_ h1)
    unfold objL
    show 2 * (tick * 65536 + 0) + 1 ≤ 2 * (tick * 65536 + 64 * m) + 1
    omega
  · intro j h1
    refine hf j (Nat.le_trans ?_ h1)
    unfold objL
    show 2 * (tick * 65536 + 0) + 1 ≤ 2 * (tick * 65536 + 64 * ops.size) + 1
    omega
end
end Go.Proofs.YtchdegcfohegfaaE
