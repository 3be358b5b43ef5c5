/- The engine, part 14: calls by contracts. -/
import Derived.Test.YtchdegcfohegfaaE13
namespace Go.Proofs.YtchdegcfohegfaaE
set_option linter.unusedVariables false
set_option linter.unusedSimpArgs false
set_option linter.unusedSectionVars false
open Pr

/-! ### contracts -/
def argsR (w : World) (Z : Nat → Prop) : List AVal → List Value → Prop
  | [], us => us = []
  | v :: vs, us => ∃ u us', us = u :: us' ∧ VR .nil w Z v u ∧ argsR w Z vs us'

/-- A result of the call's own: bs tells its rows. -/
def OwnR (w : World) (Z : Nat → Prop) : (t : Ty) → T t → List Value → List (Option Nat × Nat × Nat) → Prop
  | .int k, n, cs, bs => cs = [.int k n] ∧ bs = []
  | .bool, b, cs, bs => cs = [.bool b] ∧ bs = []
  | .str, s, cs, bs => cs = [.string s] ∧ bs = []
  | .slice e t, xs, cs, bs => ∃ b c, cs = [.slice (b.map fun g => ⟨g, 0, none⟩) xs.length (if b = none then 0 else c)] ∧ RowOk w Z e t xs (b, c, xs.length) ∧ bs = [(b, c, xs.length)]
  | .vslice e t, x, cs, bs => ∃ b c, cs = [.slice (b.map fun g => ⟨g, 0, none⟩) x.2 (if b = none then 0 else c)] ∧ x.2 ≤ x.1.length ∧ RowOk w Z e t x.1 (b, c, x.1.length) ∧ bs = [(b, c, x.1.length)]
  | .pair p q, x, cs, bs => ∃ c1 c2 b1 b2, cs = c1 ++ c2 ∧ bs = b1 ++ b2 ∧ OwnR w Z p x.1 c1 b1 ∧ OwnR w Z q x.2 c2 b2

def splitV : List (Ty × Bool) → List Value → List Value
  | [], _ => []
  | (t, g) :: r, cs => (bif g then Value.agg (cs.take (sz t)).toArray else (cs.headD undef)) :: splitV r (cs.drop (sz t))

def valOf (rts : List (Ty × Bool)) (cs : List Value) : Value :=
  match splitV rts cs with
  | [v] => v
  | vs => .tuple vs.toArray

def sizes : List (Ty × Bool) → Nat
  | [] => 0
  | (t, _) :: r => sz t + sizes r

/-- What is told of a result. -/
def ResR (S : Spec) (w w' : World) (Z0 : Nat → Prop) (r : T S.rt) (u : Value) : Prop :=
  ∃ cs, u = valOf S.rts cs ∧ cs.length = sizes S.rts ∧ (∀ p ∈ S.rts, p.2 = false → sz p.1 = 1) ∧
  if S.deep then ∃ F, RdO w' S.rt r cs F ∧ F.Nodup ∧ ∀ f ∈ F, w.heap.size ≤ f else
  if S.own then ∃ bs : List (Option Nat × Nat × Nat),
      OwnR w' (fun f => f < w'.heap.size ∧ (w.heap.size ≤ f ∨ Z0 f) ∧ ∀ c n, (some f, c, n) ∉ bs) S.rt r cs bs ∧
      (∀ g c n, (some g, c, n) ∈ bs → w.heap.size ≤ g) ∧
      (∀ (i j : Nat) g c n c' n', bs[i]? = some (some g, c, n) → bs[j]? = some (some g, c', n') → i = j)
    else ∃ F, Rd w' S.rt r cs F ∧ ∀ f ∈ F, f < w'.heap.size ∧ (w.heap.size ≤ f ∨ Z0 f)

def Meets (P : Program) (n : FuncId) (S : Spec) : Prop :=
  ∀ (k : Nat) (args : List AVal) (r : T S.rt) (vals : List Value) (w : World) (Z0 : Nat → Prop), (∀ g, Z0 g → g < w.heap.size) → S.f k args = some r → argsR w Z0 args vals →
    Calls P n vals.toArray w fun e w' => ∃ u, e = .returned u ∧ Kept (fun _ => False) w w' ∧ ResR S w w' Z0 r u

/-- A function without a body that the model runs at once. -/
def Now (P : Program) (n : FuncId) (S : Spec) : Prop :=
  ∀ (k : Nat) (args : List AVal) (r : T S.rt) (vals : List Value) (w : World) (Z0 : Nat → Prop), (∀ g, Z0 g → g < w.heap.size) → S.f k args = some r → argsR w Z0 args vals →
    ∃ u w', (callFunc n vals.toArray).run P w = .ok (.value u) w' ∧ Kept (fun _ => False) w w' ∧ ResR S w w' Z0 r u

/-- Arguments, of which some lead to lent places. -/
def argsB (β0 : Beta) (w : World) (Z : Nat → Prop) : List AVal → List Value → Prop
  | [], us => us = []
  | v :: vs, us => ∃ u us', us = u :: us' ∧ VR β0 w Z v u ∧ argsB β0 w Z vs us'
theorem argsB_of {β0 : Beta} {w : World} {Z : Nat → Prop} : ∀ {vs : List AVal} {us : List Value}, argsR w Z vs us → argsB β0 w Z vs us
  | [], _, h => h
  | _ :: _, _, ⟨u, us', e, h1, h2⟩ => ⟨u, us', e, VR_mono (fun _ _ h => by cases h) (fun _ h => ⟨h, rfl⟩) h1, argsB_of h2⟩
/-- What lies at a lent place. -/
def CellW (P : Program) (β0 : Beta) (w : World) (Z : Nat → Prop) (l : Loc) : Cell → Prop
  | .row _ e t xs => ∃ b, β0 l = some b ∧ RowOk w Z e t xs b
  | .mem _ e cs => ∃ b i, β0 l = some b ∧ P.info? e = some i ∧ MemOk β0 w Z e i.size cs b
  | .deep e t k xs op => ∃ b, β0 l = some b ∧ DeepOk β0 w Z e t k xs op b (β0.inn l)
  | _ => False
/-- What a lent place owns. -/
def OwnW (β0 : Beta) (c : Cell) (l : Loc) (g : Nat) : Prop := (∃ k n, β0 l = some (some g, k, n)) ∨ (isDeep c = true ∧ g ∈ β0.inn l)
structure LentOk (P : Program) (β0 : Beta) (w : World) (Z : Nat → Prop) (os : St) : Prop where
  cell : ∀ l c, (l, c) ∈ os → l ∈ pinL ∧ pinned c = true ∧ CellW P β0 w Z l c
  key : ∀ l c c', (l, c) ∈ os → (l, c') ∈ os → c = c'
  apart : ∀ l c l' c' g, (l, c) ∈ os → (l', c') ∈ os → OwnW β0 c l g → OwnW β0 c' l' g → l = l'
  aside : ∀ l c g, (l, c) ∈ os → OwnW β0 c l g → ¬ Z g
  full : ∀ l, β0 l ≠ none → ∃ c, (l, c) ∈ os
def lentB (β0 : Beta) (os : St) (g : Nat) : Prop := ∃ l c, (l, c) ∈ os ∧ OwnW β0 c l g
/-- A contract of a function that changes what it is lent. -/
def MeetsIO (P : Program) (n : FuncId) (rts : List (Ty × Bool)) (rt : Ty) (F : Nat → St → List AVal → Option (St × T rt)) : Prop :=
  ∀ (k : Nat) (os : St) (args : List AVal) (os' : St) (r : T rt) (vals : List Value) (w : World) (Z0 : Nat → Prop) (β0 : Beta), (∀ g, Z0 g → g < w.heap.size) → F k os args = some (os', r) → argsB β0 w Z0 args vals → LentOk P β0 w Z0 os →
    Calls P n vals.toArray w fun e w' => ∃ cs, e = .returned (valOf rts cs) ∧ cs.length = sizes rts ∧ (∀ p ∈ rts, p.2 = false → sz p.1 = 1) ∧ Kept (lentB β0 os) w w' ∧
      (∃ β1 : Beta, (∀ l, β1 l = β0 l) ∧ (∀ l c, (l, c) ∈ os' → (∃ c0, (l, c0) ∈ os) ∧ pinned c = true ∧ CellW P β1 w' (fun g => g < w'.heap.size ∧ (w.heap.size ≤ g ∨ Z0 g ∨ lentB β0 os g) ∧ ∀ l c, (l, c) ∈ os' → ¬ OwnW β1 c l g) l c) ∧
        (∀ l c g, (l, c) ∈ os' → OwnW β1 c l g → lentB β0 os g ∨ w.heap.size ≤ g) ∧
        (∀ l c l' c' g, (l, c) ∈ os' → (l', c') ∈ os' → OwnW β1 c l g → OwnW β1 c' l' g → l = l')) ∧
      ∃ G, Rd w' rt r cs G ∧ ∀ f ∈ G, f < w'.heap.size ∧ (w.heap.size ≤ f ∨ Z0 f)

structure EnvOk (P : Program) (env : Env) : Prop where
  ok : ∀ n S, env n = some S → match S.io with
    | none => (Meets P n S ∧ ∃ fn, P.funcs[n]? = some fn ∧ fn.body.isNone = false ∧ (fn.name == "runtime.NumGoroutine") = false) ∨ Now P n S
    | some io => MeetsIO P n S.rts S.rt io.G ∧ ∃ fn, P.funcs[n]? = some fn ∧ fn.body.isNone = false ∧ (fn.name == "runtime.NumGoroutine") = false

theorem argsR_forget {w : World} {Z : Nat → Prop} {views : Bool} : ∀ {vs : List AVal} {us : List Value}, argsR w Z vs us → argsR w Z (vs.map (forgetA views)) us
  | [], _, h => h
  | _ :: _, _, ⟨u, us', h0, h1, h2⟩ => ⟨u, us', h0, VR_forget h1, argsR_forget h2⟩

section
variable {P : Program} {ti : TI} {N : Nat} {X Y : Nat → Prop} {w0 w w' : World} {β β' : Beta} {σ σ' : St} {a a' : Act}

/-! ### what is handed over -/
/-- A row with own rows in it, read as a content. -/
theorem deep_slc {β'' : Beta} {Z Z' Z'' : Nat → Prop} {e : TypeId} {t : Ty} {xs : List (T t)} {b : Option Nat × Nat × Nat} {I : List Nat} {l : Loc} {u : Value} (hb : β l = some b) (hd : DeepOk β w Z'' e t 0 xs none b I) (hv : VR1 β w Z (.ref l none) u)
    (hg : ∀ g, b.1 = some g → Z' g) (hI : ∀ g ∈ I, Z' g) : VR1 β'' w Z' (.slc e t xs) u := by
  obtain ⟨bb, c, len, hb', hval⟩ := hv
  rw [hb] at hb'
  cases hb'
  obtain ⟨hlen, hlt, hd⟩ := hd
  have hlen : len = xs.length := hlen
  cases bb with
  | none =>
    obtain ⟨rfl, h1, h2⟩ := hval
    have hx : xs = [] := hd
    subst hx
    exact ⟨[], ⟨none, 0, rfl, Nat.le_refl _, .inl ⟨rfl, rfl⟩⟩, by simp⟩
  | some g =>
    obtain ⟨rfl, h1, h2⟩ := hval
    obtain ⟨_, _, cur, h3, h4, h5, h6, F, h7, h8, h9⟩ := hd
    rw [Nat.zero_mul, List.drop_zero, List.drop_zero] at h7
    obtain ⟨G, g1, g2⟩ := rowO_Rd h7
    have hl : ((none : Option Nat).getD len) = xs.length := hlen
    by_cases hx : xs = []
    · exact ⟨[], ⟨some ⟨g, 0, none⟩, c, by rw [hl], h4, .inl ⟨hx, rfl⟩⟩, by simp⟩
    · refine ⟨g :: G, ⟨some ⟨g, 0, none⟩, c, by rw [hl], h4, .inr ⟨hx, ⟨g, 0, none⟩, _, G, rfl, rfl, ?_, g2⟩⟩, ?_⟩
      · have := At_array (off := 0) h3 (xs.length * sz t)
        rwa [List.drop_zero] at this
      · intro f hf
        rcases List.mem_cons.1 hf with rfl | hf
        · exact hg _ rfl
        · exact hI f (h9 f (g1 f hf))

theorem snap1_sound {β'' : Beta} (R : Rel ti N X Y w0 β σ a w) {v x : AVal} {u : Value} (h : (snap1 ti v).E σ x) (hv : VR1 β w (Zs Y β σ w) v u) {Z' : Nat → Prop} (hZ : ∀ g, Zs Y β σ w g → Z' g) {L : Loc → Prop}
    (hL : ∀ l, L l → isObj (look σ l) = true → ∀ g c len, β l = some (some g, c, len) → Z' g) (hI : ∀ l, L l → isDeep (look σ l) = true → ∀ g ∈ β.inn l, Z' g) (hc : ∀ l, L l → ∀ l' ∈ innerOf (look σ l), L l') (hr : ∀ l ∈ refsOf v, L l) : VR1 β'' w Z' x u := by
  have old : (snap0 ti v).E σ x → VR1 β'' w Z' x u := fun h => snap0_sound R h hv hZ (fun l hl => hL l (hr l hl))
  cases v <;> first | exact old h | skip
  rename_i l n
  simp only [snap1, E_get] at h
  split at h
  · rename_i own e cs hcell
    simp only [E_bind] at h
    obtain ⟨ds, h1, h2⟩ := h
    split at h2
    · rename_i zs hz
      rw [E_ret] at h2
      subst h2
      have hl : L l := hr l (List.mem_singleton.2 rfl)
      have ho := R.obj l
      rw [hcell] at ho
      obtain ⟨b, hb, ⟨g, vs, g1, g2, g3, g4, g5, g6⟩, _⟩ := ho
      have hds : VRs β w Z' ds vs := snaps0_sound R hZ h1 g3 (fun l' hl' => hL l' (hc l hl l' (by rw [hcell]; exact hl')))
      have hdl := VRs_len hds
      obtain ⟨hzl, F, hr2, hF⟩ := Rd_encAll hz hds
      have hn : ds.length / sz (ti.at e).ty = b.2.1 := by rw [← hdl, g4]; exact Nat.mul_div_cancel _ (sz_pos _)
      rw [hn] at hzl
      have hrow : RowOk w Z' e (ti.at e).ty zs b := by
        refine ⟨by rw [hzl]; exact g5, ?_⟩
        rw [g1]
        refine ⟨vs.toArray, F, g2, by omega, g6, by simpa using g4, ?_, hF⟩
        rw [hzl, List.take_of_length_le (by simp; omega)]
        simpa using hr2
      exact row_view (Z := Z') (β := β) hb hrow (VR1_mono (fun _ _ h => h) (fun g hg => ⟨hZ g hg, rfl⟩) hv) (fun _ h => h) (fun g' hg' => hL l hl (by rw [hcell]; rfl) g' b.2.1 b.2.2 (by rw [hb, ← hg']))
    · exact (E_fail.1 h2).elim
  · rename_i own e t xs hcell
    refine old ?_
    simp only [snap0, E_get, hcell]
    exact h
  · rename_i e t k xs hcell
    cases hk : (Nat.beq k 0 && n.isNone) with
    | false => rw [hk] at h; exact (E_fail.1 h).elim
    | true =>
    rw [hk] at h
    simp only [cond_true, E_ret] at h
    subst h
    rw [Bool.and_eq_true] at hk
    obtain ⟨hk, hn⟩ := hk
    obtain rfl := Nat.eq_of_beq_eq_true hk
    cases n with
    | some m => cases hn
    | none =>
    have hl : L l := hr l (List.mem_singleton.2 rfl)
    have ho := R.obj l
    rw [hcell] at ho
    obtain ⟨b, hb, hdk⟩ := ho
    exact deep_slc hb hdk hv (fun g hg => hL l hl (by rw [hcell]; rfl) g b.2.1 b.2.2 (by rw [hb, ← hg])) (fun g hg => hI l hl (by rw [hcell]; rfl) g hg)
  · exact (E_fail.1 h).elim

theorem snaps_sound {β'' : Beta} (R : Rel ti N X Y w0 β σ a w) {Z' : Nat → Prop} (hZ : ∀ g, Zs Y β σ w g → Z' g) {L : Loc → Prop}
    (hL : ∀ l, L l → isObj (look σ l) = true → ∀ g c len, β l = some (some g, c, len) → Z' g) (hI : ∀ l, L l → isDeep (look σ l) = true → ∀ g ∈ β.inn l, Z' g) (hc : ∀ l, L l → ∀ l' ∈ innerOf (look σ l), L l') : ∀ {vs xs : List AVal} {us : List Value}, (snaps ti vs).E σ xs → VRs β w (Zs Y β σ w) vs us →
    (∀ l ∈ refsOf (.agg vs), L l) → VRs β'' w Z' xs us
  | [], xs, us, h, hv, hr => by rw [snaps, E_ret] at h; subst h; exact hv
  | v :: vs, xs, us, h, ⟨u, us', e, h1, h2, h3⟩, hr => by
    simp only [snaps, E_bind, E_ret] at h
    obtain ⟨x, g1, ys, g2, rfl⟩ := h
    refine ⟨u, us', e, snap1_sound R g1 h1 hZ hL hI hc (fun l hl => hr l ?_), h2, snaps_sound R hZ hL hI hc g2 h3 (fun l hl => hr l ?_)⟩
    · show l ∈ refsOf v ++ refsOf.refsOfs vs
      exact List.mem_append_left _ hl
    · show l ∈ refsOf v ++ refsOf.refsOfs vs
      exact List.mem_append_right _ hl

theorem refs_cut (cs : List AVal) (off n : Nat) : ∀ l ∈ refsOf (.agg (cutA cs off n)), l ∈ refsOf (.agg cs) := by
  have key : ∀ cs : List AVal, ∀ l, l ∈ refsOf (.agg cs) ↔ ∃ c ∈ cs, l ∈ refsOf c := by
    intro cs
    induction cs with
    | nil => intro l; show l ∈ ([] : List Loc) ↔ _; simp
    | cons c cs ih =>
      intro l
      show l ∈ refsOf c ++ refsOf (.agg cs) ↔ _
      rw [List.mem_append, ih]
      simp
  intro l hl
  rw [key] at hl ⊢
  obtain ⟨c, hc, h⟩ := hl
  exact ⟨c, List.mem_of_mem_drop (List.mem_of_mem_take hc), h⟩

theorem argA_sound (R : Rel ti N X Y w0 β σ a w) {raw : Bool} {t : TypeId} {v x : AVal} {u : Value} (h : (argA ti raw t v).E σ x) (hv : VR β w (Zs Y β σ w) v u) {Z' : Nat → Prop} (hZ : ∀ g, Zs Y β σ w g → Z' g) {L : Loc → Prop}
    (hL : ∀ l, L l → isObj (look σ l) = true → ∀ g c len, β l = some (some g, c, len) → Z' g) (hI : ∀ l, L l → isDeep (look σ l) = true → ∀ g ∈ β.inn l, Z' g) (hc : ∀ l, L l → ∀ l' ∈ innerOf (look σ l), L l') (hr : ∀ l ∈ refsOf v, L l) : VR .nil w Z' x u := by
  have old : ((snap1 ti v).bind fun x => .ret (bif raw then x else nil1 (ti.at t).ty x)).E σ x → VR1 β w (Zs Y β σ w) v u → VR .nil w Z' x u := fun h hv => by
    rw [E_bind] at h
    obtain ⟨y, h1, h2⟩ := h
    rw [E_ret] at h2
    subst h2
    cases raw with
    | true => exact VR_one_of (snap1_sound R h1 hv hZ hL hI hc hr)
    | false => exact VR_one_of (VR1_nil1 (snap1_sound R h1 hv hZ hL hI hc hr))
  cases v <;> first | exact old h hv | skip
  case agg cs =>
    simp only [argA, E_bind, E_ret] at h
    obtain ⟨xs, h1, rfl⟩ := h
    obtain ⟨us, rfl, h2⟩ := hv
    exact ⟨us, rfl, (VRs_nils (snaps_sound R hZ hL hI hc h1 h2 hr)).1⟩
  case ptr l off =>
    simp only [argA, E_get] at h
    split at h
    · rename_i own e cs hcell
      simp only [E_bind] at h
      obtain ⟨xs, h1, h2⟩ := h
      split at h2
      · rename_i y henc
        rw [E_ret] at h2
        subst h2
        have hl : L l := hr l (List.mem_singleton.2 rfl)
        have ho := R.obj l
        rw [hcell] at ho
        obtain ⟨b, hb, ⟨g, vs, g1, g2, g3, g4, g5, g6⟩, _⟩ := ho
        obtain ⟨g', c', len', hb', rfl⟩ := hv
        rw [hb'] at hb
        cases hb
        cases g1
        have h3 : VRs β w Z' xs ((vs.drop off).take (sz (ti.at t).ty)) := snaps_sound R hZ hL hI hc h1 (VRs_cut g3 off _) (fun l' hl' => hc l hl l' (by rw [hcell]; exact refs_cut cs off _ l' hl'))
        obtain ⟨ds, us, F, e1, hr2, hF, hrest⟩ := Rd_enc henc h3
        obtain rfl : us = [] := hrest
        rw [List.append_nil] at e1
        exact ⟨_, _, F, rfl, At_block g2 (sz (ti.at t).ty), by rw [e1]; exact hr2, hL l hl (by rw [hcell]; rfl) _ _ _ hb', hF⟩
      · exact (E_fail.1 h2).elim
    · exact (E_fail.1 h).elim
  case eptr l i s off =>
    simp only [argA, E_get] at h
    split at h
    · rename_i own e t' xs hcell
      split at h
      · rename_i u' y hsub
        cases hb2 : Nat.beq s (sz t') with
        | false => rw [hb2] at h; exact (E_fail.1 h).elim
        | true =>
          rw [hb2] at h
          obtain rfl := Nat.eq_of_beq_eq_true hb2
          simp only [cond_true, E_guard, E_ret] at h
          obtain ⟨hlt, rfl⟩ := h
          have hlt : i < xs.length := Nat.le_of_ble_eq_true hlt
          have hl : L l := hr l (List.mem_singleton.2 rfl)
          have ho := R.obj l
          rw [hcell] at ho
          obtain ⟨b, hb, hrow, _⟩ := ho
          obtain ⟨g', c', len', hb', rfl⟩ := hv
          rw [hb'] at hb
          cases hb
          obtain ⟨us, F, hat, hrd, hF⟩ := row_elem hrow hlt
          obtain ⟨_, F', hF', hA, hR⟩ := sub_sound hsub hat hrd
          rw [Addr.add_lit] at hA
          exact ⟨_, _, F', rfl, hA, hR, hL l hl (by rw [hcell]; rfl) _ _ _ hb', fun f hf => hZ f (hF f (hF' f hf))⟩
      · exact (E_fail.1 h).elim
    · rename_i e t' k xs hcell
      split at h
      · rename_i u' y hsub
        cases hb2 : Nat.beq s (sz t') with
        | false => rw [hb2] at h; exact (E_fail.1 h).elim
        | true =>
          rw [hb2] at h
          obtain rfl := Nat.eq_of_beq_eq_true hb2
          simp only [cond_true, E_guard, E_ret] at h
          obtain ⟨hlt, hki, rfl⟩ := h
          have hlt : i < xs.length := Nat.le_of_ble_eq_true hlt
          have hl : L l := hr l (List.mem_singleton.2 rfl)
          have ho := R.obj l
          rw [hcell] at ho
          obtain ⟨b, hb, hrow⟩ := ho
          obtain ⟨g', c', len', hb', rfl⟩ := hv
          rw [hb'] at hb
          cases hb
          obtain ⟨us, F, hat, hrd, hF⟩ := deep_elem hrow hlt (leK_iff.1 hki)
          obtain ⟨G, hG, hrd⟩ := RdO_Rd hrd
          obtain ⟨_, F', hF', hA, hR⟩ := sub_sound hsub hat hrd
          rw [Addr.add_lit] at hA
          exact ⟨_, _, F', rfl, hA, hR, hL l hl (by rw [hcell]; rfl) _ _ _ hb', fun f hf => hI l hl (by rw [hcell]; rfl) f (hF f (hG f (hF' f hf)))⟩
      · exact (E_fail.1 h).elim
    · exact (E_fail.1 h).elim
  all_goals
    simp only [argA, snap1, snap0, E_bind, E_fail, false_and, exists_false] at h

theorem argsA_sound (R : Rel ti N X Y w0 β σ a w) {raw : Bool} {Z' : Nat → Prop} (hZ : ∀ g, Zs Y β σ w g → Z' g) {L : Loc → Prop}
    (hL : ∀ l, L l → isObj (look σ l) = true → ∀ g c len, β l = some (some g, c, len) → Z' g) (hI : ∀ l, L l → isDeep (look σ l) = true → ∀ g ∈ β.inn l, Z' g) (hc : ∀ l, L l → ∀ l' ∈ innerOf (look σ l), L l') : ∀ {ts : List TypeId} {os : List Operand} {vs xs : List AVal}, (opds os).E σ vs → (argsA ti raw ts vs).E σ xs →
    (∀ l ∈ refsOf (.agg vs), L l) → argsR w Z' xs (os.map a.eval)
  | ts, [], vs, xs, h1, h2, hr => by
    rw [opds, E_ret] at h1
    subst h1
    cases ts with
    | nil => rw [argsA, E_ret] at h2; subst h2; rfl
    | cons => exact (E_fail.1 h2).elim
  | ts, o :: os, vs, xs, h1, h2, hr => by
    simp only [opds, E_bind, E_ret] at h1
    obtain ⟨v, g1, vs', g2, rfl⟩ := h1
    cases ts with
    | nil => exact (E_fail.1 h2).elim
    | cons t ts =>
      simp only [argsA, E_bind, E_ret] at h2
      obtain ⟨x, g3, xs', g4, rfl⟩ := h2
      refine ⟨_, _, rfl, argA_sound R g3 (opd_sound R g1) hZ hL hI hc (fun l hl => hr l ?_), argsA_sound R hZ hL hI hc g2 g4 (fun l hl => hr l ?_)⟩
      · show l ∈ refsOf v ++ refsOf.refsOfs vs'
        exact List.mem_append_left _ hl
      · show l ∈ refsOf v ++ refsOf.refsOfs vs'
        exact List.mem_append_right _ hl

theorem innersOf_spec : ∀ {ls r : List Loc}, (innersOf ls).E σ r → ∀ l ∈ ls, ∀ l' ∈ innerOf (look σ l), l' ∈ r
  | [], r, h => fun l hl => by cases hl
  | l :: ls, r, h => by
    simp only [innersOf, E_get, E_bind, E_ret] at h
    obtain ⟨r', h1, rfl⟩ := h
    intro l1 hl1 l' hl'
    rcases List.mem_cons.1 hl1 with rfl | hl1
    · exact List.mem_append_left _ hl'
    · exact List.mem_append_right _ (innersOf_spec h1 l1 hl1 l' hl')

theorem locsOf_append (a b : Ws) : locsOf (a ++ b) = locsOf a ++ locsOf b := by
  induction a with
  | nil => rfl
  | cons p a ih => obtain ⟨l, c⟩ := p; show l :: locsOf (a ++ b) = l :: locsOf a ++ locsOf b; rw [ih]; rfl

theorem freezeD_spec : ∀ {n : Nat} {ls : List Loc} {ws : Ws}, (freezeD n ls).E σ ws → FrzW σ ws ∧ (∀ l ∈ ls, l ∈ locsOf ws) ∧ ∀ l ∈ locsOf ws, ∀ l' ∈ innerOf (look σ l), l' ∈ locsOf ws
  | 0, ls, ws, h => by
    simp only [freezeD, E_bind] at h
    obtain ⟨r, h1, h2⟩ := h
    cases hr : r.isEmpty with
    | false => rw [hr] at h2; exact (E_fail.1 h2).elim
    | true =>
      rw [hr] at h2
      have h2 : (freezes ls).E σ ws := h2
      have hr0 : r = [] := List.isEmpty_iff.1 hr
      subst hr0
      refine ⟨(freezes_frz h2).1, (freezes_frz h2).2, fun l hl l' hl' => ?_⟩
      rw [freezes_locs h2] at hl
      have := innersOf_spec h1 l hl l' hl'
      cases this
  | n + 1, ls, ws, h => by
    simp only [freezeD, E_bind, E_ret] at h
    obtain ⟨vs, h1, r, h2, us, h3, rfl⟩ := h
    obtain ⟨f1, f2⟩ := freezes_frz h1
    obtain ⟨g1, g2, g3⟩ := freezeD_spec h3
    refine ⟨fun p hp => (List.mem_append.1 hp).elim (f1 p) (g1 p), fun l hl => by rw [locsOf_append]; exact List.mem_append_left _ (f2 l hl), fun l hl l' hl' => ?_⟩
    rw [locsOf_append] at hl ⊢
    rcases List.mem_append.1 hl with hl | hl
    · rw [freezes_locs h1] at hl
      exact List.mem_append_right _ (g2 l' (innersOf_spec h2 l hl l' hl'))
    · exact List.mem_append_right _ (g3 l hl l' hl')

/-! ### what is handed back -/
def extB (β : Beta) (l : Loc) : List (Option Nat × Nat × Nat) → Beta
  | [] => β
  | b :: bs => upd (extB β (l + 2) bs) l b

theorem extB_inn (bs : List (Option Nat × Nat × Nat)) : ∀ (l : Loc), (extB β l bs).inn = β.inn := by
  induction bs with
  | nil => intro l; rfl
  | cons b bs ih => intro l; exact ih (l + 2)
theorem extB_out (bs : List (Option Nat × Nat × Nat)) : ∀ (l l' : Loc), l' < l → extB β l bs l' = β l' := by
  induction bs with
  | nil => intro l l' _; rfl
  | cons b bs ih =>
    intro l l' h
    show upd (extB β (l + 2) bs) l b l' = _
    rw [upd_at]
    have h : Nat.lt l' l := h
    rw [if_neg (Nat.ne_of_lt h), ih (l + 2) l' (Nat.lt_of_lt_of_le h (Nat.le_add_right _ _))]

theorem extB_at (bs : List (Option Nat × Nat × Nat)) : ∀ (l l' : Loc), (∃ i, i < bs.length ∧ l' = l + 2 * i ∧ extB β l bs l' = bs[i]?) ∨ ((∀ i, i < bs.length → l' ≠ l + 2 * i) ∧ extB β l bs l' = β l') := by
  induction bs with
  | nil => intro l l'; exact .inr ⟨fun i h => by simp at h, rfl⟩
  | cons b bs ih =>
    intro l l'
    show (∃ i, i < bs.length + 1 ∧ l' = l + 2 * i ∧ upd (extB β (l + 2) bs) l b l' = (b :: bs)[i]?) ∨ _
    by_cases e : l' = l
    · left
      refine ⟨0, Nat.succ_pos _, e, ?_⟩
      rw [upd_at]
      rw [if_pos e]
      rfl
    · rcases ih (l + 2) l' with ⟨i, h1, h2, h3⟩ | ⟨h1, h2⟩
      · left
        refine ⟨i + 1, Nat.succ_lt_succ h1, ?_, ?_⟩
        · rw [h2, Nat.mul_add, Nat.mul_one, Nat.add_assoc, Nat.add_comm 2]
        · rw [upd_at]
          rw [if_neg e, h3]
          rfl
      · right
        refine ⟨fun i hi => ?_, ?_⟩
        · cases i with
          | zero => exact e
          | succ i =>
            have := h1 i (Nat.lt_of_succ_lt_succ hi)
            rw [Nat.mul_add, Nat.mul_one]
            intro e2
            exact this (by rw [e2, Nat.add_assoc, Nat.add_comm 2])
        · show upd (extB β (l + 2) bs) l b l' = β l'
          rw [upd_at]
          rw [if_neg e, h2]

theorem extB_ext {l : Loc} {bs : List (Option Nat × Nat × Nat)} (hf : ∀ i, i < bs.length → β (l + 2 * i) = none) : ∀ l' b, β l' = some b → extB β l bs l' = some b := by
  intro l' b h
  rcases extB_at (β := β) bs l l' with ⟨i, h1, h2, h3⟩ | ⟨h1, h2⟩
  · rw [h2, hf i h1] at h; cases h
  · rw [h2]; exact h

/-- The objects that come of a result: their places, their cells. -/
theorem outCells_own {Z : Nat → Prop} : ∀ {t : Ty} {x : T t} {cs : List Value} {bs} {l : Loc} {as os l'}, outCells true t x l = (as, os, l') → OwnR w' Z t x cs bs →
    l' = l + 2 * bs.length ∧ os.length = bs.length ∧ (∀ (i : Nat) b, bs[i]? = some b → ∃ e u xs, os[i]? = some (l + 2 * i, .row true e u xs) ∧ RowOk w' Z e u xs b ∧ (flatR true t = true → noSlice u = true)) ∧
    (∀ β2 : Beta, (∀ (i : Nat) b, bs[i]? = some b → β2 (l + 2 * i) = some b) → ∀ Z2 : Nat → Prop, VRs β2 w' Z2 as cs) := by
  intro t
  induction t with
  | pair p q hp hq =>
    intro x cs bs l as os l' h hr
    obtain ⟨c1, c2, b1, b2, rfl, rfl, h1, h2⟩ := hr
    simp only [outCells] at h
    rcases e1 : outCells true p x.1 l with ⟨ca, oa, l1⟩
    rw [e1] at h
    simp only at h
    rcases e2 : outCells true q x.2 l1 with ⟨cb, ob, l2⟩
    rw [e2] at h
    cases h
    obtain ⟨p1, p2, p3, p4⟩ := hp e1 h1
    obtain ⟨q1, q2, q3, q4⟩ := hq e2 h2
    refine ⟨by rw [q1, p1, List.length_append, Nat.mul_add, Nat.add_assoc], by rw [List.length_append, List.length_append, p2, q2], ?_, ?_⟩
    · intro i b hb
      by_cases hi : i < b1.length
      · rw [List.getElem?_append_left hi] at hb
        obtain ⟨e, u, xs, g1, g2, g3⟩ := p3 i b hb
        exact ⟨e, u, xs, by rw [List.getElem?_append_left (by rw [p2]; exact hi)]; exact g1, g2, fun hh => g3 (by simp only [flatR, Bool.and_eq_true] at hh; exact hh.1)⟩
      · rw [List.getElem?_append_right (by omega)] at hb
        obtain ⟨e, u, xs, g1, g2, g3⟩ := q3 _ b hb
        refine ⟨e, u, xs, ?_, g2, fun hh => g3 (by simp only [flatR, Bool.and_eq_true] at hh; exact hh.2)⟩
        rw [List.getElem?_append_right (by omega), p2, g1, p1]
        have : l + 2 * b1.length + 2 * (i - b1.length) = l + 2 * i := by
          rw [Nat.add_assoc, ← Nat.mul_add]
          congr 2
          omega
        rw [this]
    · intro β2 hβ2 Z2
      refine VRs_append (p4 β2 (fun i b hb => hβ2 i b ?_) Z2) (q4 β2 (fun i b hb => ?_) Z2)
      · rw [List.getElem?_append_left (List.getElem?_eq_some_iff.1 hb).1]; exact hb
      · have := hβ2 (b1.length + i) b (by rw [List.getElem?_append_right (by omega), Nat.add_sub_cancel_left]; exact hb)
        rw [Nat.mul_add, ← Nat.add_assoc, ← p1] at this
        exact this
  | slice e t _ =>
    intro x cs bs l as os l' h hr
    obtain ⟨b, c, rfl, h1, rfl⟩ := hr
    cases h
    refine ⟨rfl, rfl, ?_, ?_⟩
    · intro i b' hb
      cases i with
      | zero => simp at hb; subst hb; exact ⟨e, t, x, rfl, h1, fun hh => by simpa [flatR] using hh⟩
      | succ i => simp at hb
    · intro β2 hβ2 Z2
      refine ⟨_, [], rfl, ⟨b, c, x.length, hβ2 0 _ rfl, ?_⟩, by cases b <;> rfl, rfl⟩
      cases b with
      | none => exact ⟨by rw [show x = [] from h1.2]; rfl, by rw [show x = [] from h1.2]; rfl, rfl⟩
      | some g => exact ⟨rfl, Nat.le_refl _, by obtain ⟨_, cur, F, _, h2, _⟩ := h1; exact h2⟩
  | vslice e t _ =>
    intro x cs bs l as os l' h hr
    obtain ⟨b, c, rfl, h0, h1, rfl⟩ := hr
    cases h
    refine ⟨rfl, rfl, ?_, ?_⟩
    · intro i b' hb
      cases i with
      | zero => simp at hb; subst hb; exact ⟨e, t, x.1, rfl, h1, fun hh => by simpa [flatR] using hh⟩
      | succ i => simp at hb
    · intro β2 hβ2 Z2
      refine ⟨_, [], rfl, ⟨b, c, x.1.length, hβ2 0 _ rfl, ?_⟩, by cases b <;> rfl, rfl⟩
      cases b with
      | none =>
        have hx : x.1 = [] := h1.2
        rw [hx] at h0
        have h0 : x.2 = 0 := by simpa using h0
        exact ⟨by rw [h0]; rfl, by rw [hx]; rfl, h0⟩
      | some g => exact ⟨rfl, h0, by obtain ⟨_, cur, F, _, h2, _⟩ := h1; exact h2⟩
  | int k =>
    intro x cs bs l as os l' h hr
    obtain ⟨rfl, rfl⟩ := hr
    cases h
    exact ⟨rfl, rfl, fun i b hb => by simp at hb, fun β2 _ Z2 => ⟨_, [], rfl, rfl, rfl, rfl⟩⟩
  | bool =>
    intro x cs bs l as os l' h hr
    obtain ⟨rfl, rfl⟩ := hr
    cases h
    exact ⟨rfl, rfl, fun i b hb => by simp at hb, fun β2 _ Z2 => ⟨_, [], rfl, rfl, rfl, rfl⟩⟩
  | str =>
    intro x cs bs l as os l' h hr
    obtain ⟨rfl, rfl⟩ := hr
    cases h
    exact ⟨rfl, rfl, fun i b hb => by simp at hb, fun β2 _ Z2 => ⟨_, [], rfl, rfl, rfl, rfl⟩⟩

theorem outCells_frz : ∀ {t : Ty} {x : T t} {l : Loc} {as os l'}, outCells false t x l = (as, os, l') → as = cells t x ∧ os = [] := by
  intro t
  induction t with
  | pair p q hp hq =>
    intro x l as os l' h
    simp only [outCells] at h
    rcases e1 : outCells false p x.1 l with ⟨ca, oa, l1⟩
    rw [e1] at h
    simp only at h
    rcases e2 : outCells false q x.2 l1 with ⟨cb, ob, l2⟩
    rw [e2] at h
    cases h
    obtain ⟨rfl, rfl⟩ := hp e1
    obtain ⟨rfl, rfl⟩ := hq e2
    exact ⟨rfl, rfl⟩
  | _ => intro x l as os l' h; cases h; exact ⟨rfl, rfl⟩

theorem splitV_sound {Z : Nat → Prop} : ∀ {rts : List (Ty × Bool)} {as : List AVal} {cs : List Value}, VRs β w Z as cs → cs.length = sizes rts → (∀ p ∈ rts, p.2 = false → sz p.1 = 1) → VRt β w Z (splitVals rts as) (splitV rts cs)
  | [], as, cs, _, _, _ => rfl
  | (t, g) :: r, as, cs, h, hl, h1 => by
    refine ⟨_, _, rfl, ?_, splitV_sound (VRs_drop (sz t) h) ?_ (fun p hp => h1 p (List.mem_cons_of_mem _ hp))⟩
    · cases g with
      | true => exact ⟨_, rfl, VRs_take _ h⟩
      | false =>
        have hs := h1 (t, false) (List.mem_cons_self ..) rfl
        cases as with
        | nil =>
          have hc : cs = [] := h
          rw [hc] at hl
          simp [sizes] at hl
          have := sz_pos t
          omega
        | cons c as =>
          obtain ⟨u, us, rfl, h2, _⟩ := h
          show VR2 β w Z c u
          cases c <;> first | exact h2 | exact h2.elim
    · rw [List.length_drop, hl]
      simp [sizes]

theorem valOf_sound {Z : Nat → Prop} {rts : List (Ty × Bool)} {as : List AVal} {cs : List Value} (h : VRs β w Z as cs) (hl : cs.length = sizes rts) (h1 : ∀ p ∈ rts, p.2 = false → sz p.1 = 1) : VR β w Z (outVal rts as) (valOf rts cs) := by
  have hs := splitV_sound h hl h1
  match rts, hs with
  | [], hs => exact ⟨[], rfl, rfl⟩
  | [(t, g)], hs =>
    obtain ⟨u, us, e1, h2, h3⟩ := hs
    have e2 : valOf [(t, g)] cs = u := by
      have : splitV [(t, g)] cs = [(bif g then Value.agg (cs.take (sz t)).toArray else (cs.headD undef))] := rfl
      rw [this] at e1
      cases e1
      rfl
    rw [e2]
    exact VR2_of h2
  | p :: q :: r, hs => exact ⟨_, rfl, hs⟩
end
end Go.Proofs.YtchdegcfohegfaaE
