/- The engine, part 26: functions without a body: math/bits.Add64 and Sub64, as the model runs them. -/
import Derived.Test.YtchdegcfohegfaaE25
import Derived.Laws.Externs
import GoSem.Extern.BytealgCompare
import GoSem.Extern.MathBitsCarry
namespace Go.Proofs.YtchdegcfohegfaaE
set_option linter.unusedVariables false
set_option linter.unusedSimpArgs false

def add64R (x y c : Int) : Option (Int × Int) :=
  bif decide (c.toNat ≤ 1) then some (((((x.toNat + y.toNat + c.toNat) % 18446744073709551616 : Nat)) : Int), (((x.toNat + y.toNat + c.toNat) / 18446744073709551616 : Nat) : Int)) else none
def sub64R (x y c : Int) : Option (Int × Int) :=
  bif decide (c.toNat ≤ 1) then some ((((x.toNat + 18446744073709551616 - y.toNat - c.toNat) % 18446744073709551616 : Nat) : Int), ((if x.toNat < y.toNat + c.toNat then 1 else 0 : Nat) : Int)) else none

/-- The same, shut to the kernel. -/
noncomputable def add64 (x y c : Int) : Option (Int × Int) := Classical.choose (⟨add64R x y c, rfl⟩ : ∃ r, r = add64R x y c)
noncomputable def sub64 (x y c : Int) : Option (Int × Int) := Classical.choose (⟨sub64R x y c, rfl⟩ : ∃ r, r = sub64R x y c)
theorem add64_eq (x y c : Int) : add64 x y c = add64R x y c := Classical.choose_spec (⟨add64R x y c, rfl⟩ : ∃ r, r = add64R x y c)
theorem sub64_eq (x y c : Int) : sub64 x y c = sub64R x y c := Classical.choose_spec (⟨sub64R x y c, rfl⟩ : ∃ r, r = sub64R x y c)

def addE : Array Value → Sem Value := (Extern.MathBitsCarry.rows[0]'(by decide)).2
def subE : Array Value → Sem Value := (Extern.MathBitsCarry.rows[1]'(by decide)).2

theorem carry_cases {c : Int} (h : c.toNat ≤ 1) : c.toNat = 0 ∨ c.toNat = 1 := by omega

theorem addE_run {P : Program} {x y c : Int} {r} {w : World} (h : add64 x y c = some r) : (addE #[.int .u64 x, .int .u64 y, .int .u64 c]).run P w = .ok (.tuple #[.int .u64 r.1, .int .u64 r.2]) w := by
  rw [add64_eq] at h
  unfold add64R at h
  cases hc : decide (c.toNat ≤ 1) with
  | false => rw [hc] at h; cases h
  | true =>
    rw [hc] at h
    cases h
    have hc := of_decide_eq_true hc
    match c, hc with
    | .ofNat 0, _ => rfl
    | .ofNat 1, _ => rfl
    | .ofNat (n + 2), hc => exact absurd hc (by show ¬ (n + 2 ≤ 1); omega)
    | .negSucc n, _ => rfl
theorem subE_run {P : Program} {x y c : Int} {r} {w : World} (h : sub64 x y c = some r) : (subE #[.int .u64 x, .int .u64 y, .int .u64 c]).run P w = .ok (.tuple #[.int .u64 r.1, .int .u64 r.2]) w := by
  rw [sub64_eq] at h
  unfold sub64R at h
  cases hc : decide (c.toNat ≤ 1) with
  | false => rw [hc] at h; cases h
  | true =>
    rw [hc] at h
    cases h
    have hc := of_decide_eq_true hc
    match c, hc with
    | .ofNat 0, _ => rfl
    | .ofNat 1, _ => rfl
    | .ofNat (n + 2), hc => exact absurd hc (by show ¬ (n + 2 ≤ 1); omega)
    | .negSucc n, _ => rfl

def two64 (f : Nat → Int → Int → Int → Option (Int × Int)) : Spec :=
  ⟨false, [(.int .u64, false), (.int .u64, false)], true, .pair (.int .u64) (.int .u64), fun k xs => match xs with | [.int .u64 x, .int .u64 y, .int .u64 c] => f k x y c | _ => none, false, none, false⟩

theorem Kept.refl0 (w : World) : Kept (fun _ => False) w w := ⟨rfl, rfl, rfl, Nat.le_refl _, fun _ _ _ => rfl⟩

/-- A function without a body over three numbers, of two results. -/
theorem now_two64 {P : Program} {n : FuncId} {fn : Func} {e : Array Value → Sem Value} {f : Nat → Int → Int → Int → Option (Int × Int)} (hf : P.funcs[n]? = some fn) (hname : (fn.name == "runtime.NumGoroutine") = false)
    (hb : fn.body.isNone = true) (hn : Extern.findNext fn = none) (he : Extern.find fn = some e)
    (hrun : ∀ k x y c r w, f k x y c = some r → (e #[.int .u64 x, .int .u64 y, .int .u64 c]).run P w = .ok (.tuple #[.int .u64 r.1, .int .u64 r.2]) w) : Now P n (two64 f) := by
  intro k args r vals w Z0 hZ h hargs
  unfold two64 at h
  dsimp only at h
  split at h
  · rename_i x y c
    obtain ⟨u1, us, rfl, h1, u2, us, rfl, h2, u3, us, rfl, h3, h4⟩ := hargs
    obtain rfl : us = [] := h4
    obtain rfl : u1 = .int .u64 x := h1
    obtain rfl : u2 = .int .u64 y := h2
    obtain rfl : u3 = .int .u64 c := h3
    refine ⟨.tuple #[.int .u64 r.1, .int .u64 r.2], w, ?_, Kept.refl0 w, [.int .u64 r.1, .int .u64 r.2], rfl, rfl, ?_, ?_⟩
    · rw [run_callFunc_extern hf hname hb hn he]
      have := hrun k x y c r w h
      show ((e #[.int .u64 x, .int .u64 y, .int .u64 c]).run P w).andThen _ = _
      rw [this]
      rfl
    · intro p hp _
      simp only [two64, List.mem_cons, List.not_mem_nil, or_false, or_self] at hp
      subst hp
      rfl
    · rw [if_neg (show ¬ (two64 f).deep = true by simp [two64]), if_pos (show (two64 f).own = true from rfl)]
      exact ⟨[], ⟨_, _, [], [], rfl, rfl, ⟨rfl, rfl⟩, rfl, rfl⟩, fun _ _ _ h => by simp at h, fun _ _ _ _ _ _ _ h => by simp at h⟩
  · cases h
/-- The order of two strings, as the model has it. -/
def cmpS (a b : ByteArray) : Option Int := some (Extern.BytealgCompare.cmp a b)
def str2 (f : Nat → ByteArray → ByteArray → Option Int) : Spec :=
  ⟨false, [(.int .i64, false)], true, .int .i64, fun k xs => match xs with | [.str a, .str b] => f k a b | _ => none, false, none, false⟩
theorem cmpS_run {P : Program} {a b : ByteArray} {r : Int} {w : World} (h : cmpS a b = some r) : (Extern.BytealgCompare.compare #[.string a, .string b]).run P w = .ok (.int .i64 r) w := by
  unfold cmpS at h
  cases h
  rfl
/-- A function without a body over two strings. -/
theorem now_str2 {P : Program} {n : FuncId} {fn : Func} {e : Array Value → Sem Value} {f : Nat → ByteArray → ByteArray → Option Int} (hf : P.funcs[n]? = some fn) (hname : (fn.name == "runtime.NumGoroutine") = false)
    (hb : fn.body.isNone = true) (hn : Extern.findNext fn = none) (he : Extern.find fn = some e)
    (hrun : ∀ k a b r w, f k a b = some r → (e #[.string a, .string b]).run P w = .ok (.int .i64 r) w) : Now P n (str2 f) := by
  intro k args r vals w Z0 hZ h hargs
  unfold str2 at h
  dsimp only at h
  split at h
  · rename_i a b
    obtain ⟨u1, us, rfl, h1, u2, us, rfl, h2, h4⟩ := hargs
    obtain rfl : us = [] := h4
    obtain rfl : u1 = .string a := h1
    obtain rfl : u2 = .string b := h2
    refine ⟨.int .i64 r, w, ?_, Kept.refl0 w, [.int .i64 r], rfl, rfl, ?_, ?_⟩
    · rw [run_callFunc_extern hf hname hb hn he]
      have := hrun k a b r w h
      show ((e #[.string a, .string b]).run P w).andThen _ = _
      rw [this]
      rfl
    · intro p hp _
      simp only [str2, List.mem_cons, List.not_mem_nil, or_false] at hp
      subst hp
      rfl
    · rw [if_neg (show ¬ (str2 f).deep = true by simp [str2]), if_pos (show (str2 f).own = true from rfl)]
      exact ⟨[], ⟨rfl, rfl⟩, fun _ _ _ h => by simp at h, fun _ _ _ _ _ _ _ h => by simp at h⟩
  · cases h
/-- A function that calls itself: its contract by the rounds. -/
theorem meets_rec {P : Program} {n : FuncId} {views own : Bool} {rts : List (Ty × Bool)} {rt : Ty} {F : Nat → List AVal → Option (T rt)} (h0 : ∀ xs, F 0 xs = none)
    (hstep : ∀ j, Meets P n ⟨views, rts, own, rt, fun _ xs => F j xs, false, none, false⟩ → Meets P n ⟨views, rts, own, rt, fun k xs => bif Nat.beq k j then F (j + 1) xs else none, false, none, false⟩) : Meets P n ⟨views, rts, own, rt, F, false, none, false⟩ := by
  have all : ∀ j, Meets P n ⟨views, rts, own, rt, fun _ xs => F j xs, false, none, false⟩ := by
    intro j
    induction j with
    | zero =>
      intro k args r vals w Z0 hZ h
      have h : F 0 args = some r := h
      rw [h0] at h
      cases h
    | succ j ih =>
      intro k args r vals w Z0 hZ h ha
      exact hstep j ih j args r vals w Z0 hZ (by show (bif Nat.beq j j then F (j + 1) args else none) = some r; rw [Nat.beq_refl]; exact h) ha
  intro k args r vals w Z0 hZ h ha
  exact all k k args r vals w Z0 hZ h ha

/-! ### functions that change what they are lent -/
def finO (ti : TI) (σ : St) : List Loc → Option St
  | [] => some []
  | l :: ls => bif pinned (look σ l) && okC ti (look σ l) then match finO ti σ ls with
    | some r => some ((l, look σ l) :: r)
    | none => none else none
def finIO0 (ti : TI) (rvs : List ResultVar) (rts : List (Ty × Bool)) (rt : Ty) (ls : List Loc) (σ : St) : Option (St × T rt) := match finO ti σ ls with
  | some os => match finT ti false rvs rts rt σ with
    | some r => some (os, r)
    | none => none
  | none => none
def finIO (ti : TI) (rvs : List ResultVar) (rts : List (Ty × Bool)) (rt : Ty) (ls : List Loc) (σ : St) : Option (St × T rt) := finIO0 ti rvs rts rt ls (closeN ti 2 σ)
def finJ {C : Type} (ti : TI) (rvs : List ResultVar) (rts : List (Ty × Bool)) (rt : Ty) (ls : List Loc) (pick : St × T rt → Option (C × T rt)) (σ : St) : Option (C × T rt) := match finIO ti rvs rts rt ls σ with
  | some x => pick x
  | none => none
theorem finO_spec {ti : TI} {σ : St} : ∀ {ls : List Loc} {os : St}, finO ti σ ls = some os → (∀ l ∈ ls, pinned (look σ l) = true) ∧ ∀ l c, (l, c) ∈ os → l ∈ ls ∧ c = look σ l ∧ okC ti c = true
  | [], os, h => by
    have : os = [] := by simpa [finO] using h.symm
    subst this
    exact ⟨fun l h => (by cases h), fun l c h => (by cases h)⟩
  | l :: ls, os, h => by
    unfold finO at h
    cases hp : pinned (look σ l) && okC ti (look σ l) with
    | false => rw [hp] at h; cases h
    | true =>
      rw [hp] at h
      rw [Bool.and_eq_true] at hp
      simp only [cond_true] at h
      split at h
      · rename_i r hr
        cases h
        obtain ⟨g1, g2⟩ := finO_spec hr
        constructor
        · intro l' hl
          rcases List.mem_cons.1 hl with rfl | hl
          · exact hp.1
          · exact g1 l' hl
        · intro l' c hm
          rcases List.mem_cons.1 hm with e | hm
          · cases e; exact ⟨List.mem_cons_self .., rfl, hp.2⟩
          · obtain ⟨q1, q2, q3⟩ := g2 l' c hm
            exact ⟨List.mem_cons_of_mem _ q1, q2, q3⟩
      · cases h
theorem look_app : ∀ {os σ : St} {l : Loc}, (∃ c, (l, c) ∈ os ∧ look (os ++ σ) l = c) ∨ ((∀ c, (l, c) ∉ os) ∧ look (os ++ σ) l = look σ l)
  | [], σ, l => .inr ⟨fun c h => (by cases h), rfl⟩
  | (l', c') :: os, σ, l => by
    rw [List.cons_append, look_cons]
    by_cases e : l' = l
    · subst e
      exact .inl ⟨c', List.mem_cons_self .., if_pos rfl⟩
    · rw [if_neg e]
      rcases look_app (os := os) (σ := σ) (l := l) with ⟨c, h1, h2⟩ | ⟨h1, h2⟩
      · exact .inl ⟨c, List.mem_cons_of_mem _ h1, h2⟩
      · refine .inr ⟨fun c h => ?_, h2⟩
        rcases List.mem_cons.1 h with e2 | h
        · cases e2; exact e rfl
        · exact h1 c h
theorem argsB_len {β0 : Beta} {w : World} {Z : Nat → Prop} : ∀ {vs : List AVal} {us : List Value}, argsB β0 w Z vs us → us.length = vs.length
  | [], us, h => by have : us = [] := h; subst this; rfl
  | _ :: vs, us, ⟨u, us', e, _, h⟩ => by subst e; simp [argsB_len h]
theorem argsB_get {β0 : Beta} {w : World} {Z : Nat → Prop} : ∀ {vs : List AVal} {us : List Value} {j : Nat} {v : AVal}, argsB β0 w Z vs us → vs[j]? = some v → ∃ u, us[j]? = some u ∧ VR β0 w Z v u
  | [], us, j, v, _, h => by simp at h
  | _ :: vs, us, 0, v, ⟨u, us', e, h1, _⟩, h => by subst e; simp at h; subst h; exact ⟨u, rfl, h1⟩
  | _ :: vs, us, j + 1, v, ⟨u, us', e, _, h2⟩, h => by
    subst e
    obtain ⟨x, g1, g2⟩ := argsB_get h2 (by simpa using h)
    exact ⟨x, by simpa using g1, g2⟩

theorem meets_io_of_run {P : Program} {ti : TI} {N : Nat} {env : Env} (hti : TiOk P ti) (henv : EnvOk P env) (hm : P.follows .mixedOrders = true) {n : FuncId} {fn : Func} {body : Code} (hf : P.funcs[n]? = some fn) (hb : fn.body = some body) (hN : fn.ntmps = N)
    {rts : List (Ty × Bool)} {rt : Ty} {io : IO rt} {pick : St × T rt → Option (T io.c × T rt)} (hns : noSlice rt = true) (hpk : ∀ x q, pick x = some q → (io.out q.1, q.2) = x)
    (hrun : ∀ k os args x, io.F k os args = some x → args.length ≤ N ∧ (os.all fun p => okC ti p.2) = true ∧ ∃ hs : Hints, runFn ti env N hs (finJ ti fn.results.toList rts rt (os.map Prod.fst) pick) k body (os ++ initS 0 args) = some x) : MeetsIO P n rts rt io.G := by
  intro k os args os' r vals w Z0 β0 hZ0 hF hargs hlent
  obtain ⟨q, hF, hq⟩ := IO.G_to hF
  obtain ⟨hlen, hok, hs, h⟩ := hrun k os args _ hF
  have hvl := argsB_len hargs
  intro cs
  let b : Frame := { (default : Frame) with fn := n, kind := .normal }
  let a0 : Act := { tmps := vals.toArray ++ Array.replicate (fn.ntmps - vals.toArray.size) undef, defers := [] }
  have henter : Frame.enter P n vals.toArray .normal = b.at a0 [.code body] := by
    simp [Frame.enter, Frame.at, hf, hb, b, a0]
  let X : Nat → Prop := fun g => lentB β0 os g ∨ ∃ l c b, (l, c) ∈ os ∧ β0 l = some b ∧ g = w.heap.size + bcode l b
  let Y : Nat → Prop := fun g => w.heap.size ≤ g ∨ Z0 g ∨ lentB β0 os g
  have hpl : ∀ l c, (l, c) ∈ os → 3 ≤ l ∧ l < 33 ∧ l % 2 = 1 := fun l c hm => by
    have : ∀ l ∈ pinL, 3 ≤ l ∧ l < 33 ∧ l % 2 = 1 := by decide
    exact this l (hlent.cell l c hm).1
  have htmp : ∀ t c, (tmpL t, c) ∉ os := fun t c hm => by
    have h : (2 * t : Nat) % 2 = 1 := (hpl _ c hm).2.2
    rw [Nat.mul_mod_right] at h
    cases h
  have hb0 : ∀ l c, (l, c) ∈ os → ∃ b, β0 l = some b := by
    intro l c hm
    have := (hlent.cell l c hm).2.2
    cases c with
    | row own e t xs => obtain ⟨b, h1, _⟩ := this; exact ⟨b, h1⟩
    | mem own e cs => obtain ⟨b, i, h1, _⟩ := this; exact ⟨b, h1⟩
    | deep e t k xs op => obtain ⟨b, h1, _⟩ := this; exact ⟨b, h1⟩
    | dead => exact this.elim
    | val v => exact this.elim
  have hlt : ∀ g, lentB β0 os g → g < w.heap.size := by
    rintro g ⟨l, c, hm, ho⟩
    have := (hlent.cell l c hm).2.2
    rcases ho with ⟨k', n', e1⟩ | ⟨e1, e2⟩
    · cases c with
      | row own e t xs =>
        obtain ⟨b, h1, _, h2⟩ := this
        rw [e1] at h1
        cases h1
        obtain ⟨cur, F, h3, _⟩ := h2
        exact (Array.getElem?_eq_some_iff.1 h3).1
      | mem own e cs =>
        obtain ⟨b, i, h1, _, g', vs, h2, h3, _⟩ := this
        rw [e1] at h1
        cases h1
        cases h2
        exact (Array.getElem?_eq_some_iff.1 h3).1
      | deep e t k xs op =>
        obtain ⟨b, h1, _, _, h2⟩ := this
        rw [e1] at h1
        cases h1
        obtain ⟨_, _, cur, hh, _⟩ := h2
        exact (Array.getElem?_eq_some_iff.1 hh).1
      | dead => exact this.elim
      | val v => exact this.elim
    · cases c with
      | deep e t k xs op =>
        obtain ⟨b, h1, _, h2, _⟩ := this
        exact h2 g e2
      | _ => cases e1
  have hown : ∀ l, isOwn (look (os ++ initS 0 args) l) = true → ∃ c, (l, c) ∈ os ∧ look (os ++ initS 0 args) l = c := by
    intro l hl
    rcases look_app (os := os) (σ := initS 0 args) (l := l) with h1 | ⟨_, h2⟩
    · exact h1
    · rw [h2] at hl
      have hne : look (initS 0 args) l ≠ .dead := fun e => by rw [e] at hl; cases hl
      obtain ⟨j, v, _, _, e⟩ := initS_look rfl hne
      rw [e] at hl
      cases hl
  have hows : ∀ l g, Owns β0 (os ++ initS 0 args) l g → ∃ c, (l, c) ∈ os ∧ OwnW β0 c l g := by
    intro l g h
    obtain ⟨c, hm, hlk⟩ := hown l h.own
    rcases h with ⟨_, k', n', h1⟩ | ⟨h1, h2⟩
    · exact ⟨c, hm, .inl ⟨k', n', h1⟩⟩
    · rw [hlk] at h1; exact ⟨c, hm, .inr ⟨h1, h2⟩⟩
  have hZs : ∀ g, Z0 g → Zs Y β0 (os ++ initS 0 args) w g := fun g hg => .of (hZ0 g hg) (.inr (.inl hg)) (fun l ho => by
    obtain ⟨cc, hm, h⟩ := hows l g ho
    exact hlent.aside l cc g hm h hg)
  have oX : ∀ l g, Owns β0 (os ++ initS 0 args) l g → w.heap.size ≤ g ∨ X g := fun l g h => by
    obtain ⟨c, hm, ho⟩ := hows l g h
    exact .inr (.inl ⟨l, c, hm, ho⟩)
  have oap : ∀ l l' g, Owns β0 (os ++ initS 0 args) l g → Owns β0 (os ++ initS 0 args) l' g → l = l' := fun l l' g h h' => by
    obtain ⟨c, hm, ho⟩ := hows l g h
    obtain ⟨c', hm', ho'⟩ := hows l' g h'
    exact hlent.apart l c l' c' g hm hm' ho ho'
  have hR : Rel ti N X Y w β0 (os ++ initS 0 args) a0 w := by
    refine ⟨.refl _ _, fun g hg => .inl hg, fun g hg => ?_, ?_, rfl, ?_, ?_, fun l g c n' hl hb2 => oX l g (.inl ⟨hl, c, n', hb2⟩), fun l l' g c n' c' n'' hl hl' hb1 hb2 => oap l l' g (.inl ⟨hl, c, n', hb1⟩) (.inl ⟨hl', c', n'', hb2⟩), fun l b hl hx => ?_,
      fun l g hl hm => oX l g (.inr ⟨hl, hm⟩), fun l l' g hl hl' hm hm' => oap l l' g (.inr ⟨hl, hm⟩) (.inr ⟨hl', hm'⟩), fun l l' g c n' hl hb2 hl' hm => ?_⟩
    rotate_right
    · have e := oap l l' g (.inl ⟨hl, c, n', hb2⟩) (.inr ⟨hl', hm⟩)
      subst e
      obtain ⟨cc, hmm, hlk⟩ := hown l hl
      have := (hlent.cell l cc hmm).2.2
      rw [hlk] at hl'
      cases cc with
      | deep e t k xs op =>
        obtain ⟨b, h1, _, _, h2⟩ := this
        rw [hb2] at h1
        cases h1
        exact h2.1 hm
      | _ => cases hl'
    · rcases hg with h1 | ⟨l, c, b, _, _, rfl⟩
      · exact .inr (.inr h1)
      · exact .inl (Nat.le_add_right _ _)
    · show (vals.toArray ++ Array.replicate (fn.ntmps - vals.toArray.size) undef).size = N
      simp only [Array.size_append, List.size_toArray, Array.size_replicate]
      omega
    · intro t v hv
      rcases look_app (os := os) (σ := initS 0 args) (l := tmpL t) with ⟨c, h1, _⟩ | ⟨_, h2⟩
      · exact absurd h1 (htmp t c)
      · rw [h2] at hv
        obtain ⟨j, v', h1, h2, h3⟩ := initS_look hv (by simp)
        cases h3
        rw [Nat.zero_add] at h2
        obtain rfl := tmpL_inj h2
        obtain ⟨u, h4, h5⟩ := argsB_get hargs h1
        have : a0.tmps.getD t undef = u := by
          show (vals.toArray ++ Array.replicate (fn.ntmps - vals.toArray.size) undef).getD t undef = u
          have hlt : t < vals.length := (List.getElem?_eq_some_iff.1 h4).1
          rw [Array.getD_eq_getD_getElem?, Array.getElem?_append_left (by simpa using hlt), List.getElem?_toArray, h4]
          rfl
        rw [this]
        exact VR_mono (fun _ _ h => h) (fun g hg => ⟨hZs g hg, rfl⟩) h5
    · intro l
      rcases look_app (os := os) (σ := initS 0 args) (l := l) with ⟨c, h1, h2⟩ | ⟨_, h2⟩
      · rw [h2]
        obtain ⟨_, hp, hw⟩ := hlent.cell l c h1
        have hkn := List.all_eq_true.1 hok (l, c) h1
        cases c with
        | row own e t xs =>
          obtain ⟨b, b1, b2⟩ := hw
          exact ⟨b, b1, b2.mono (fun g hg => ⟨hZs g hg, rfl⟩) (fun _ _ => rfl), fun h => by subst h; cases hp⟩
        | mem own e cs =>
          obtain ⟨b, i, b1, b2, g, vs, b3, b4, b5, b6⟩ := hw
          obtain ⟨i', z, i1, i2, _⟩ := (hti.td e hkn).info
          rw [b2] at i1
          cases i1
          exact ⟨b, b1, ⟨g, vs, b3, b4, VRs_mono (fun _ _ h => h) (fun g hg => ⟨hZs g hg, rfl⟩) b5, by rw [← i2]; exact b6⟩, fun h => by subst h; cases hp⟩
        | deep e t k xs op =>
          obtain ⟨b, b1, b2⟩ := hw
          refine ⟨b, b1, ?_⟩
          cases op with
          | none => exact b2.closed
          | some q => cases hp
        | dead => exact hw.elim
        | val v => exact hw.elim
      · rw [h2]
        cases hc : look (initS 0 args) l with
        | dead => trivial
        | val v => trivial
        | row own e t xs => obtain ⟨j, v, _, _, e⟩ := initS_look hc (by simp); cases e
        | mem own e cs => obtain ⟨j, v, _, _, e⟩ := initS_look hc (by simp); cases e
        | deep e t k xs op => obtain ⟨j, v, _, _, e⟩ := initS_look hc (by simp); cases e
    · rcases hx with h1 | ⟨l', c, b', hm, hb', e⟩
      · have := hlt _ h1; omega
      · obtain ⟨rfl, rfl⟩ := bcode_inj (Nat.add_left_cancel e)
        exact hb'
  have hlive : Live ti N X Y w 1 (os ++ initS 0 args) a0 w := by
    refine ⟨_, hR, fun l hl => ?_, fun j hj => ?_⟩
    · rcases look_app (os := os) (σ := initS 0 args) (l := l) with ⟨c, h1, h2⟩ | ⟨_, h2⟩
      · exact (hpl l c h1).2.2
      · rw [h2] at hl
        have hne : look (initS 0 args) l ≠ .dead := fun e => by rw [e] at hl; cases hl
        obtain ⟨j, v, _, _, e⟩ := initS_look rfl hne
        rw [e] at hl
        cases hl
    · cases hb2 : β0 j with
      | none => rfl
      | some b2 =>
        obtain ⟨c, hm⟩ := hlent.full j (by rw [hb2]; simp)
        exact absurd (Nat.lt_of_le_of_lt (Nat.le_trans (show (33 : Nat) ≤ objL 1 0 by decide) hj) (hpl j c hm).2.1) (Nat.lt_irrefl _)
  obtain ⟨a', w', todo, ⟨cs', hres, hd, h1, h2, h3, h4, h5⟩, hst⟩ := runFn_sound (P := P) (b := b) (cs := cs)
    (Post := fun a' w' => ∃ cs', (results fn a'.tmps).run P w' = .ok (valOf rts cs') w' ∧ a'.defers = [] ∧ cs'.length = sizes rts ∧ (∀ p ∈ rts, p.2 = false → sz p.1 = 1) ∧ Kept (lentB β0 os) w w' ∧
      (∃ β1 : Beta, (∀ l, β1 l = β0 l) ∧ (∀ l c, (l, c) ∈ os' → (∃ c0, (l, c0) ∈ os) ∧ pinned c = true ∧ CellW P β1 w' (fun g => g < w'.heap.size ∧ (w.heap.size ≤ g ∨ Z0 g ∨ lentB β0 os g) ∧ ∀ l c, (l, c) ∈ os' → ¬ OwnW β1 c l g) l c) ∧
        (∀ l c g, (l, c) ∈ os' → OwnW β1 c l g → lentB β0 os g ∨ w.heap.size ≤ g) ∧
        (∀ l c l' c' g, (l, c) ∈ os' → (l', c') ∈ os' → OwnW β1 c l g → OwnW β1 c' l' g → l = l')) ∧
      ∃ G, Rd w' rt r cs' G ∧ ∀ f ∈ G, f < w'.heap.size ∧ (w.heap.size ≤ f ∨ Z0 f)) hti henv hm (by
      intro tick σ0 a' w' hfin hlv
      obtain ⟨β, R0, hs0, _⟩ := closeN_live (ti := ti) 2 hlv
      have hfin : finIO ti fn.results.toList rts rt (os.map Prod.fst) σ0 = some (os', r) := by
        unfold finJ at hfin
        split at hfin
        · rename_i x0 hfin0
          rw [hfin0, ← hpk _ _ hfin, hq]
        · cases hfin
      unfold finIO at hfin
      generalize closeN ti 2 σ0 = σ at hfin R0 hs0
      unfold finIO0 at hfin
      split at hfin
      · rename_i os2 hos
        split at hfin
        · rename_i r2 hr
          cases hfin
          obtain ⟨f1, f2⟩ := finO_spec hos
          have hpin : ∀ l c, (l, c) ∈ os → ∀ b, β0 l = some b → β l = some b := fun l c hm b hb => R0.pin l b (hpl l c hm).2.1 (.inr ⟨l, c, b, hm, hb, rfl⟩)
          have hpo : ∀ l c, (l, c) ∈ os' → (∃ c0, (l, c0) ∈ os) ∧ β l = β0 l ∧ c = look σ l := by
            intro l c hm
            obtain ⟨g1, h2, g3⟩ := f2 l c hm
            obtain ⟨p, hp, hpe⟩ := List.mem_map.1 g1
            obtain ⟨l0, c0⟩ := p
            have hpe : l0 = l := hpe
            subst hpe
            obtain ⟨b0, hb0⟩ := hb0 l0 c0 hp
            exact ⟨⟨c0, hp⟩, by rw [hb0]; exact hpin l0 c0 hp b0 hb0, h2⟩
          let β1 : Beta := ⟨β0.f, β.inn⟩
          have how1 : ∀ l c g, (l, c) ∈ os' → OwnW β1 c l g → Owns β σ l g := by
            intro l c g hm ho
            obtain ⟨_, h2, rfl⟩ := hpo l c hm
            rcases ho with ⟨k', n', h3⟩ | ⟨h3, h4⟩
            · have h3 : β0 l = some (some g, k', n') := h3
              exact .inl ⟨pinned_own (f1 l (f2 l _ hm).1), k', n', by rw [h2]; exact h3⟩
            · exact .inr ⟨h3, h4⟩
          have how2 : ∀ l c g, (l, c) ∈ os' → Owns β σ l g → OwnW β1 c l g := by
            intro l c g hm ho
            obtain ⟨_, h2, rfl⟩ := hpo l c hm
            rcases ho with ⟨_, k', n', h3⟩ | ⟨h3, h4⟩
            · rw [h2] at h3; exact .inl ⟨k', n', h3⟩
            · exact .inr ⟨h3, h4⟩
          have hZ1 : ∀ g, Zs Y β σ w' g → g < w'.heap.size ∧ (w.heap.size ≤ g ∨ Z0 g ∨ lentB β0 os g) ∧ ∀ l c, (l, c) ∈ os' → ¬ OwnW β1 c l g :=
            fun g hg => ⟨hg.1.1, hg.1.2, fun l c hm ho => hg.no l (how1 l c g hm ho)⟩
          unfold finT at hr
          split at hr
          · rename_i as has
            obtain ⟨cs', c1, c2, c3, c4⟩ := resCells_sound hti R0 has
            obtain ⟨R, zR⟩ := flats_sound as R0 hs0
            have c1 := VRs_mono (fun _ _ h => h) (fun g hg => ⟨zR g hg, rfl⟩) c1
            refine ⟨cs', results_run c4, R.dfr, c2, c3, ⟨R.kept.os, R.kept.tape, R.kept.output, R.kept.size, fun kk hk hx => R.kept.block kk hk ?_⟩, ?_, ?_⟩
            · rintro (h1 | ⟨l, c, b, _, _, e⟩)
              · exact hx h1
              · omega
            · refine ⟨β1, fun l => rfl, fun l c hm => ?_, fun l c g hm ho => ?_, fun l c l' c' g hm hm' h h' => R0.owns_apart (how1 l c g hm h) (how1 l' c' g hm' h')⟩
              · obtain ⟨g1, rfl, g3⟩ := f2 l c hm
                obtain ⟨q1, q2, _⟩ := hpo l _ hm
                have hpn := f1 l g1
                refine ⟨q1, hpn, ?_⟩
                have hcell := R0.obj l
                cases hcl : look σ l with
                | row own e t xs =>
                  rw [hcl] at hcell
                  obtain ⟨b, b1, b2, _⟩ := hcell
                  exact ⟨b, by show β0 l = _; rw [← q2]; exact b1, b2.mono (fun g hg => ⟨hZ1 g hg, rfl⟩) (fun _ _ => rfl)⟩
                | mem own e cs =>
                  rw [hcl] at hcell g3 hpn
                  obtain ⟨b, b1, ⟨g, vs, b2, b3, b4, b5⟩, _⟩ := hcell
                  obtain ⟨i, z, i1, i2, _⟩ := (hti.td e g3).info
                  have hpl : cs.all plain1 = true := by
                    unfold pinned at hpn
                    cases own with
                    | true => exact hpn
                    | false => cases hpn
                  exact ⟨b, i, by show β0 l = _; rw [← q2]; exact b1, i1, g, vs, b2, b3, VRs_plain hZ1 hpl b4, by rw [i2]; exact b5⟩
                | deep e t k xs op =>
                  rw [hcl] at hcell hpn
                  obtain ⟨b, b1, b2⟩ := hcell
                  refine ⟨b, by show β0 l = _; rw [← q2]; exact b1, ?_⟩
                  cases op with
                  | none => exact b2.closed
                  | some q => cases hpn
                | dead => rw [hcl] at hpn; cases hpn
                | val v => rw [hcl] at hpn; cases hpn
              · rcases R0.owns_new (how1 l c g hm ho) with h1 | h1 | ⟨l', c', b', _, _, e⟩
                · exact .inr h1
                · exact .inl h1
                · exact .inr (by omega)
            · split at hr
              · rename_i x us' hx
                cases hr
                obtain ⟨ds, vs', G, e1, e2, e3, e4⟩ := outT_frz R hx c1
                obtain rfl : vs' = [] := e2
                rw [List.append_nil] at e1
                subst e1
                exact ⟨G, e3, by rw [Rd_flat hns e3]; simp⟩
              · cases hr
          · cases hr
        · cases hfin
      · cases hfin) h hlive
  rw [← henter] at hst
  exact ⟨.returned (valOf rts cs'), w', _, ⟨cs', rfl, h1, h2, h3, h4, h5⟩, hst, rfl, rfl, hd, rfl, fn, hf, hres⟩
end Go.Proofs.YtchdegcfohegfaaE
