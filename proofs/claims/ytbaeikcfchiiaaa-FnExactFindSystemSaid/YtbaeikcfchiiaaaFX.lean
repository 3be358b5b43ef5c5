/- Plain lemmas on what the printed functions come to. -/
import Derived.Test.YtbaeikcfchiiaaaFH1
set_option maxRecDepth 100000
set_option linter.unusedVariables false
set_option linter.unusedSimpArgs false
namespace Go.Proofs.YtbaeikcfchiiaaaE
/-! core -/
theorem ct {α : Type} {c : Bool} {x y : α} (h : c = true) : (bif c then x else y) = x := by rw [h]; rfl
theorem cf {α : Type} {c : Bool} {x y : α} (h : c = false) : (bif c then x else y) = y := by rw [h]; rfl
theorem cnt {α : Type} {x y : α} : (bif !true then x else y) = y := rfl
theorem cnf {α : Type} {x y : α} : (bif !false then x else y) = x := rfl
theorem bA {i n : Nat} (h : i < n) : boundA (i : Int) n = true := by simp [boundA, h]
theorem bE {i n : Nat} (h : i ≤ n) : boundE (i : Int) n = true := by simp [boundE, h]
theorem bAi {i : Int} {n : Nat} (h0 : 0 ≤ i) (h : i < n) : boundA i n = true := by simp [boundA, h, h0]
theorem bEi {i : Int} {n : Nat} (h0 : 0 ≤ i) (h : i ≤ n) : boundE i n = true := by simp [boundE, h, h0]
theorem gD {α : Type} {xs : List α} {i : Nat} {d : α} (h : i < xs.length) : List.getD xs (Int.toNat (i : Int)) d = xs[i] := by
  rw [Int.toNat_natCast, List.getD_eq_getElem?_getD, List.getElem?_eq_getElem h]; rfl
theorem sc {i n : Nat} (h : i < n) (hn : n ≤ 9223372036854775807) : IntKind.wrap .i64 ((i : Int) + 1) = ((i + 1 : Nat) : Int) := by
  rw [wrap64 (by omega) (by omega)]; omega
theorem pd {i n : Nat} (h : i < n) (h0 : 0 < i) (hn : n ≤ 9223372036854775807) : IntKind.wrap .i64 ((i : Int) - 1) = ((i - 1 : Nat) : Int) := by
  rw [wrap64 (by omega) (by omega)]; omega
theorem ltt {i n : Nat} (h : i < n) : decide ((i : Int) < (n : Int)) = true := by simp [h]
theorem ltf {n : Nat} : decide ((n : Int) < (n : Int)) = false := by simp
theorem bsome {α β : Type} {x : Option α} {a : α} {f : α → Option β} (h : x = some a) : x.bind f = f a := by rw [h]; rfl
theorem bret {α : Type} (x : Option α) : (x.bind fun r => some r) = x := by cases x <;> rfl

/-- A loop that ends with false at the first that is not so. -/
theorem all_loop {f : Nat → Option Bool} {n : Nat} {ok : Nat → Bool} {e : Option Bool} (h0 : (∀ j, j < n → ok j = true) → f n = e)
    (h1 : ∀ i, i < n → (∀ j, j < i → ok j = true) → f i = if ok i then f (i + 1) else some false) : f 0 = if (List.range n).all ok then e else some false := by
  have main : ∀ m i, i + m = n → (∀ j, j < i → ok j = true) → f i = if (List.range n).all ok then e else some false := by
    intro m
    induction m with
    | zero =>
      intro i hi hj
      obtain rfl : i = n := by omega
      rw [h0 hj, if_pos]
      rw [List.all_eq_true]
      exact fun x hx => hj x (List.mem_range.1 hx)
    | succ m ih =>
      intro i hi hj
      rw [h1 i (by omega) hj]
      cases h : ok i with
      | true =>
        rw [if_pos rfl]
        exact ih (i + 1) (by omega) fun j hji => by
          by_cases e : j = i
          · rw [e]; exact h
          · exact hj j (by omega)
      | false =>
        rw [if_neg (by simp), if_neg]
        rw [List.all_eq_true]
        exact fun hx => by have := hx i (List.mem_range.2 (by omega)); rw [h] at this; cases this
  exact main n 0 (by omega) fun j hj => absurd hj (Nat.not_lt_zero j)

/-- A loop over a state, as a plain recursion. -/
def loopM {σ R : Type} (st : Nat → σ → R ⊕ σ) (fin : σ → R) : Nat → Nat → σ → R
  | 0, _, s => fin s
  | m + 1, i, s => match st i s with
    | .inl r => r
    | .inr s' => loopM st fin m (i + 1) s'
theorem loop_eq {σ R : Type} {f : Nat → σ → Option R} {st : Nat → σ → R ⊕ σ} {fin : σ → R} {n : Nat} (Inv : Nat → σ → Prop)
    (h0 : ∀ s, Inv n s → f n s = some (fin s))
    (h1 : ∀ i s, i < n → Inv i s → (∃ r, st i s = .inl r ∧ f i s = some r) ∨ (∃ s', st i s = .inr s' ∧ f i s = f (i + 1) s' ∧ Inv (i + 1) s')) :
    ∀ m i s, i + m = n → Inv i s → f i s = some (loopM st fin m i s) := by
  intro m
  induction m with
  | zero =>
    intro i s hi hs
    obtain rfl : i = n := by omega
    exact h0 s hs
  | succ m ih =>
    intro i s hi hs
    rcases h1 i s (by omega) hs with ⟨r, e1, e2⟩ | ⟨s', e1, e2, e3⟩
    · rw [e2]; simp only [loopM, e1]
    · rw [e2, ih (i + 1) s' (by omega) e3]; simp only [loopM, e1]
/-- Two loops side by side. -/
theorem loop2 {σ τ R : Type} {f : Nat → σ → Option R} {g : Nat → τ → Option R} {n : Nat} (Q : Nat → σ → τ → Prop)
    (h0 : ∀ s t, Q n s t → ∃ r, f n s = some r ∧ g n t = some r)
    (h1 : ∀ i s t, i < n → Q i s t → (∃ r, f i s = some r ∧ g i t = some r) ∨ (∃ s' t', f i s = f (i + 1) s' ∧ g i t = g (i + 1) t' ∧ Q (i + 1) s' t')) :
    ∀ m i s t, i + m = n → Q i s t → ∃ r, f i s = some r ∧ g i t = some r := by
  intro m
  induction m with
  | zero =>
    intro i s t hi hs
    obtain rfl : i = n := by omega
    exact h0 s t hs
  | succ m ih =>
    intro i s t hi hs
    rcases h1 i s t (by omega) hs with ⟨r, e1, e2⟩ | ⟨s', t', e1, e2, e3⟩
    · exact ⟨r, e1, e2⟩
    · rw [e1, e2]; exact ih (i + 1) s' t' (by omega) e3
/-! range -/
theorem l1In_v (n lo hi : Int) : s_l1In n lo hi = some (decide (lo ≤ n ∧ n ≤ hi)) := by
  unfold s_l1In
  by_cases h : lo ≤ n <;> simp [h]
theorem inside_v (n lo hi : Int) : i_inside n lo hi = some (decide (lo ≤ n ∧ n ≤ hi)) := by
  unfold i_inside
  by_cases h : lo ≤ n <;> simp [h]
/-! sign -/
theorem l1Sign_v (n : Int) : s_l1Sign n = some (Int.sign n) := by
  unfold s_l1Sign
  simp only [Bool.cond_decide]
  split
  · rw [Int.sign_eq_one_of_pos (by assumption)]
  · split
    · rw [Int.sign_eq_neg_one_of_neg (by assumption)]
    · rw [show n = 0 by omega]; rfl
theorem sign_ge {n : Int} : 0 ≤ Int.sign n ↔ 0 ≤ n := by
  rcases Int.lt_trichotomy n 0 with h | h | h
  · rw [Int.sign_eq_neg_one_of_neg h]; omega
  · subst h; simp
  · rw [Int.sign_eq_one_of_pos h]; omega
/-! cmpint -/
theorem sign_ne {n : Int} : Int.sign n = 0 ↔ n = 0 := Int.sign_eq_zero_iff_zero
/-! poly -/
abbrev Tm := Int × Int × Int × Int
def tOk (t : Tm) : Bool := decide (t.1 ≠ 0 ∧ (-1000 ≤ t.1 ∧ t.1 ≤ 1000) ∧ (0 ≤ t.2.1 ∧ t.2.1 ≤ 4) ∧ (0 ≤ t.2.2.1 ∧ t.2.2.1 ≤ 4) ∧ (0 ≤ t.2.2.2 ∧ t.2.2.2 ≤ 4) ∧ t.2.1 + t.2.2.1 + t.2.2.2 ≤ 4)
def tLt (a b : Tm) : Bool := decide (a.2.1 < b.2.1 ∨ a.2.1 = b.2.1 ∧ (a.2.2.1 < b.2.2.1 ∨ a.2.2.1 = b.2.2.1 ∧ a.2.2.2 < b.2.2.2))
def pAt (p : List Tm) (j : Nat) : Tm := p.getD j (0, 0, 0, 0)
def pStep (p : List Tm) (j : Nat) : Bool := tOk (pAt p j) && (decide (j = 0) || tLt (pAt p (j - 1)) (pAt p j))
def pOk (p : List Tm) : Bool := (List.range p.length).all (pStep p) && decide (p.length ≤ 20)
theorem tOk_iff {t : Tm} : tOk t = true ↔ (t.1 ≠ 0 ∧ (-1000 ≤ t.1 ∧ t.1 ≤ 1000) ∧ (0 ≤ t.2.1 ∧ t.2.1 ≤ 4) ∧ (0 ≤ t.2.2.1 ∧ t.2.2.1 ≤ 4) ∧ (0 ≤ t.2.2.2 ∧ t.2.2.2 ≤ 4) ∧ t.2.1 + t.2.2.1 + t.2.2.2 ≤ 4) := by simp [tOk]

def tIn (c x y z : Int) : Bool := decide ((-1000 ≤ c ∧ c ≤ 1000) ∧ (0 ≤ x ∧ x ≤ 4) ∧ (0 ≤ y ∧ y ≤ 4) ∧ (0 ≤ z ∧ z ≤ 4) ∧ x + y + z ≤ 4)
def dIn (x y z : Int) : Bool := decide ((0 ≤ x ∧ x ≤ 4) ∧ (0 ≤ y ∧ y ≤ 4) ∧ (0 ≤ z ∧ z ≤ 4) ∧ x + y + z ≤ 4)
theorem poTerm_v (c x y z : Int) : s_poTerm c x y z = some (tIn c x y z) := by
  unfold s_poTerm tIn
  simp only [l1In_v, Option.bind_some, cond_eq_ite, decide_eq_true_eq]
  by_cases h1 : -1000 ≤ c ∧ c ≤ 1000
  · by_cases h2 : 0 ≤ x ∧ x ≤ 4
    · by_cases h3 : 0 ≤ y ∧ y ≤ 4
      · by_cases h4 : 0 ≤ z ∧ z ≤ 4
        · rw [wrap64 (n := x + y) (by omega) (by omega), wrap64 (by omega) (by omega)]
          simp [h1, h2, h3, h4]
        · simp [h1, h2, h3, h4]
      · simp [h1, h2, h3]
    · simp [h1, h2]
  · simp [h1]
theorem hasDegree_v (c x y z : Int) : i_hasDegree c x y z = some (dIn x y z) := by
  unfold i_hasDegree dIn
  simp only [inside_v, Option.bind_some, cond_eq_ite, decide_eq_true_eq]
  by_cases h2 : 0 ≤ x ∧ x ≤ 4
  · by_cases h3 : 0 ≤ y ∧ y ≤ 4
    · by_cases h4 : 0 ≤ z ∧ z ≤ 4
      · rw [wrap64 (n := x + y) (by omega) (by omega), wrap64 (by omega) (by omega)]
        simp [h2, h3, h4]
      · simp [h2, h3, h4]
    · simp [h2, h3]
  · simp [h2]
def oSub (a b : Tm) : Int := if a.2.1 ≠ b.2.1 then a.2.1 - b.2.1 else if a.2.2.1 ≠ b.2.2.1 then a.2.2.1 - b.2.2.1 else a.2.2.2 - b.2.2.2
theorem oSub_ge {a b : Tm} : decide (0 ≤ Int.sign (oSub a b)) = !tLt a b := by
  unfold oSub tLt
  simp only [sign_ge]
  grind
theorem poOrder_v {a b : Tm} (ha : tOk a = true) (hb : tOk b = true) : s_poOrder a.1 a.2.1 a.2.2.1 a.2.2.2 b.1 b.2.1 b.2.2.1 b.2.2.2 = some (Int.sign (oSub a b)) := by
  rw [tOk_iff] at ha hb
  unfold s_poOrder oSub
  simp only [l1Sign_v, Option.bind_some, cond_eq_ite]
  grind [wrap64]
theorem cmpInt_v (x y : Int) : cmp_Compare_int x y = some (Int.sign (x - y)) := by
  unfold cmp_Compare_int
  simp only [decide_true, Bool.not_true, cond_false, Bool.cond_decide]
  split
  · rw [Int.sign_eq_neg_one_of_neg (by omega)]
  · split
    · rw [Int.sign_eq_one_of_pos (by omega)]
    · rw [show x - y = 0 by omega]; rfl
theorem cmpOr3_v (x y z : Int) : cmp_Or_int [x, y, z] = some (if x ≠ 0 then x else if y ≠ 0 then y else z) := by
  have e0 : cmp_Or_int_1003 0 [x, y, z] 3 3 = some 0 := by rw [Ecmp_Or_int_1003]; rfl
  have e1 : cmp_Or_int_1003 0 [x, y, z] 3 2 = some z := by
    rw [Ecmp_Or_int_1003, show IntKind.wrap .i64 (2 + 1) = 3 from rfl, e0]
    by_cases h : z = 0 <;> simp [boundA, h]
  have e2 : cmp_Or_int_1003 0 [x, y, z] 3 1 = some (if y ≠ 0 then y else z) := by
    rw [Ecmp_Or_int_1003, show IntKind.wrap .i64 (1 + 1) = 2 from rfl, e1]
    by_cases h : y = 0 <;> simp [boundA, h]
  unfold cmp_Or_int
  show cmp_Or_int_1003 0 [x, y, z] 3 0 = _
  rw [Ecmp_Or_int_1003, show IntKind.wrap .i64 (0 + 1) = 1 from rfl, e2]
  by_cases h : x = 0 <;> simp [boundA, h]
theorem compareTerms_v (a b : Tm) : i_compareTerms a.1 a.2.1 a.2.2.1 a.2.2.2 b.1 b.2.1 b.2.2.1 b.2.2.2 = some (Int.sign (oSub a b)) := by
  unfold i_compareTerms oSub
  simp only [cmpInt_v, Option.bind_some, cmpOr3_v]
  have := @sign_ne (a.2.1 - b.2.1)
  have := @sign_ne (a.2.2.1 - b.2.2.1)
  grind
theorem pAt_v (p : List Tm) (i : Nat) : List.getD p (Int.toNat (i : Int)) (0, 0, 0, 0) = pAt p i := by unfold pAt; rw [Int.toNat_natCast]
theorem pOk_all {p : List Tm} {f : Nat → Option Bool} (h0 : f p.length = some (decide (p.length ≤ 20)))
    (h1 : ∀ i, i < p.length → (∀ j, j < i → tOk (pAt p j) = true) → f i = if pStep p i then f (i + 1) else some false) : f 0 = some (pOk p) := by
  have := all_loop (f := f) (n := p.length) (ok := pStep p) (e := some (decide (p.length ≤ 20))) (fun _ => h0) (fun i hi hj => h1 i hi fun j hji => by have := hj j hji; unfold pStep at this; simp at this; exact this.1)
  rw [this]
  unfold pOk
  cases (List.range p.length).all (pStep p) <;> rfl
theorem tOk_eq (t : Tm) : tOk t = (decide (t.1 ≠ 0) && tIn t.1 t.2.1 t.2.2.1 t.2.2.2) := by
  unfold tOk tIn; simp
theorem poGood_v {p : List Tm} (hn : p.length ≤ 9223372036854775807) : s_poGood p = some (pOk p) := by
  unfold s_poGood
  refine pOk_all (f := fun i => s_poGood_1002 p p p.length (i : Int)) ?_ ?_
  · show s_poGood_1002 _ _ _ _ = _
    rw [Es_poGood_1002, cf ltf]
    simp; omega
  · intro i hi hj
    show s_poGood_1002 _ _ _ _ = _
    rw [Es_poGood_1002, ct (ltt hi), ct (bA hi), sc hi hn, pAt_v, bsome (poTerm_v ..)]
    unfold pStep
    rw [tOk_eq]
    generalize hD : tIn (pAt p i).1 (pAt p i).2.1 (pAt p i).2.2.1 (pAt p i).2.2.2 = D
    cases D with
    | false => simp
    | true =>
      by_cases hc : (pAt p i).1 = 0
      · simp [hc]
      · have ht : tOk (pAt p i) = true := by rw [tOk_eq, hD]; simp [hc]
        by_cases h0 : i = 0
        · subst h0; simp [hc]
        · rw [pd hi (by omega) hn, pAt_v, ct (show boundA ((i - 1 : Nat) : Int) p.length = true from bA (by omega)), bsome (poOrder_v (hj _ (by omega)) ht), oSub_ge]
          have hp : 0 < i := by omega
          cases tLt (pAt p (i - 1)) (pAt p i) <;> simp [hc, h0, hp]
theorem isPoly_v {p : List Tm} (hn : p.length ≤ 9223372036854775807) : i_isPoly p = some (pOk p) := by
  unfold i_isPoly
  refine pOk_all (f := fun i => i_isPoly_1002 p p p.length (i : Int)) ?_ ?_
  · show i_isPoly_1002 _ _ _ _ = _
    rw [Ei_isPoly_1002, cf ltf]
    simp; omega
  · intro i hi hj
    show i_isPoly_1002 _ _ _ _ = _
    rw [Ei_isPoly_1002, ct (ltt hi), ct (bA hi), sc hi hn, pAt_v, bsome (inside_v ..)]
    unfold pStep
    by_cases hc : (pAt p i).1 = 0
    · simp [hc, tOk_eq]
    by_cases h1 : -1000 ≤ (pAt p i).1 ∧ (pAt p i).1 ≤ 1000
    · rw [bsome (hasDegree_v ..)]
      have ht : tOk (pAt p i) = dIn (pAt p i).2.1 (pAt p i).2.2.1 (pAt p i).2.2.2 := by
        rw [tOk_eq]; unfold tIn dIn; simp [hc, h1]
      rw [ht]
      generalize dIn (pAt p i).2.1 (pAt p i).2.2.1 (pAt p i).2.2.2 = D
      cases D with
      | false => simp
      | true =>
        by_cases h0 : i = 0
        · subst h0; simp [hc, h1]
        · rw [pd hi (by omega) hn, pAt_v, ct (show boundA ((i - 1 : Nat) : Int) p.length = true from bA (by omega)), bsome (compareTerms_v ..), oSub_ge]
          have hp : 0 < i := by omega
          cases tLt (pAt p (i - 1)) (pAt p i) <;> simp [hc, h0, h1, hp]
    · have : tOk (pAt p i) = false := by rw [tOk_eq]; unfold tIn; simp [h1]
      simp [hc, h1, this]
/-! fold -/
/-- A loop that folds a list. -/
theorem fold_loop {α σ R : Type} {xs : List α} {st : σ → α → σ} {fin : σ → R} {f : Nat → σ → R} (h0 : ∀ s, f xs.length s = fin s)
    (h1 : ∀ i s (hi : i < xs.length), f i s = f (i + 1) (st s xs[i])) (s : σ) : f 0 s = fin (xs.foldl st s) := by
  have main : ∀ m i s, i + m = xs.length → f i s = fin ((xs.drop i).foldl st s) := by
    intro m
    induction m with
    | zero =>
      intro i s hi
      rw [List.drop_eq_nil_of_le (by omega), show i = xs.length by omega, h0]; rfl
    | succ m ih =>
      intro i s hi
      have hlt : i < xs.length := by omega
      rw [h1 i s hlt, ih (i + 1) _ (by omega), List.drop_eq_getElem_cons hlt]; rfl
  exact main xs.length 0 s (by omega)
/-- The same, where what was folded so far is told of. -/
theorem fold_loopI {α σ R : Type} {xs : List α} {st : σ → α → σ} {fin : σ → R} {f : Nat → σ → R} (Inv : Nat → σ → Prop) (h0 : ∀ s, Inv xs.length s → f xs.length s = fin s)
    (h1 : ∀ i s (hi : i < xs.length), Inv i s → f i s = f (i + 1) (st s xs[i]) ∧ Inv (i + 1) (st s xs[i])) (s : σ) (hs : Inv 0 s) : f 0 s = fin (xs.foldl st s) := by
  have main : ∀ m i s, i + m = xs.length → Inv i s → f i s = fin ((xs.drop i).foldl st s) := by
    intro m
    induction m with
    | zero =>
      intro i s hi hs
      obtain rfl : i = xs.length := by omega
      rw [List.drop_eq_nil_of_le (by omega), h0 s hs]; rfl
    | succ m ih =>
      intro i s hi hs
      have hlt : i < xs.length := by omega
      rw [(h1 i s hlt hs).1, ih (i + 1) _ (by omega) (h1 i s hlt hs).2, List.drop_eq_getElem_cons hlt]; rfl
  exact main xs.length 0 s (by omega) hs
theorem foldl_max {α : Type} {g : α → Int} {xs : List α} : ∀ {m : Int}, 0 < xs.foldl (fun m t => max m (g t)) m ↔ 0 < m ∨ ∃ t ∈ xs, 0 < g t := by
  induction xs with
  | nil => intro m; simp
  | cons x xs ih =>
    intro m
    rw [List.foldl_cons, ih]
    simp only [List.mem_cons, exists_eq_or_imp]
    constructor
    · rintro (h | h)
      · by_cases hm : 0 < m
        · exact .inl hm
        · exact .inr (.inl (by omega))
      · exact .inr (.inr h)
    · rintro (h | h | h)
      · exact .inl (by omega)
      · exact .inl (by omega)
      · exact .inr h
/-! most -/
theorem l1Most_v (a b : Int) : s_l1Most a b = some (max a b) := by
  unfold s_l1Most
  simp only [Bool.cond_decide]
  split
  · rw [show max a b = a by omega]
  · rw [show max a b = b by omega]
/-! system -/
def tEx (t : Tm) (k : Nat) : Int := if k = 0 then t.2.1 else if k = 1 then t.2.2.1 else t.2.2.2
theorem poPower_v (t : Tm) (k : Nat) : s_poPower t.1 t.2.1 t.2.2.1 t.2.2.2 (k : Int) = some (tEx t k) := by
  unfold s_poPower tEx
  by_cases h0 : k = 0
  · subst h0; rfl
  · by_cases h1 : k = 1
    · subst h1; rfl
    · rw [cf (by simp; omega), cf (by simp; omega), if_neg h0, if_neg h1]
def degIn (p : List Tm) (k : Nat) : Int := p.foldl (fun m t => max m (tEx t k)) (-1)
theorem poDegreeIn_v {p : List Tm} {k : Nat} (hn : p.length ≤ 9223372036854775807) : s_poDegreeIn p (k : Int) = some (degIn p k) := by
  unfold s_poDegreeIn degIn
  refine fold_loop (f := fun i m => s_poDegreeIn_1003 (k : Int) m p p.length (i : Int)) (fin := some) (fun m => ?_) (fun i m hi => ?_) _
  · show s_poDegreeIn_1003 _ _ _ _ _ = _
    rw [Es_poDegreeIn_1003, cf ltf]
  · show s_poDegreeIn_1003 _ _ _ _ _ = s_poDegreeIn_1003 _ _ _ _ _
    rw [Es_poDegreeIn_1003, ct (ltt hi), ct (bA hi), gD hi, bsome (poPower_v ..), bsome (l1Most_v ..), sc hi hn]
/-- No unknown from a number on. -/
def fits (p : List Tm) (n : Nat) : Bool := (List.range 3).all fun k => decide (k < n) || !p.any fun t => decide (0 < tEx t k)
theorem degIn_pos {p : List Tm} {k : Nat} : decide (0 < degIn p k) = p.any fun t => decide (0 < tEx t k) := by
  rw [Bool.eq_iff_iff]
  simp only [decide_eq_true_eq, List.any_eq_true]
  unfold degIn
  rw [foldl_max]
  simp
def sOk (s : List (List Tm)) : Bool := s.all (fun p => pOk p && fits p s.length) && decide (1 ≤ s.length ∧ s.length ≤ 3)
theorem sys_all {s : List (List Tm)} {f : Nat → Option Bool} (h0 : f s.length = some (decide (1 ≤ s.length ∧ s.length ≤ 3)))
    (h1 : ∀ i (hi : i < s.length), f i = if pOk s[i] && fits s[i] s.length then f (i + 1) else some false) : f 0 = some (sOk s) := by
  have := all_loop (f := f) (n := s.length) (ok := fun i => pOk (s.getD i []) && fits (s.getD i []) s.length) (fun _ => h0) (fun i hi _ => by
    rw [h1 i hi]; simp [hi])
  rw [this]
  unfold sOk
  have e : (List.range s.length).all (fun i => pOk (s.getD i []) && fits (s.getD i []) s.length) = s.all (fun p => pOk p && fits p s.length) := by
    rw [Bool.eq_iff_iff, List.all_eq_true, List.all_eq_true]
    constructor
    · intro h x hx
      obtain ⟨i, hi, rfl⟩ := List.mem_iff_getElem.1 hx
      have := h i (List.mem_range.2 hi)
      simpa [hi] using this
    · intro h i hi
      have hi := List.mem_range.1 hi
      have := h s[i] (List.getElem_mem hi)
      simpa [hi] using this
  rw [e]
  cases s.all _ <;> rfl
theorem poSystem_v {s : List (List Tm)} (hn : s.length ≤ 1000000) (hp : ∀ p ∈ s, p.length ≤ 1000000) : s_poSystem s = some (sOk s) := by
  unfold s_poSystem
  refine sys_all (f := fun i => s_poSystem_1002 s s s.length (i : Int)) ?_ fun i hi => ?_
  · show s_poSystem_1002 _ _ _ _ = _
    rw [Es_poSystem_1002, cf ltf, bret, l1In_v]
    congr 2
    simp; omega
  · show s_poSystem_1002 _ _ _ _ = if _ then s_poSystem_1002 _ _ _ _ else _
    have hpi := hp s[i] (List.getElem_mem hi)
    rw [Es_poSystem_1002, ct (ltt hi), ct (bA hi), gD hi, bsome (poGood_v (by omega))]
    cases pOk s[i] with
    | false => simp
    | true =>
      simp only [Bool.not_true, cond_false, Bool.true_and]
      have e3 : s_poSystem_1007 s s[i] 3 s s.length i = s_poSystem_1002 s s s.length ((i + 1 : Nat) : Int) := by
        rw [Es_poSystem_1007, cf (by decide), sc hi (by omega)]
      have st : ∀ k : Nat, k < 3 → s_poSystem_1007 s s[i] (k : Int) s s.length i = if (s[i].any fun t => decide (0 < tEx t k)) then some false else s_poSystem_1007 s s[i] ((k + 1 : Nat) : Int) s s.length i := by
        intro k hk
        rw [Es_poSystem_1007, ct (by simp; omega), bsome (poDegreeIn_v (by omega)), degIn_pos, sc hk (by omega), cond_eq_ite]
      have hbig : 3 ≤ s.length → s_poSystem_1007 s s[i] (s.length : Int) s s.length i = s_poSystem_1002 s s s.length ((i + 1 : Nat) : Int) := by
        intro h
        rw [Es_poSystem_1007, cf (by simp; omega), sc hi (by omega)]
      have e2 := st 2 (by omega)
      have e1 := st 1 (by omega)
      rw [show ((2 + 1 : Nat) : Int) = 3 from rfl, e3] at e2
      rw [show ((1 + 1 : Nat) : Int) = ((2 : Nat) : Int) from rfl, e2] at e1
      unfold fits
      rw [show List.range 3 = [0, 1, 2] from rfl]
      simp only [List.all_cons, List.all_nil, Bool.and_true]
      by_cases h3 : 3 ≤ s.length
      · rw [hbig h3]
        simp [show 0 < s.length by omega, show 1 < s.length by omega, show 2 < s.length by omega]
      · by_cases h2 : s.length = 2
        · have hx := st s.length (by omega)
          rw [show ((s.length + 1 : Nat) : Int) = 3 by omega, e3] at hx
          rw [hx, h2]
          cases (s[i].any fun t => decide (0 < tEx t 2)) <;> simp
        · have h1 : s.length = 1 := by omega
          have hx := st s.length (by omega)
          rw [show ((s.length + 1 : Nat) : Int) = ((2 : Nat) : Int) by omega, e2] at hx
          rw [hx, h1]
          cases (s[i].any fun t => decide (0 < tEx t 1)) <;> cases (s[i].any fun t => decide (0 < tEx t 2)) <;> simp
theorem needsAtMost_v {p : List Tm} {n : Nat} (hp : p.length ≤ 1000000) : i_needsAtMost p (n : Int) = some (fits p n) := by
  unfold i_needsAtMost
  have := all_loop (f := fun i => i_needsAtMost_1002 (n : Int) p p.length (i : Int)) (n := p.length) (ok := fun i => (List.range 3).all fun k => decide (k < n) || !decide (0 < tEx (pAt p i) k)) (e := some true) (fun _ => by
    show i_needsAtMost_1002 _ _ _ _ = _
    rw [Ei_needsAtMost_1002, cf ltf]) (fun i hi _ => by
    show i_needsAtMost_1002 _ _ _ _ = if _ then i_needsAtMost_1002 _ _ _ _ else _
    rw [Ei_needsAtMost_1002, ct (ltt hi), ct (bA hi), pAt_v]
    have e3 : i_needsAtMost_1005 n p p.length i (pAt p i).2.1 (pAt p i).2.2.1 (pAt p i).2.2.2 3 = i_needsAtMost_1002 n p p.length ((i + 1 : Nat) : Int) := by
      rw [Ei_needsAtMost_1005, cf (by decide), sc hi (by omega)]
    have st : ∀ k : Nat, k < 3 → i_needsAtMost_1005 n p p.length i (pAt p i).2.1 (pAt p i).2.2.1 (pAt p i).2.2.2 (k : Int) = if decide (k < n) || !decide (0 < tEx (pAt p i) k) then i_needsAtMost_1005 n p p.length i (pAt p i).2.1 (pAt p i).2.2.1 (pAt p i).2.2.2 ((k + 1 : Nat) : Int) else some false := by
      intro k hk
      rw [Ei_needsAtMost_1005, ct (by simp; omega), ct (by simp [boundA]; omega), sc hk (by omega), Int.toNat_natCast]
      have hx : List.getD [(pAt p i).2.1, (pAt p i).2.2.1, (pAt p i).2.2.2] k 0 = tEx (pAt p i) k := by
        rcases (show k = 0 ∨ k = 1 ∨ k = 2 by omega) with rfl | rfl | rfl <;> rfl
      rw [hx]
      by_cases h : n ≤ k
      · simp [h, show ¬ k < n by omega]
        by_cases h' : 0 < tEx (pAt p i) k
        · simp [h', show ¬ tEx (pAt p i) k ≤ 0 by omega]
        · simp [h', show tEx (pAt p i) k ≤ 0 by omega]
      · simp [h, show k < n by omega]
    have e2 := st 2 (by omega)
    have e1 := st 1 (by omega)
    have e0 := st 0 (by omega)
    rw [show ((2 + 1 : Nat) : Int) = 3 from rfl, e3] at e2
    rw [show ((1 + 1 : Nat) : Int) = ((2 : Nat) : Int) from rfl, e2] at e1
    rw [show ((0 + 1 : Nat) : Int) = ((1 : Nat) : Int) from rfl, e1] at e0
    rw [show (0 : Int) = ((0 : Nat) : Int) from rfl, e0, show List.range 3 = [0, 1, 2] from rfl]
    simp only [List.all_cons, List.all_nil, Bool.and_true]
    cases (decide (0 < n) || !decide (0 < tEx (pAt p i) 0)) <;> cases (decide (1 < n) || !decide (0 < tEx (pAt p i) 1)) <;> cases (decide (2 < n) || !decide (0 < tEx (pAt p i) 2)) <;> rfl)
  refine this.trans ?_
  have e : (List.range p.length).all (fun i => (List.range 3).all fun k => decide (k < n) || !decide (0 < tEx (pAt p i) k)) = fits p n := by
    unfold fits
    rw [Bool.eq_iff_iff, List.all_eq_true, List.all_eq_true]
    constructor
    · intro h k hk
      rw [Bool.or_eq_true, Bool.not_eq_true', ← Bool.not_eq_true, List.any_eq_true]
      by_cases hkn : k < n
      · left; simpa using hkn
      · right
        rintro ⟨t, ht, h0⟩
        obtain ⟨i, hi, rfl⟩ := List.mem_iff_getElem.1 ht
        have := List.all_eq_true.1 (h i (List.mem_range.2 hi)) k hk
        have hpa : pAt p i = p[i] := by unfold pAt; simp [hi]
        rw [hpa] at this
        simp [hkn] at this h0
        omega
    · intro h i hi
      have hi := List.mem_range.1 hi
      rw [List.all_eq_true]
      intro k hk
      have := h k hk
      rw [Bool.or_eq_true, Bool.not_eq_true', ← Bool.not_eq_true, List.any_eq_true] at this
      have hpa : pAt p i = p[i] := by unfold pAt; simp [hi]
      rw [hpa]
      rcases this with h1 | h1
      · rw [h1]; rfl
      · by_cases h2 : 0 < tEx p[i] k
        · exact absurd ⟨p[i], List.getElem_mem hi, by simpa using h2⟩ h1
        · simp [h2]
  rw [e]
  cases fits p n <;> rfl
theorem isSystem_v {s : List (List Tm)} (hn : s.length ≤ 1000000) (hp : ∀ p ∈ s, p.length ≤ 1000000) : i_isSystem s = some (sOk s) := by
  unfold i_isSystem
  refine sys_all (f := fun i => i_isSystem_1002 s s s.length (i : Int)) ?_ fun i hi => ?_
  · show i_isSystem_1002 _ _ _ _ = _
    rw [Ei_isSystem_1002, cf ltf, bret, inside_v]
    congr 2
    simp; omega
  · show i_isSystem_1002 _ _ _ _ = if _ then i_isSystem_1002 _ _ _ _ else _
    have hpi := hp s[i] (List.getElem_mem hi)
    rw [Ei_isSystem_1002, ct (ltt hi), ct (bA hi), gD hi, bsome (isPoly_v (by omega)), bsome (needsAtMost_v (by omega)), sc hi (by omega)]
    cases pOk s[i] <;> cases fits s[i] s.length <;> rfl
/-! power -/
theorem dyPower_v {k : Int} (h0 : 0 ≤ k) (h1 : k ≤ 62) : s_dyPower k = some (2 ^ k.toNat) := by
  obtain ⟨n, rfl⟩ := Int.eq_ofNat_of_zero_le h0
  have hn : n ≤ 62 := by omega
  have hw : IntKind.wrap .u64 (n : Int) = n := by
    unfold IntKind.wrap
    rw [show IntKind.signed .u64 = false from rfl, show IntKind.bits .u64 = 64 from rfl]
    simp; omega
  unfold s_dyPower
  have hp : (2 : Int) ^ n ≤ 2 ^ 62 := by exact_mod_cast Nat.pow_le_pow_right (by decide) hn
  have h0 : (0 : Int) < 2 ^ n := Int.pow_pos (by decide)
  rw [hw, ct (by simp), Int.toNat_natCast, show IntKind.bits .i64 = 64 from rfl, Nat.min_eq_left (by omega), Int.one_mul, wrap64 (by omega) (by omega)]
/-! box -/
theorem allor_loop {f : Nat → Bool → Option Bool} {n : Nat} {ok od : Nat → Bool} (h0 : ∀ o, f n o = some o)
    (h1 : ∀ i o, i < n → f i o = if ok i then f (i + 1) (o || od i) else some false) (o : Bool) : f 0 o = some ((List.range n).all ok && (o || (List.range n).any od)) := by
  have main : ∀ m i o, i + m = n → f i o = some ((List.range' i m).all ok && (o || (List.range' i m).any od)) := by
    intro m
    induction m with
    | zero => intro i o hi; rw [show i = n by omega, h0]; simp
    | succ m ih =>
      intro i o hi
      rw [h1 i o (by omega), ih (i + 1) _ (by omega), List.range'_succ]
      cases hk : ok i <;> simp only [List.all_cons, List.any_cons, hk, Bool.or_assoc, Bool.false_and, Bool.true_and, if_true, Bool.false_eq_true, if_false]
  rw [main n 0 o (by omega), List.range_eq_range']
/-- Whether numbers are a box's. -/
def bSide (m : Int) (lo hi : List Int) (i : Nat) : Bool := decide (-m ≤ lo.getD i 0 ∧ lo.getD i 0 < hi.getD i 0 ∧ hi.getD i 0 ≤ m)
def bOdd (lo hi : List Int) (i : Nat) : Bool := !decide (Int.tmod (lo.getD i 0) 2 = 0) || !decide (Int.tmod (hi.getD i 0) 2 = 0)
def bOk (K : Int) (lo hi : List Int) : Bool :=
  decide (0 ≤ K ∧ K ≤ 8) && decide (1 ≤ lo.length ∧ lo.length ≤ 3) && decide (hi.length = lo.length) &&
    ((List.range lo.length).all (bSide (8 * 2 ^ K.toNat) lo hi) && (decide (K = 0) || (List.range lo.length).any (bOdd lo hi)))
theorem p2le {k n : Nat} (h : k ≤ n) : (2 : Int) ^ k ≤ 2 ^ n := by exact_mod_cast Nat.pow_le_pow_right (by decide) h
theorem p2pos (k : Nat) : (0 : Int) < 2 ^ k := Int.pow_pos (by decide)
theorem bxGood_v {K : Int} {lo hi : List Int} : s_bxGood K lo hi = some (bOk K lo hi) := by
  unfold s_bxGood bOk
  rw [bsome (l1In_v ..)]
  by_cases hK : 0 ≤ K ∧ K ≤ 8
  rotate_left
  · simp [hK]
  rw [cf (by simp [hK]), bsome (l1In_v ..)]
  by_cases hl : 1 ≤ lo.length ∧ lo.length ≤ 3
  rotate_left
  · rw [ct (by simp; omega)]; simp [hl]
  rw [cf (by simp; omega)]
  by_cases he : hi.length = lo.length
  rotate_left
  · rw [ct (by simp; omega)]; simp [he]
  rw [cf (by simp [he]), bsome (dyPower_v hK.1 (by omega))]
  have h1 := p2le (show K.toNat ≤ 8 by omega)
  have h2 := p2pos K.toNat
  rw [wrap64 (by omega) (by omega)]
  generalize hM : (8 : Int) * 2 ^ K.toNat = M
  have hM0 : 0 < M ∧ M ≤ 2048 := by omega
  refine (allor_loop (f := fun i o => s_bxGood_1006 K lo hi M o lo lo.length (i : Int)) (od := bOdd lo hi) (ok := bSide M lo hi) (n := lo.length) (fun o => ?_) (fun i o hil => ?_) _).trans (by simp [hK, hl, he])
  · show s_bxGood_1006 _ _ _ _ _ _ _ _ = _
    rw [Es_bxGood_1006, cf ltf]
  · show s_bxGood_1006 _ _ _ _ _ _ _ _ = if _ then s_bxGood_1006 _ _ _ _ _ _ _ _ else _
    rw [Es_bxGood_1006, ct (ltt hil), ct (bA hil), ct (bA (by omega)), Int.toNat_natCast, wrap64 (n := 0 - M) (by omega) (by omega), sc hil (by omega), bsome (l1In_v ..), bsome (l1In_v ..)]
    unfold bSide bOdd
    generalize lo.getD i 0 = x
    generalize hi.getD i 0 = y
    by_cases hx : -M ≤ x ∧ x ≤ M
    · by_cases hy : -M ≤ y ∧ y ≤ M
      · by_cases hxy : y ≤ x
        · rw [cf (by simp; omega), cf (by simp; omega), ct (by simpa using hxy), if_neg (by simp; omega)]
        · rw [cf (by simp; omega), cf (by simp; omega), cf (by simpa using hxy), if_pos (by simp; omega)]
          cases o <;> cases hd : decide (Int.tmod x 2 = 0) <;> simp
      · rw [cf (by simp; omega), ct (by simp; omega), if_neg (by simp; omega)]
    · rw [ct (by simp; omega), if_neg (by simp; omega)]
theorem isBox_v {b : Int × List Int × List Int} : i_isBox b = some (bOk b.1 b.2.1 b.2.2) := by
  obtain ⟨K, lo, hi⟩ := b
  unfold i_isBox bOk
  rw [bsome (inside_v ..)]
  simp only
  by_cases hK : 0 ≤ K ∧ K ≤ 8
  rotate_left
  · simp [hK]
  rw [cf (by simp [hK]), bsome (inside_v ..)]
  by_cases hl : 1 ≤ lo.length ∧ lo.length ≤ 3
  rotate_left
  · rw [ct (by simp; omega)]; simp [hl]
  rw [cf (by simp; omega)]
  by_cases he : hi.length = lo.length
  rotate_left
  · rw [ct (by simp; omega)]; simp [he]
  rw [cf (by simp [he]), ct (by simp; omega), show IntKind.bits .i64 = 64 from rfl, Nat.min_eq_left (by omega)]
  have h1 := p2le (show K.toNat ≤ 8 by omega)
  have h2 := p2pos K.toNat
  rw [wrap64 (by omega) (by omega)]
  generalize hM : (8 : Int) * 2 ^ K.toNat = M
  have hM0 : 0 < M ∧ M ≤ 2048 := by omega
  refine (allor_loop (f := fun i o => i_isBox_1005 (K, lo, hi) M o lo lo.length (i : Int)) (od := bOdd lo hi) (ok := bSide M lo hi) (n := lo.length) (fun o => ?_) (fun i o hil => ?_) _).trans (by simp [hK, hl, he])
  · show i_isBox_1005 _ _ _ _ _ _ = _
    rw [Ei_isBox_1005, cf ltf]
  · show i_isBox_1005 _ _ _ _ _ _ = if _ then i_isBox_1005 _ _ _ _ _ _ else _
    have hb : boundA (i : Int) hi.length = true := bA (by omega)
    rw [Ei_isBox_1005, ct (ltt hil), ct (bA hil), Int.toNat_natCast, wrap64 (n := 0 - M) (by omega) (by omega), sc hil (by omega), bsome (inside_v ..)]
    simp only [ct hb]
    unfold bSide bOdd
    generalize lo.getD i 0 = x
    generalize hi.getD i 0 = y
    by_cases hx : -M ≤ x ∧ x ≤ M
    · rw [cf (by simp; omega), wrap64 (n := x + 1) (by omega) (by omega), bsome (inside_v ..)]
      by_cases hy : x + 1 ≤ y ∧ y ≤ M
      · rw [cf (by simp; omega), if_pos (by simp; omega)]
        cases o <;> cases hd : decide (Int.tmod x 2 = 0) <;> simp
      · rw [ct (by simp; omega), if_neg (by simp; omega)]
    · rw [ct (by simp; omega), if_neg (by simp; omega)]
/-! entry -/
/-- A name of an entry. -/
def nmOk (s : ByteArray) : Bool := (List.range s.size).all (fun i => decide (97 ≤ (s.data.getD i 0).toNat ∧ (s.data.getD i 0).toNat ≤ 122))
theorem name_all {s : ByteArray} {f : Nat → Option Bool} {e : Option Bool} (h0 : f s.size = e)
    (h1 : ∀ i, i < s.size → f i = if decide (97 ≤ (s.data.getD i 0).toNat ∧ (s.data.getD i 0).toNat ≤ 122) then f (i + 1) else some false) : f 0 = if nmOk s then e else some false :=
  all_loop (f := f) (n := s.size) (fun _ => h0) (fun i hi _ => h1 i hi)
theorem caName_v {s : ByteArray} (hs : s.size ≤ 1000000) : s_caName s = some (nmOk s && decide (1 ≤ s.size ∧ s.size ≤ 8)) := by
  unfold s_caName
  refine (name_all (s := s) (f := fun i => s_caName_1002 s (i : Int)) (e := some (decide (1 ≤ s.size ∧ s.size ≤ 8))) ?_ fun i hi => ?_).trans ?_
  · show s_caName_1002 _ _ = _
    rw [Es_caName_1002, cf ltf, bret, l1In_v]
    congr 2; simp; omega
  · show s_caName_1002 _ _ = if _ then s_caName_1002 _ _ else _
    rw [Es_caName_1002, ct (ltt hi), ct (bA hi), ct (bA hi), sc hi (by omega), Int.toNat_natCast]
    generalize (s.data.getD i 0).toNat = c
    by_cases h1 : c < 97
    · rw [ct (by simp; omega), if_neg (by simp; omega)]
    · by_cases h2 : 122 < c
      · rw [cf (by simp; omega), ct (by simp; omega), if_neg (by simp; omega)]
      · rw [cf (by simp; omega), cf (by simp; omega), if_pos (by simp; omega)]
  · cases nmOk s <;> rfl
abbrev Bx := Int × List Int × List Int
abbrev En := ByteArray × List (List Tm) × Bx × Int × Int × Int
def overOk (s : List (List Tm)) (b : Bx) : Bool := sOk s && (bOk b.1 b.2.1 b.2.2 && decide (s.length = b.2.1.length))
theorem vaBoth_v {s : List (List Tm)} {b : Bx} (hn : s.length ≤ 1000000) (hp : ∀ p ∈ s, p.length ≤ 1000000) : s_vaBoth s b.1 b.2.1 b.2.2 = some (overOk s b) := by
  unfold s_vaBoth overOk
  rw [bsome (poSystem_v hn hp)]
  cases sOk s with
  | false => rfl
  | true =>
    rw [ct rfl, bsome bxGood_v]
    cases bOk b.1 b.2.1 b.2.2 with
    | false => rfl
    | true => rw [ct rfl]; congr 1; simp; omega
theorem systemOver_v {s : List (List Tm)} {b : Bx} (hn : s.length ≤ 1000000) (hp : ∀ p ∈ s, p.length ≤ 1000000) : i_systemOver s b = some (overOk s b) := by
  unfold i_systemOver overOk
  rw [bsome (isSystem_v hn hp)]
  cases sOk s with
  | false => rfl
  | true =>
    rw [ct rfl, bsome isBox_v]
    cases bOk b.1 b.2.1 b.2.2 with
    | false => rfl
    | true => rw [ct rfl]; congr 1; simp; omega
/-- Whether an entry is valid. -/
def enOk (e : En) : Bool := (nmOk e.1 && decide (1 ≤ e.1.size ∧ e.1.size ≤ 8)) && (overOk e.2.1 e.2.2.1 && decide (0 ≤ e.2.2.2.1 ∧ e.2.2.2.1 ≤ e.2.2.2.2.1 ∧ e.2.2.2.2.1 ≤ 64 ∧ 1 ≤ e.2.2.2.2.2 ∧ e.2.2.2.2.2 ≤ 999))
theorem caEntry_v {e : En} (hs : e.1.size ≤ 1000000) (hn : e.2.1.length ≤ 1000000) (hp : ∀ p ∈ e.2.1, p.length ≤ 1000000) : s_caEntry e.1 e.2.1 e.2.2.1.1 e.2.2.1.2.1 e.2.2.1.2.2 e.2.2.2.1 e.2.2.2.2.1 e.2.2.2.2.2 = some (enOk e) := by
  unfold s_caEntry enOk
  rw [bsome (caName_v hs)]
  cases nmOk e.1 && decide (1 ≤ e.1.size ∧ e.1.size ≤ 8) with
  | false => rfl
  | true =>
    rw [ct rfl, bsome (vaBoth_v (b := e.2.2.1) hn hp)]
    cases overOk e.2.1 e.2.2.1 with
    | false => rfl
    | true =>
      simp only [l1In_v, Option.bind_some, cond_true, Bool.true_and, cond_eq_ite, decide_eq_true_eq]
      (repeat' split) <;> simp only [Option.some.injEq, decide_eq_decide, Bool.false_eq, Bool.true_eq, decide_eq_false_iff_not, decide_eq_true_eq] <;> first | omega | simp_all
theorem isEntry_v {e : En} (hs : e.1.size ≤ 1000000) (hn : e.2.1.length ≤ 1000000) (hp : ∀ p ∈ e.2.1, p.length ≤ 1000000) : i_isEntry e = some (enOk e) := by
  unfold i_isEntry
  refine (name_all (s := e.1) (f := fun i => i_isEntry_1002 e e.1.size (i : Int)) (e := some (decide (1 ≤ e.1.size ∧ e.1.size ≤ 8) && (overOk e.2.1 e.2.2.1 && decide (0 ≤ e.2.2.2.1 ∧ e.2.2.2.1 ≤ e.2.2.2.2.1 ∧ e.2.2.2.2.1 ≤ 64 ∧ 1 ≤ e.2.2.2.2.2 ∧ e.2.2.2.2.2 ≤ 999)))) ?_ fun i hi => ?_).trans ?_
  · show i_isEntry_1002 _ _ _ = _
    rw [Ei_isEntry_1002, cf ltf, bsome (inside_v ..)]
    by_cases h : 1 ≤ e.1.size ∧ e.1.size ≤ 8
    · rw [ct (by simp; omega), bsome (systemOver_v hn hp)]
      cases overOk e.2.1 e.2.2.1 with
      | false => simp
      | true =>
        simp only [inside_v, Option.bind_some, cond_true, cond_eq_ite, h, and_self, decide_true, Bool.true_and, decide_eq_true_eq]
        (repeat' split) <;> simp only [Option.some.injEq, decide_eq_decide, Bool.false_eq, Bool.true_eq, decide_eq_false_iff_not, decide_eq_true_eq] <;> first | omega | simp_all
    · rw [cf (by simp; omega)]; simp [h]
  · show i_isEntry_1002 _ _ _ = if _ then i_isEntry_1002 _ _ _ else _
    rw [Ei_isEntry_1002, ct (ltt hi), ct (bA hi), ct (bA hi), sc hi (by omega), Int.toNat_natCast]
    generalize (e.1.data.getD i 0).toNat = c
    by_cases h1 : c < 97
    · rw [ct (by simp; omega), if_neg (by simp; omega)]
    · by_cases h2 : 122 < c
      · rw [cf (by simp; omega), ct (by simp; omega), if_neg (by simp; omega)]
      · rw [cf (by simp; omega), cf (by simp; omega), if_pos (by simp; omega)]
  · unfold enOk
    cases nmOk e.1 <;> cases decide (1 ≤ e.1.size ∧ e.1.size ≤ 8) <;> rfl
/-! catalogue -/
abbrev en0 : En := (ByteArray.empty, [], (0, [], []), 0, 0, 0)
def eAt (l : List En) (j : Nat) : En := l.getD j en0
def cStep (l : List En) (j : Nat) : Bool := enOk (eAt l j) && (decide (j = 0) || Op.bytesLess (eAt l (j - 1)).1.toList (eAt l j).1.toList)
/-- Whether entries are a catalogue. -/
def caOk (l : List En) : Bool := (List.range l.length).all (cStep l) && decide (l.length ≤ 10)
theorem eAt_v (l : List En) (i : Nat) : List.getD l (Int.toNat (i : Int)) (ByteArray.empty, [], (0, [], []), 0, 0, 0) = eAt l i := by unfold eAt; rw [Int.toNat_natCast]
def EnSz (e : En) : Prop := e.1.size ≤ 1000000 ∧ e.2.1.length ≤ 1000000 ∧ ∀ p ∈ e.2.1, p.length ≤ 1000000
theorem eAt_sz {l : List En} (h : ∀ e ∈ l, EnSz e) {i : Nat} (hi : i < l.length) : EnSz (eAt l i) := by
  have : eAt l i = l[i] := by unfold eAt; rw [List.getD_eq_getElem?_getD, List.getElem?_eq_getElem hi]; rfl
  rw [this]; exact h _ (List.getElem_mem hi)
theorem cat_all {l : List En} {f : Nat → Option Bool} (h0 : f l.length = some (decide (l.length ≤ 10)))
    (h1 : ∀ i, i < l.length → f i = if cStep l i then f (i + 1) else some false) : f 0 = some (caOk l) := by
  have := all_loop (f := f) (n := l.length) (ok := cStep l) (e := some (decide (l.length ≤ 10))) (fun _ => h0) (fun i hi _ => h1 i hi)
  rw [this]
  unfold caOk
  cases (List.range l.length).all (cStep l) <;> rfl
theorem caGood_v {l : List En} (hl : l.length ≤ 1000000) (h : ∀ e ∈ l, EnSz e) : s_caGood l = some (caOk l) := by
  unfold s_caGood
  refine cat_all (f := fun i => s_caGood_1002 l l l.length (i : Int)) ?_ fun i hi => ?_
  · show s_caGood_1002 _ _ _ _ = _
    rw [Es_caGood_1002, cf ltf]
    congr 1; simp; omega
  · show s_caGood_1002 _ _ _ _ = if _ then s_caGood_1002 _ _ _ _ else _
    obtain ⟨z1, z2, z3⟩ := eAt_sz h hi
    rw [Es_caGood_1002, ct (ltt hi), ct (bA hi), eAt_v, bsome (caEntry_v z1 z2 z3), sc hi (by omega)]
    unfold cStep
    cases enOk (eAt l i) with
    | false => simp
    | true =>
      rw [cnt]
      by_cases h0 : i = 0
      · subst h0; rw [cf (by decide)]; simp
      · have hp : 0 < i := by omega
        rw [ct (by simp; omega), pd hi hp (by omega), ct (bA (by omega)), eAt_v]
        cases Op.bytesLess (eAt l (i - 1)).1.toList (eAt l i).1.toList <;> simp [h0]
theorem isCatalogue_v {l : List En} (hl : l.length ≤ 1000000) (h : ∀ e ∈ l, EnSz e) : i_isCatalogue l = some (caOk l) := by
  unfold i_isCatalogue
  refine cat_all (f := fun i => i_isCatalogue_1002 l l.length (i : Int)) ?_ fun i hi => ?_
  · show i_isCatalogue_1002 _ _ _ = _
    rw [Ei_isCatalogue_1002, cf ltf]
    congr 1; simp; omega
  · show i_isCatalogue_1002 _ _ _ = if _ then i_isCatalogue_1002 _ _ _ else _
    obtain ⟨z1, z2, z3⟩ := eAt_sz h hi
    rw [Ei_isCatalogue_1002, ct (ltt hi), ct (bA hi), eAt_v, bsome (isEntry_v z1 z2 z3), sc hi (by omega)]
    unfold cStep
    cases enOk (eAt l i) with
    | false => simp
    | true =>
      rw [cnt]
      by_cases h0 : i = 0
      · subst h0; rw [cf (by decide)]; simp
      · have hp : 0 < i := by omega
        rw [ct (by simp; omega), pd hi hp (by omega), ct (bA (by omega)), ct (bA hi), eAt_v]
        cases Op.bytesLess (eAt l (i - 1)).1.toList (eAt l i).1.toList <;> simp [h0]
/-! scaf -/
def rb (n : Nat) : Nat := if n % 6 = 5 then 0 else if n % 3 = 0 then 1 else n
theorem rb_le (n : Nat) : rb n ≤ n + 1 := by unfold rb; split <;> (try split) <;> omega
theorem walk_loop {f : Int → Option Bool} {n : Nat} {r : Option Bool} (h : ∀ i : Nat, i < n → f i = f ((i + 1 : Nat) : Int)) (h' : f n = r) : f 0 = r := by
  have main : ∀ m i : Nat, i + m = n → f i = r := by
    intro m
    induction m with
    | zero => intro i hi; rw [show i = n by omega, h']
    | succ m ih => intro i hi; rw [h i (by omega), ih (i + 1) (by omega)]
  exact main n 0 (by omega)
theorem to_loop {A V : Type} {a : List A} {f5 f9 : List V → Int → Option (List V × Nat)} {fill d : V} {fgE : V → A} {Q : V → Prop} {R : Nat}
    (h5 : ∀ (outs : List V) (i : Nat) (hi : i < a.length), outs.length = a.length + R → ∃ v, fgE v = a[i] ∧ Q v ∧ f5 outs i = f5 (outs.set i v) ((i + 1 : Nat) : Int))
    (h5' : ∀ outs, f5 outs a.length = f9 outs a.length)
    (h9 : ∀ (outs : List V) (i : Nat), i < outs.length → outs.length = a.length + R → f9 outs i = f9 (outs.set i fill) ((i + 1 : Nat) : Int))
    (h9' : ∀ outs : List V, outs.length = a.length + R → f9 outs outs.length = some (outs, a.length)) :
    ∃ P : List V, P.length = a.length ∧ P.map fgE = a ∧ (∀ v ∈ P, Q v) ∧ f5 (List.replicate (a.length + R) d) 0 = some (P ++ List.replicate R fill, a.length) := by
  have second : ∀ (P : List V) (m j : Nat), P.length = a.length → j + m = R → f9 (P ++ (List.replicate j fill ++ List.replicate m d)) ((a.length + j : Nat) : Int) = some (P ++ List.replicate R fill, a.length) := by
    intro P m
    induction m with
    | zero =>
      intro j hP hj
      obtain rfl : j = R := by omega
      have := h9' (P ++ (List.replicate j fill ++ List.replicate 0 d)) (by simp [hP])
      simp only [List.replicate_zero, List.append_nil] at this ⊢
      rw [← this]
      simp [hP]
    | succ m ih =>
      intro j hP hj
      rw [h9 _ _ (by simp; omega) (by simp [hP]; omega)]
      have e : (P ++ (List.replicate j fill ++ List.replicate (m + 1) d)).set (a.length + j) fill = P ++ (List.replicate (j + 1) fill ++ List.replicate m d) := by
        rw [List.set_append_right _ _ (by omega), List.set_append_right _ _ (by simp; omega), List.replicate_succ, List.length_replicate, show a.length + j - P.length - j = 0 by omega, List.set_cons_zero, List.replicate_succ']
        simp
      rw [e]
      exact ih (j + 1) hP (by omega)
  have first : ∀ (m : Nat) (P : List V), P.length + m = a.length → P.map fgE = a.take P.length → (∀ v ∈ P, Q v) →
      ∃ P' : List V, P'.length = a.length ∧ P'.map fgE = a ∧ (∀ v ∈ P', Q v) ∧ f5 (P ++ List.replicate (m + R) d) (P.length : Int) = some (P' ++ List.replicate R fill, a.length) := by
    intro m
    induction m with
    | zero =>
      intro P hP hm hQ
      refine ⟨P, by omega, by rw [hm, List.take_of_length_le (by omega)], hQ, ?_⟩
      rw [show P.length = a.length by omega, h5']
      have := second P R 0 (by omega) (by omega)
      rw [← this]
      simp
    | succ m ih =>
      intro P hP hm hQ
      obtain ⟨v, g1, g2, g3⟩ := h5 (P ++ List.replicate (m + 1 + R) d) P.length (by omega) (by simp; omega)
      obtain ⟨P', q1, q2, q3, q4⟩ := ih (P ++ [v]) (by simp; omega) (by rw [List.map_append, hm, List.length_append, List.length_singleton, List.take_succ_eq_append_getElem (show P.length < a.length by omega)]; simp [g1]) (fun u hu => by
        rcases List.mem_append.1 hu with h | h
        · exact hQ u h
        · rw [List.mem_singleton.1 h]; exact g2)
      refine ⟨P', q1, q2, q3, ?_⟩
      rw [g3, ← q4]
      have e : (P ++ List.replicate (m + 1 + R) d).set P.length v = P ++ [v] ++ List.replicate (m + R) d := by
        rw [List.set_append_right _ _ (by omega), Nat.sub_self, show m + 1 + R = m + R + 1 by omega, List.replicate_succ, List.set_cons_zero]
        simp
      rw [e, List.length_append, List.length_singleton]
  have := first a.length [] (by simp) (by simp) (by simp)
  simpa using this
theorem roomBehind_v (n : Nat) : w_roomBehind (n : Int) = some (rb n : Int) := by
  have h6 : Int.tmod (n : Int) 6 = ((n % 6 : Nat) : Int) := by rw [Int.tmod_eq_emod_of_nonneg (by omega)]; omega
  have h3 : Int.tmod (n : Int) 3 = ((n % 3 : Nat) : Int) := by rw [Int.tmod_eq_emod_of_nonneg (by omega)]; omega
  unfold w_roomBehind rb
  rw [h6, h3]
  by_cases h : n % 6 = 5
  · rw [if_pos h, ct (by simp; omega)]; rfl
  · rw [if_neg h, cf (by simp; omega)]
    by_cases h' : n % 3 = 0
    · rw [if_pos h', ct (by simp; omega)]; rfl
    · rw [if_neg h', cf (by simp; omega)]
theorem rbw {n : Nat} (h : n ≤ 1000000) : IntKind.wrap .i64 ((n : Int) + (rb n : Int)) = ((n + rb n : Nat) : Int) := by
  have := rb_le n
  rw [wrap64 (by omega) (by omega)]; omega
theorem blt {i n : Nat} (h : i < n) : Nat.blt i n = true := by simp [Nat.blt_eq, h]
end Go.Proofs.YtbaeikcfchiiaaaE
