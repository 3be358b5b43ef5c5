/- Plain lemmas on what the printed functions come to. -/
import Derived.Test.YtchdegcfohegfaaHA1
set_option maxRecDepth 100000
set_option linter.unusedVariables false
set_option linter.unusedSimpArgs false
namespace Go.Proofs.YtchdegcfohegfaaE
/-! core -/
theorem ct {α : Type} {c : Bool} {x y : α} (h : c = true) : (bif c then x else y) = x := by rw [h]; rfl
theorem cf {α : Type} {c : Bool} {x y : α} (h : c = false) : (bif c then x else y) = y := by rw [h]; rfl
theorem cnt {α : Type} {x y : α} : (bif !true then x else y) = y := rfl
theorem cnf {α : Type} {x y : α} : (bif !false then x else y) = x := rfl
theorem bA {i n : Nat} (h : i < n) : boundA (i : Int) n = true := by simp [boundA, h]
theorem bE {i n : Nat} (h : i ≤ n) : boundE (i : Int) n = true := by simp [boundE, h]
theorem bAi {i : Int} {n : Nat} (h0 : 0 ≤ i) (h : i < n) : boundA i n = true := by simp [boundA, h, h0]
theorem bEi {i : Int} {n : Nat} (h0 : 0 ≤ i) (h : i ≤ n) : boundE i n = true := by simp [boundE, h, h0]
theorem gD {α : Type} {xs : List α} {i : Nat} {d : α} (h : i < xs.length) : List.getD xs (Int.toNat (i : Int)) d = xs[i] := by
  rw [Int.toNat_natCast, List.getD_eq_getElem?_getD, List.getElem?_eq_getElem h]; rfl
theorem sc {i n : Nat} (h : i < n) (hn : n ≤ 9223372036854775807) : IntKind.wrap .i64 ((i : Int) + 1) = ((i + 1 : Nat) : Int) := by
  rw [wrap64 (by omega) (by omega)]; omega
theorem pd {i n : Nat} (h : i < n) (h0 : 0 < i) (hn : n ≤ 9223372036854775807) : IntKind.wrap .i64 ((i : Int) - 1) = ((i - 1 : Nat) : Int) := by
  rw [wrap64 (by omega) (by omega)]; omega
theorem ltt {i n : Nat} (h : i < n) : decide ((i : Int) < (n : Int)) = true := by simp [h]
theorem ltf {n : Nat} : decide ((n : Int) < (n : Int)) = false := by simp
theorem bsome {α β : Type} {x : Option α} {a : α} {f : α → Option β} (h : x = some a) : x.bind f = f a := by rw [h]; rfl
theorem bret {α : Type} (x : Option α) : (x.bind fun r => some r) = x := by cases x <;> rfl

/-- A loop that ends with false at the first that is not so. -/
theorem all_loop {f : Nat → Option Bool} {n : Nat} {ok : Nat → Bool} {e : Option Bool} (h0 : (∀ j, j < n → ok j = true) → f n = e)
    (h1 : ∀ i, i < n → (∀ j, j < i → ok j = true) → f i = if ok i then f (i + 1) else some false) : f 0 = if (List.range n).all ok then e else some false := by
  have main : ∀ m i, i + m = n → (∀ j, j < i → ok j = true) → f i = if (List.range n).all ok then e else some false := by
    intro m
    induction m with
    | zero =>
      intro i hi hj
      obtain rfl : i = n := by omega
      rw [h0 hj, if_pos]
      rw [List.all_eq_true]
      exact fun x hx => hj x (List.mem_range.1 hx)
    | succ m ih =>
      intro i hi hj
      rw [h1 i (by omega) hj]
      cases h : ok i with
      | true =>
        rw [if_pos rfl]
        exact ih (i + 1) (by omega) fun j hji => by
          by_cases e : j = i
          · rw [e]; exact h
          · exact hj j (by omega)
      | false =>
        rw [if_neg (by simp), if_neg]
        rw [List.all_eq_true]
        exact fun hx => by have := hx i (List.mem_range.2 (by omega)); rw [h] at this; cases this
  exact main n 0 (by omega) fun j hj => absurd hj (Nat.not_lt_zero j)

/-- A loop over a state, as a plain recursion. -/
def loopM {σ R : Type} (st : Nat → σ → R ⊕ σ) (fin : σ → R) : Nat → Nat → σ → R
  | 0, _, s => fin s
  | m + 1, i, s => match st i s with
    | .inl r => r
    | .inr s' => loopM st fin m (i + 1) s'
theorem loop_eq {σ R : Type} {f : Nat → σ → Option R} {st : Nat → σ → R ⊕ σ} {fin : σ → R} {n : Nat} (Inv : Nat → σ → Prop)
    (h0 : ∀ s, Inv n s → f n s = some (fin s))
    (h1 : ∀ i s, i < n → Inv i s → (∃ r, st i s = .inl r ∧ f i s = some r) ∨ (∃ s', st i s = .inr s' ∧ f i s = f (i + 1) s' ∧ Inv (i + 1) s')) :
    ∀ m i s, i + m = n → Inv i s → f i s = some (loopM st fin m i s) := by
  intro m
  induction m with
  | zero =>
    intro i s hi hs
    obtain rfl : i = n := by omega
    exact h0 s hs
  | succ m ih =>
    intro i s hi hs
    rcases h1 i s (by omega) hs with ⟨r, e1, e2⟩ | ⟨s', e1, e2, e3⟩
    · rw [e2]; simp only [loopM, e1]
    · rw [e2, ih (i + 1) s' (by omega) e3]; simp only [loopM, e1]
/-- Two loops side by side. -/
theorem loop2 {σ τ R : Type} {f : Nat → σ → Option R} {g : Nat → τ → Option R} {n : Nat} (Q : Nat → σ → τ → Prop)
    (h0 : ∀ s t, Q n s t → ∃ r, f n s = some r ∧ g n t = some r)
    (h1 : ∀ i s t, i < n → Q i s t → (∃ r, f i s = some r ∧ g i t = some r) ∨ (∃ s' t', f i s = f (i + 1) s' ∧ g i t = g (i + 1) t' ∧ Q (i + 1) s' t')) :
    ∀ m i s t, i + m = n → Q i s t → ∃ r, f i s = some r ∧ g i t = some r := by
  intro m
  induction m with
  | zero =>
    intro i s t hi hs
    obtain rfl : i = n := by omega
    exact h0 s t hs
  | succ m ih =>
    intro i s t hi hs
    rcases h1 i s t (by omega) hs with ⟨r, e1, e2⟩ | ⟨s', t', e1, e2, e3⟩
    · exact ⟨r, e1, e2⟩
    · rw [e1, e2]; exact ih (i + 1) s' t' (by omega) e3
/-! range -/
theorem l1In_v (n lo hi : Int) : s_l1In n lo hi = some (decide (lo ≤ n ∧ n ≤ hi)) := by
  unfold s_l1In
  by_cases h : lo ≤ n <;> simp [h]
theorem inside_v (n lo hi : Int) : i_inside n lo hi = some (decide (lo ≤ n ∧ n ≤ hi)) := by
  unfold i_inside
  by_cases h : lo ≤ n <;> simp [h]
/-! trees -/
abbrev Nd := Int × Int
theorem drop_at {α : Type} (l : List α) (i : Nat) (h : i < l.length) : l.drop i = l[i] :: l.drop (i + 1) := List.drop_eq_getElem_cons h
/-- Is a node valid for a number of sides. -/
def vN (s : Int) (n : Nd) : Bool := if n.1 = 0 then decide (0 ≤ n.2 ∧ n.2 ≤ s - 1) else if n.1 = 1 ∨ n.1 = 2 then decide (0 ≤ n.2 ∧ n.2 ≤ 99) else if n.1 = 3 then decide (n.2 = 0) else false
/-- The nodes behind as many trees as the stack has depths, or none; each node is tested. -/
def run (s : Int) : List Nd → List Nat → Option (List Nd)
  | l, [] => some l
  | [], _ :: _ => none
  | n :: l, d :: st => if 20 < d then none else if vN s n then (if n.1 = 0 then run s l ((d + 1) :: (d + 1) :: st) else run s l st) else none
/-- The same without tests. -/
def ctn : List Nd → Nat → Option (List Nd)
  | l, 0 => some l
  | [], _ + 1 => none
  | n :: l, c + 1 => if n.1 = 0 then ctn l (c + 2) else ctn l c
/-- The depths of the nodes, as the stack goes. -/
def deps : List Nd → List Nat → List Nat
  | [], _ => []
  | _ :: l, [] => l.map (fun _ => 0)
  | n :: l, d :: st => d :: (if n.1 = 0 then deps l ((d + 1) :: (d + 1) :: st) else deps l st)

theorem run_append (s : Int) : ∀ (l : List Nd) (a b : List Nat), run s l (a ++ b) = (run s l a).bind fun r => run s r b
  | l, [], b => by
    cases l <;> simp [run]
  | [], d :: a, b => by simp [run]
  | n :: l, d :: a, b => by
    simp only [List.cons_append, run]
    split
    · rfl
    · split
      · split
        · have := run_append s l ((d + 1) :: (d + 1) :: a) b
          simpa using this
        · exact run_append s l a b
      · rfl
theorem run_cons (s : Int) (l : List Nd) (d : Nat) (b : List Nat) : run s l (d :: b) = (run s l [d]).bind fun r => run s r b := run_append s l [d] b
theorem run_suffix (s : Int) : ∀ (l : List Nd) (st : List Nat) (r : List Nd), run s l st = some r → ∃ p, l = p ++ r ∧ st.length ≤ p.length
  | l, [], r, h => by
    have : l = r := by cases l <;> simpa [run] using h
    exact ⟨[], by simp [this], by simp⟩
  | [], d :: st, r, h => by simp [run] at h
  | n :: l, d :: st, r, h => by
    simp only [run] at h
    split at h
    · cases h
    · split at h
      · split at h
        · obtain ⟨p, rfl, hp⟩ := run_suffix s l _ r h
          exact ⟨n :: p, rfl, by simp at hp ⊢; omega⟩
        · obtain ⟨p, rfl, hp⟩ := run_suffix s l _ r h
          exact ⟨n :: p, rfl, by simp at hp ⊢; omega⟩
      · cases h
theorem run_cnt (s : Int) : ∀ (l : List Nd) (st : List Nat) (r : List Nd), run s l st = some r → ctn l st.length = some r
  | l, [], r, h => by
    have : l = r := by cases l <;> simpa [run] using h
    cases l <;> simp [ctn, this] <;> simpa using this
  | [], d :: st, r, h => by simp [run] at h
  | n :: l, d :: st, r, h => by
    simp only [run] at h
    split at h
    · cases h
    · split at h
      · simp only [List.length_cons, ctn]
        split at h
        · rename_i h0
          rw [if_pos h0]
          exact run_cnt s l _ r h
        · rename_i h0
          rw [if_neg h0]
          exact run_cnt s l _ r h
      · cases h
/-- All nodes read, each valid and not too deep: just that. -/
theorem run_iff (s : Int) : ∀ (l : List Nd) (st : List Nat), run s l st = some [] ↔ ctn l st.length = some [] ∧ (∀ n ∈ l, vN s n = true) ∧ ∀ d ∈ deps l st, d ≤ 20
  | [], [] => by simp [run, ctn, deps]
  | n :: l, [] => by simp [run, ctn]
  | [], d :: st => by simp [run, ctn]
  | n :: l, d :: st => by
    simp only [run, List.length_cons, ctn, deps, List.mem_cons, forall_eq_or_imp]
    by_cases hd : 20 < d
    · simp only [if_pos hd]
      constructor
      · intro h; cases h
      · rintro ⟨_, _, h, _⟩; omega
    · rw [if_neg hd]
      by_cases hv : vN s n = true
      · rw [if_pos hv]
        by_cases h0 : n.1 = 0
        · simp only [if_pos h0]
          rw [run_iff s l]
          simp only [List.length_cons]
          constructor
          · rintro ⟨a, b, c⟩; exact ⟨a, ⟨hv, b⟩, by omega, c⟩
          · rintro ⟨a, ⟨_, b⟩, _, c⟩; exact ⟨a, b, c⟩
        · simp only [if_neg h0]
          rw [run_iff s l]
          constructor
          · rintro ⟨a, b, c⟩; exact ⟨a, ⟨hv, b⟩, by omega, c⟩
          · rintro ⟨a, ⟨_, b⟩, _, c⟩; exact ⟨a, b, c⟩
      · rw [if_neg hv]
        constructor
        · intro h; cases h
        · rintro ⟨_, ⟨h, _⟩, _⟩; exact absurd h hv

theorem deps_length : ∀ (l : List Nd) (c : Nat) (st : List Nat), st.length = c → ctn l c = some [] → (deps l st).length = l.length
  | [], _, _, _, _ => by simp [deps]
  | n :: l, 0, st, hst, h => by simp [ctn] at h
  | n :: l, c + 1, [], hst, h => by simp at hst
  | n :: l, c + 1, d :: st, hst, h => by
    simp only [ctn] at h
    simp only [deps, List.length_cons]
    split at h
    · rename_i h0
      rw [if_pos h0, deps_length l (c + 2) _ (by simp at hst ⊢; omega) h]
    · rename_i h0
      rw [if_neg h0, deps_length l c _ (by simpa using hst) h]

def teV (l : List Nd) (r : Option (List Nd)) : Int := match r with | some r => (l.length : Int) - (r.length : Int) | none => -1
theorem run_rest (s : Int) {l : List Nd} {p : Nat} {st : List Nat} {r : List Nd} (h : run s (l.drop p) st = some r) : r = l.drop (l.length - r.length) ∧ r.length + st.length ≤ l.length - p := by
  obtain ⟨q, hq, hl⟩ := run_suffix s _ _ _ h
  have h1 : (l.drop p).length = q.length + r.length := by rw [hq]; simp
  rw [List.length_drop] at h1
  refine ⟨?_, by omega⟩
  have h2 : l.drop (p + q.length) = r := by rw [← List.drop_drop, hq]; simp
  by_cases hp : p ≤ l.length
  · rw [show l.length - r.length = p + q.length by omega, h2]
  · have : r = [] := by
      have : r.length = 0 := by omega
      exact List.eq_nil_of_length_eq_zero this
    subst this
    simp
/-- Is a list a tree for a number of sides. -/
def whole (r : Option (List Nd)) : Bool := match r with | some [] => true | _ => false
theorem whole_iff (r : Option (List Nd)) : whole r = true ↔ r = some [] := by
  unfold whole
  split
  · simp
  · rename_i h
    simp
    exact h
def isT (s : Int) (l : List Nd) : Bool := decide (1 ≤ s ∧ s ≤ 3) && (decide (l.length ≤ 200) && whole (run s l [0]))
/-! treeI -/
theorem nbt {α : Type} {x y : α} : (bif !true then x else y) = y := rfl
theorem treeEnd_l (l : List Nd) (hl : l.length ≤ 1000000) : ∀ (m p o : Nat), p + m = l.length → o + m ≤ 4000000 → i_treeEnd_1002 l (p : Int) (o : Int) = some (teV l (ctn (l.drop p) o)) := by
  intro m
  induction m with
  | zero =>
    intro p o hp ho
    obtain rfl : p = l.length := by omega
    rw [Ei_treeEnd_1002, List.drop_length]
    cases o with
    | zero => rw [cf (by decide)]; simp [teV, ctn]
    | succ o => rw [ct (decide_eq_true (by omega)), ct (by simp)]; simp [teV, ctn]
  | succ m ih =>
    intro p o hp ho
    have hlt : p < l.length := by omega
    rw [Ei_treeEnd_1002]
    cases o with
    | zero =>
      rw [cf (by decide), drop_at l p hlt]
      simp only [teV, ctn, List.length_cons, List.length_drop]
      congr 1
      omega
    | succ o =>
      rw [ct (decide_eq_true (by omega)), cf (decide_eq_false (by omega)), ct (bA hlt), gD hlt, drop_at l p hlt]
      simp only [ctn]
      rw [wrap64 (n := (p : Int) + 1) (by omega) (by omega), wrap64 (n := ((o + 1 : Nat) : Int) + 1) (by omega) (by omega), wrap64 (n := ((o + 1 : Nat) : Int) - 1) (by omega) (by omega)]
      by_cases h0 : l[p].1 = 0
      · rw [if_pos h0, ct (decide_eq_true h0)]
        exact ih (p + 1) (o + 2) (by omega) (by omega)
      · rw [if_neg h0, cf (decide_eq_false h0)]
        have e : ((o + 1 : Nat) : Int) - 1 = (o : Int) := by omega
        rw [e]
        exact ih (p + 1) o (by omega) (by omega)
theorem isNode_v (s : Int) (hs : 1 ≤ s ∧ s ≤ 3) (n : Nd) : i_isNode n.1 n.2 s = some (vN s n) := by
  obtain ⟨a, b⟩ := n
  unfold i_isNode vN
  simp only
  rw [wrap64 (n := s - 1) (by omega) (by omega)]
  by_cases h0 : a = 0
  · rw [ct (decide_eq_true h0), bret, inside_v, if_pos h0]
  · rw [cf (decide_eq_false h0), if_neg h0]
    by_cases h1 : a = 1
    · rw [ct (decide_eq_true h1), ct (decide_eq_true h1), bret, inside_v, if_pos (.inl h1)]
    · rw [cf (decide_eq_false h1)]
      by_cases h2 : a = 2
      · rw [ct (decide_eq_true h2), bret, inside_v, if_pos (.inr h2)]
      · rw [cf (decide_eq_false h2), if_neg (by omega)]
        by_cases h3 : a = 3
        · rw [ct (decide_eq_true h3), if_pos h3]
        · rw [cf (decide_eq_false h3), if_neg h3]
/-- The top of a stack. -/
theorem stk {α : Type} (q : List α) (x d : α) (hq : q.length ≤ 8000000) :
    IntKind.wrap .i64 (((q ++ [x]).length : Int) - 1) = (q.length : Int) ∧ boundA (q.length : Int) (q ++ [x]).length = true ∧ Nat.blt (Int.toNat (q.length : Int)) (q ++ [x]).length = true ∧ boundE (q.length : Int) (q ++ [x]).length = true ∧
      List.getD (q ++ [x]) (Int.toNat (q.length : Int)) d = x ∧ List.take (Int.toNat (q.length : Int)) (q ++ [x]) = q := by
  have hl : (q ++ [x]).length = q.length + 1 := by simp
  refine ⟨?_, bA (by omega), ?_, bE (by omega), ?_, ?_⟩
  · rw [hl, wrap64 (by omega) (by omega)]; omega
  · rw [Int.toNat_natCast, hl]; simp
  · rw [Int.toNat_natCast]; simp
  · rw [Int.toNat_natCast]; simp
theorem top_of {α : Type} {op : List α} (h : op ≠ []) : ∃ q x, op = q ++ [x] := ⟨op.dropLast, op.getLast h, (List.dropLast_concat_getLast h).symm⟩
/-- The paths' lengths are the depths. -/
theorem pathsOf_l (l : List Nd) (hl : l.length ≤ 1000000) : ∀ (m i : Nat) (op out : List ByteArray), i + m = l.length → out.length = i → op.length + m ≤ 4000000 → (∀ s ∈ op, s.size + m ≤ 4000000) → ctn (l.drop i) op.length = some [] →
    ∃ ps, i_pathsOf_1004 op out l (l.length : Int) (i : Int) = some (out ++ ps) ∧ ps.map (·.size) = deps (l.drop i) (op.reverse.map (·.size)) := by
  intro m
  induction m with
  | zero =>
    intro i op out hi ho hop hsz hc
    obtain rfl : i = l.length := by omega
    refine ⟨[], ?_, ?_⟩
    · rw [Ei_pathsOf_1004, cf ltf, List.append_nil]
    · rw [List.drop_length]; simp [deps]
  | succ m ih =>
    intro i op out hi ho hop hsz hc
    have hlt : i < l.length := by omega
    rw [drop_at l i hlt] at hc ⊢
    have hne : op ≠ [] := by
      rintro rfl
      simp [ctn] at hc
      omega
    obtain ⟨q, top, rfl⟩ := top_of hne
    have hql : (q ++ [top]).length = q.length + 1 := by simp
    obtain ⟨e1, e2, e3, e4, e5, e6⟩ := stk q top ByteArray.empty (by omega)
    have htop := hsz top (by simp)
    rw [hql] at hc
    simp only [ctn] at hc
    have hrev : ((q ++ [top]).reverse.map (·.size)) = top.size :: (q.reverse.map (·.size)) := by simp
    rw [hrev]
    simp only [deps]
    have hu : (top ++ (⟨#[117]⟩ : ByteArray)).size = top.size + 1 := by rw [ByteArray.size_append]; rfl
    have hd : (top ++ (⟨#[108]⟩ : ByteArray)).size = top.size + 1 := by rw [ByteArray.size_append]; rfl
    rw [Ei_pathsOf_1004, ct (ltt hlt), ct (bA hlt), e1, ct e2, ct e3, ct e4, e5, e6, sc hlt (by omega), gD hlt, ct (decide_eq_true (by simp; omega))]
    by_cases h0 : l[i].1 = 0
    · rw [if_pos h0] at hc ⊢
      obtain ⟨ps, hev, hps⟩ := ih (i + 1) (q ++ [top ++ (⟨#[117]⟩ : ByteArray), top ++ (⟨#[108]⟩ : ByteArray)]) (out ++ [top]) (by omega) (by simp [ho]) (by simp at hop ⊢; omega) (by
        intro s hs
        simp only [List.mem_append, List.mem_cons, List.not_mem_nil, or_false] at hs
        rcases hs with hs | rfl | rfl
        · have := hsz s (by simp [hs]); omega
        · rw [hu]; omega
        · rw [hd]; omega) (by simpa using hc)
      refine ⟨top :: ps, ?_, by simp [hps, hu, hd]⟩
      have z1 : ByteArray.size (⟨#[117]⟩ : ByteArray) = 1 := rfl
      have z2 : ByteArray.size (⟨#[108]⟩ : ByteArray) = 1 := rfl
      rw [ct (decide_eq_true h0), ct (decide_eq_true (by rw [z1]; omega)), ct (decide_eq_true (by rw [z2]; omega)), ct (decide_eq_true (by simp at hop ⊢; omega)), hev]
      simp
    · rw [if_neg h0] at hc ⊢
      obtain ⟨ps, hev, hps⟩ := ih (i + 1) q (out ++ [top]) (by omega) (by simp [ho]) (by simp at hop ⊢; omega) (fun s hs => by have := hsz s (by simp [hs]); omega) hc
      refine ⟨top :: ps, ?_, by simp [hps]⟩
      rw [cf (decide_eq_false h0), hev]
      simp
theorem isTree_loop (l : List Nd) (hl : l.length ≤ 1000000) (s : Int) (hs : 1 ≤ s ∧ s ≤ 3) (ps : List ByteArray) (hps : ps.length = l.length) : ∀ (m i : Nat), i + m = l.length →
    i_isTree_1004 l s ps (ps.length : Int) (i : Int) = some ((l.drop i).all (vN s) && (ps.drop i).all (fun p => decide (p.size ≤ 20))) := by
  intro m
  induction m with
  | zero =>
    intro i hi
    obtain rfl : i = l.length := by omega
    rw [Ei_isTree_1004, ← hps, cf ltf, List.drop_length, hps, List.drop_length]
    rfl
  | succ m ih =>
    intro i hi
    have hlt : i < l.length := by omega
    have hlt' : i < ps.length := by omega
    have hb : Nat.blt (Int.toNat (i : Int)) ps.length = true := by rw [Int.toNat_natCast]; simpa using hlt'
    rw [Ei_isTree_1004, ct (ltt hlt'), ct (bA hlt'), ct hb, ct (bA hlt), gD hlt, gD hlt', sc hlt (by omega), bsome (isNode_v s hs _), drop_at l i hlt, drop_at ps i hlt', ih (i + 1) (by omega)]
    simp only [List.all_cons]
    cases hv : vN s l[i] with
    | false => rfl
    | true =>
      rw [nbt]
      by_cases hz : ps[i].size ≤ 20
      · rw [cf (decide_eq_false (by omega))]; simp [hz]
      · rw [ct (decide_eq_true (by omega))]; simp [hz]
theorem isTree_v (l : List Nd) (hl : l.length ≤ 1000000) (s : Int) : i_isTree l s = some (isT s l) := by
  unfold i_isTree isT
  rw [bsome (inside_v ..)]
  by_cases h1 : 1 ≤ s ∧ s ≤ 3
  rotate_left
  · rw [decide_eq_false h1]; rfl
  rw [decide_eq_true h1, nbt, Bool.true_and]
  by_cases h3 : l.length ≤ 200
  rotate_left
  · rw [ct (decide_eq_true (by omega)), decide_eq_false h3]; rfl
  rw [cf (decide_eq_false (by omega)), decide_eq_true h3, Bool.true_and]
  have ht : i_treeEnd l 0 = some (teV l (ctn l 1)) := by
    unfold i_treeEnd
    exact treeEnd_l l hl l.length 0 1 (by omega) (by omega)
  rw [bsome ht]
  by_cases hc : ctn l 1 = some []
  · have hte : teV l (ctn l 1) = (l.length : Int) := by rw [hc]; simp [teV]
    rw [hte, cf (by simp)]
    obtain ⟨ps, e1, e2⟩ := pathsOf_l l hl l.length 0 [⟨#[]⟩] [] (by omega) rfl (by simp; omega) (by
      intro s hs
      simp only [List.mem_cons, List.not_mem_nil, or_false] at hs
      subst hs
      show 0 + l.length ≤ _
      omega) hc
    have hp : i_pathsOf l = some ps := by unfold i_pathsOf; exact e1
    rw [bsome hp]
    have e2 : ps.map (·.size) = deps l [0] := e2
    have hpl : ps.length = l.length := by
      have := congrArg List.length e2
      rw [List.length_map] at this
      rw [this]
      exact deps_length l 1 [0] rfl hc
    refine (isTree_loop l hl s h1 ps hpl l.length 0 (by omega)).trans ?_
    congr 1
    rw [List.drop_zero, List.drop_zero, Bool.eq_iff_iff, whole_iff, run_iff]
    simp only [Bool.and_eq_true, List.all_eq_true, decide_eq_true_eq]
    rw [← e2]
    constructor
    · rintro ⟨a, b⟩
      refine ⟨hc, a, fun d hd => ?_⟩
      obtain ⟨p, hp, rfl⟩ := List.mem_map.1 hd
      exact b p hp
    · rintro ⟨_, a, b⟩
      exact ⟨a, fun p hp => b _ (List.mem_map_of_mem hp)⟩
  · have hte : teV l (ctn l 1) ≠ (l.length : Int) := by
      unfold teV
      split
      · rename_i r hr
        intro e
        apply hc
        rw [hr]
        have : r.length = 0 := by omega
        rw [List.eq_nil_of_length_eq_zero this]
      · omega
    rw [ct (by simpa using hte)]
    congr 1
    symm
    rw [Bool.eq_false_iff]
    intro hw
    rw [whole_iff, run_iff] at hw
    exact hc hw.1
/-! treeS -/
theorem nbs {α : Type} {x y : α} : (bif !true then x else y) = y := rfl
theorem trEnd_v (l : List Nd) (hl : l.length ≤ 1000000) (s : Int) (hs : 1 ≤ s ∧ s ≤ 3) : ∀ (m p d : Nat), p + m = l.length → d ≤ 21 → s_trEnd_0 l s (p : Int) (d : Int) = some (teV l (run s (l.drop p) [d])) := by
  intro m
  induction m using Nat.strongRecOn with
  | _ m ih =>
  intro p d hp hd
  rw [Es_trEnd_0]
  by_cases hm : m = 0
  · rw [ct (decide_eq_true (by omega)), List.drop_eq_nil_of_le (by omega)]
    rfl
  · have hlt : p < l.length := by omega
    rw [cf (decide_eq_false (by omega)), drop_at l p hlt]
    simp only [run]
    by_cases hd2 : 20 < d
    · rw [ct (decide_eq_true (by omega)), if_pos hd2]; rfl
    · rw [cf (decide_eq_false (by omega)), if_neg hd2, ct (bA hlt), gD hlt, wrap64 (n := (p : Int) + 1) (by omega) (by omega), wrap64 (n := (d : Int) + 1) (by omega) (by omega), wrap64 (n := s - 1) (by omega) (by omega)]
      have e3 : teV l (some (l.drop (p + 1))) = (p : Int) + 1 := by simp only [teV, List.length_drop]; omega
      by_cases h0 : l[p].1 = 0
      · rw [ct (decide_eq_true h0), bsome (l1In_v ..)]
        have ev0 : vN s l[p] = decide (0 ≤ l[p].2 ∧ l[p].2 ≤ s - 1) := by unfold vN; rw [if_pos h0]
        rw [ev0]
        by_cases h1 : 0 ≤ l[p].2 ∧ l[p].2 ≤ s - 1
        · rw [decide_eq_true h1, nbs, if_pos rfl, if_pos h0]
          have hmid := ih (m - 1) (by omega) (p + 1) (d + 1) (by omega) (by omega)
          rw [run_cons]
          have hmid : s_trEnd_0 l s ((p : Int) + 1) ((d : Int) + 1) = some (teV l (run s (l.drop (p + 1)) [d + 1])) := hmid
          rw [bsome hmid]
          cases hr : run s (l.drop (p + 1)) [d + 1] with
          | none => rw [ct (by simp [teV])]; rfl
          | some r =>
            obtain ⟨e1, e2⟩ := run_rest s hr
            have e3 : teV l (some r) = ((l.length - r.length : Nat) : Int) := by simp only [teV]; simp at e2; omega
            rw [e3, cf (decide_eq_false (by omega))]
            have hup := ih r.length (by simp at e2; omega) (l.length - r.length) (d + 1) (by simp at e2; omega) (by omega)
            rw [← e1] at hup
            have hup : s_trEnd_0 l s ((l.length - r.length : Nat) : Int) ((d : Int) + 1) = some (teV l (run s r [d + 1])) := hup
            rw [bsome hup]
            rfl
        · rw [decide_eq_false h1, if_neg (by simp)]; rfl
      · rw [cf (decide_eq_false h0), if_neg h0]
        have two : (l[p].1 = 1 ∨ l[p].1 = 2) → (s_l1In l[p].2 0 99).bind (fun r => bif !r then some (-1 : Int) else some ((p : Int) + 1)) = some (teV l (if vN s l[p] then some (l.drop (p + 1)) else none)) := by
          intro h12
          have ev : vN s l[p] = decide (0 ≤ l[p].2 ∧ l[p].2 ≤ 99) := by unfold vN; rw [if_neg h0, if_pos h12]
          rw [bsome (l1In_v ..), ev]
          cases decide (0 ≤ l[p].2 ∧ l[p].2 ≤ 99) with
          | true => rw [if_pos rfl, e3]; rfl
          | false => rfl
        by_cases h1 : l[p].1 = 1
        · rw [ct (decide_eq_true h1), ct (decide_eq_true h1)]
          exact two (.inl h1)
        · rw [cf (decide_eq_false h1)]
          by_cases h2 : l[p].1 = 2
          · rw [ct (decide_eq_true h2)]
            exact two (.inr h2)
          · rw [cf (decide_eq_false h2)]
            have ev : vN s l[p] = if l[p].1 = 3 then decide (l[p].2 = 0) else false := by unfold vN; rw [if_neg h0, if_neg (by omega)]
            rw [ev]
            by_cases h3 : l[p].1 = 3
            · rw [ct (decide_eq_true h3), if_pos h3]
              by_cases h4 : l[p].2 = 0
              · rw [decide_eq_true h4, nbs, if_pos rfl, e3]
              · rw [decide_eq_false h4]; rfl
            · rw [cf (decide_eq_false h3), if_neg h3]; rfl
theorem trGood_v (l : List Nd) (hl : l.length ≤ 1000000) (s : Int) : s_trGood l s = some (isT s l) := by
  unfold s_trGood isT
  rw [bsome (l1In_v ..)]
  by_cases h1 : 1 ≤ s ∧ s ≤ 3
  rotate_left
  · rw [decide_eq_false h1]; rfl
  rw [decide_eq_true h1, ct rfl, bsome (l1In_v ..), Bool.true_and]
  by_cases h3 : l.length ≤ 200
  rotate_left
  · rw [cf (decide_eq_false (by omega)), decide_eq_false h3]; rfl
  rw [decide_eq_true h3, Bool.true_and]
  by_cases hz : l.length = 0
  · rw [cf (decide_eq_false (by omega))]
    obtain rfl := List.eq_nil_of_length_eq_zero hz
    rfl
  rw [ct (decide_eq_true (by omega))]
  have ht : s_trEnd l s 0 0 = some (teV l (run s l [0])) := trEnd_v l hl s h1 l.length 0 0 (by omega) (by omega)
  rw [bsome ht]
  congr 1
  rw [Bool.eq_iff_iff, whole_iff, decide_eq_true_eq]
  cases run s l [0] with
  | none =>
    constructor
    · intro e; have e : (-1 : Int) = (l.length : Int) := e; omega
    · intro e; cases e
  | some r =>
    constructor
    · intro e
      have e : (l.length : Int) - (r.length : Int) = (l.length : Int) := e
      have : r.length = 0 := by omega
      rw [List.eq_nil_of_length_eq_zero this]
    · intro e
      cases e
      show (l.length : Int) - ((0 : Nat) : Int) = (l.length : Int)
      omega
end Go.Proofs.YtchdegcfohegfaaE
