/- Plain lemmas on what the printed functions come to. -/
import Derived.Test.YtchdegcfohegfaaAB
set_option maxRecDepth 100000
set_option linter.unusedVariables false
set_option linter.unusedSimpArgs false
namespace Go.Proofs.YtchdegcfohegfaaE
/-! power -/
theorem dyPower_v {k : Int} (h0 : 0 ≤ k) (h1 : k ≤ 62) : s_dyPower k = some (2 ^ k.toNat) := by
  obtain ⟨n, rfl⟩ := Int.eq_ofNat_of_zero_le h0
  have hn : n ≤ 62 := by omega
  have hw : IntKind.wrap .u64 (n : Int) = n := by
    unfold IntKind.wrap
    rw [show IntKind.signed .u64 = false from rfl, show IntKind.bits .u64 = 64 from rfl]
    simp; omega
  unfold s_dyPower
  have hp : (2 : Int) ^ n ≤ 2 ^ 62 := by exact_mod_cast Nat.pow_le_pow_right (by decide) hn
  have h0 : (0 : Int) < 2 ^ n := Int.pow_pos (by decide)
  rw [hw, ct (by simp), Int.toNat_natCast, show IntKind.bits .i64 = 64 from rfl, Nat.min_eq_left (by omega), Int.one_mul, wrap64 (by omega) (by omega)]
/-! box -/
theorem allor_loop {f : Nat → Bool → Option Bool} {n : Nat} {ok od : Nat → Bool} (h0 : ∀ o, f n o = some o)
    (h1 : ∀ i o, i < n → f i o = if ok i then f (i + 1) (o || od i) else some false) (o : Bool) : f 0 o = some ((List.range n).all ok && (o || (List.range n).any od)) := by
  have main : ∀ m i o, i + m = n → f i o = some ((List.range' i m).all ok && (o || (List.range' i m).any od)) := by
    intro m
    induction m with
    | zero => intro i o hi; rw [show i = n by omega, h0]; simp
    | succ m ih =>
      intro i o hi
      rw [h1 i o (by omega), ih (i + 1) _ (by omega), List.range'_succ]
      cases hk : ok i <;> simp only [List.all_cons, List.any_cons, hk, Bool.or_assoc, Bool.false_and, Bool.true_and, if_true, Bool.false_eq_true, if_false]
  rw [main n 0 o (by omega), List.range_eq_range']
/-- Whether numbers are a box's. -/
def bSide (m : Int) (lo hi : List Int) (i : Nat) : Bool := decide (-m ≤ lo.getD i 0 ∧ lo.getD i 0 < hi.getD i 0 ∧ hi.getD i 0 ≤ m)
def bOdd (lo hi : List Int) (i : Nat) : Bool := !decide (Int.tmod (lo.getD i 0) 2 = 0) || !decide (Int.tmod (hi.getD i 0) 2 = 0)
def bOk (K : Int) (lo hi : List Int) : Bool :=
  decide (0 ≤ K ∧ K ≤ 8) && decide (1 ≤ lo.length ∧ lo.length ≤ 3) && decide (hi.length = lo.length) &&
    ((List.range lo.length).all (bSide (8 * 2 ^ K.toNat) lo hi) && (decide (K = 0) || (List.range lo.length).any (bOdd lo hi)))
theorem p2le {k n : Nat} (h : k ≤ n) : (2 : Int) ^ k ≤ 2 ^ n := by exact_mod_cast Nat.pow_le_pow_right (by decide) h
theorem p2pos (k : Nat) : (0 : Int) < 2 ^ k := Int.pow_pos (by decide)
theorem bxGood_v {K : Int} {lo hi : List Int} : s_bxGood K lo hi = some (bOk K lo hi) := by
  unfold s_bxGood bOk
  rw [bsome (l1In_v ..)]
  by_cases hK : 0 ≤ K ∧ K ≤ 8
  rotate_left
  · simp [hK]
  rw [cf (by simp [hK]), bsome (l1In_v ..)]
  by_cases hl : 1 ≤ lo.length ∧ lo.length ≤ 3
  rotate_left
  · rw [ct (by simp; omega)]; simp [hl]
  rw [cf (by simp; omega)]
  by_cases he : hi.length = lo.length
  rotate_left
  · rw [ct (by simp; omega)]; simp [he]
  rw [cf (by simp [he]), bsome (dyPower_v hK.1 (by omega))]
  have h1 := p2le (show K.toNat ≤ 8 by omega)
  have h2 := p2pos K.toNat
  rw [wrap64 (by omega) (by omega)]
  generalize hM : (8 : Int) * 2 ^ K.toNat = M
  have hM0 : 0 < M ∧ M ≤ 2048 := by omega
  refine (allor_loop (f := fun i o => s_bxGood_1006 K lo hi M o lo lo.length (i : Int)) (od := bOdd lo hi) (ok := bSide M lo hi) (n := lo.length) (fun o => ?_) (fun i o hil => ?_) _).trans (by simp [hK, hl, he])
  · show s_bxGood_1006 _ _ _ _ _ _ _ _ = _
    rw [Es_bxGood_1006, cf ltf]
  · show s_bxGood_1006 _ _ _ _ _ _ _ _ = if _ then s_bxGood_1006 _ _ _ _ _ _ _ _ else _
    rw [Es_bxGood_1006, ct (ltt hil), ct (bA hil), ct (bA (by omega)), Int.toNat_natCast, wrap64 (n := 0 - M) (by omega) (by omega), sc hil (by omega), bsome (l1In_v ..), bsome (l1In_v ..)]
    unfold bSide bOdd
    generalize lo.getD i 0 = x
    generalize hi.getD i 0 = y
    by_cases hx : -M ≤ x ∧ x ≤ M
    · by_cases hy : -M ≤ y ∧ y ≤ M
      · by_cases hxy : y ≤ x
        · rw [cf (by simp; omega), cf (by simp; omega), ct (by simpa using hxy), if_neg (by simp; omega)]
        · rw [cf (by simp; omega), cf (by simp; omega), cf (by simpa using hxy), if_pos (by simp; omega)]
          cases o <;> cases hd : decide (Int.tmod x 2 = 0) <;> simp
      · rw [cf (by simp; omega), ct (by simp; omega), if_neg (by simp; omega)]
    · rw [ct (by simp; omega), if_neg (by simp; omega)]
theorem isBox_v {b : Int × List Int × List Int} : i_isBox b = some (bOk b.1 b.2.1 b.2.2) := by
  obtain ⟨K, lo, hi⟩ := b
  unfold i_isBox bOk
  rw [bsome (inside_v ..)]
  simp only
  by_cases hK : 0 ≤ K ∧ K ≤ 8
  rotate_left
  · simp [hK]
  rw [cf (by simp [hK]), bsome (inside_v ..)]
  by_cases hl : 1 ≤ lo.length ∧ lo.length ≤ 3
  rotate_left
  · rw [ct (by simp; omega)]; simp [hl]
  rw [cf (by simp; omega)]
  by_cases he : hi.length = lo.length
  rotate_left
  · rw [ct (by simp; omega)]; simp [he]
  rw [cf (by simp [he]), ct (by simp; omega), show IntKind.bits .i64 = 64 from rfl, Nat.min_eq_left (by omega)]
  have h1 := p2le (show K.toNat ≤ 8 by omega)
  have h2 := p2pos K.toNat
  rw [wrap64 (by omega) (by omega)]
  generalize hM : (8 : Int) * 2 ^ K.toNat = M
  have hM0 : 0 < M ∧ M ≤ 2048 := by omega
  refine (allor_loop (f := fun i o => i_isBox_1005 (K, lo, hi) M o lo lo.length (i : Int)) (od := bOdd lo hi) (ok := bSide M lo hi) (n := lo.length) (fun o => ?_) (fun i o hil => ?_) _).trans (by simp [hK, hl, he])
  · show i_isBox_1005 _ _ _ _ _ _ = _
    rw [Ei_isBox_1005, cf ltf]
  · show i_isBox_1005 _ _ _ _ _ _ = if _ then i_isBox_1005 _ _ _ _ _ _ else _
    have hb : boundA (i : Int) hi.length = true := bA (by omega)
    rw [Ei_isBox_1005, ct (ltt hil), ct (bA hil), Int.toNat_natCast, wrap64 (n := 0 - M) (by omega) (by omega), sc hil (by omega), bsome (inside_v ..)]
    simp only [ct hb]
    unfold bSide bOdd
    generalize lo.getD i 0 = x
    generalize hi.getD i 0 = y
    by_cases hx : -M ≤ x ∧ x ≤ M
    · rw [cf (by simp; omega), wrap64 (n := x + 1) (by omega) (by omega), bsome (inside_v ..)]
      by_cases hy : x + 1 ≤ y ∧ y ≤ M
      · rw [cf (by simp; omega), if_pos (by simp; omega)]
        cases o <;> cases hd : decide (Int.tmod x 2 = 0) <;> simp
      · rw [ct (by simp; omega), if_neg (by simp; omega)]
    · rw [ct (by simp; omega), if_neg (by simp; omega)]
/-! loops -/
/-- A loop with what is told of its state. -/
theorem inv_loop {σ R : Type} {f : Nat → σ → R} {n : Nat} (Inv : Nat → σ → Prop) (h1 : ∀ i s, i < n → Inv i s → ∃ s', f i s = f (i + 1) s' ∧ Inv (i + 1) s') : ∀ s, Inv 0 s → ∃ s', f 0 s = f n s' ∧ Inv n s' := by
  have main : ∀ m i s, i + m = n → Inv i s → ∃ s', f i s = f n s' ∧ Inv n s' := by
    intro m
    induction m with
    | zero => intro i s hi hs; rw [show i = n by omega] at hs ⊢; exact ⟨s, rfl, hs⟩
    | succ m ih =>
      intro i s hi hs
      obtain ⟨s', e1, h2⟩ := h1 i s (by omega) hs
      obtain ⟨t, e2, h3⟩ := ih (i + 1) s' (by omega) h2
      exact ⟨t, e1.trans e2, h3⟩
  exact fun s hs => main n 0 s (by omega) hs
theorem all_list {α : Type} {xs : List α} {f : Nat → Option Bool} {ok : α → Bool} {e : Option Bool} (h0 : f xs.length = e)
    (h1 : ∀ i (hi : i < xs.length), f i = if ok xs[i] then f (i + 1) else some false) : f 0 = if xs.all ok then e else some false := by
  have main : ∀ m i, i + m = xs.length → f i = if (xs.drop i).all ok then e else some false := by
    intro m
    induction m with
    | zero => intro i hi; rw [List.drop_eq_nil_of_le (by omega), show i = xs.length by omega, h0]; rfl
    | succ m ih =>
      intro i hi
      have hlt : i < xs.length := by omega
      rw [h1 i hlt, ih (i + 1) (by omega), List.drop_eq_getElem_cons hlt, List.all_cons]
      cases ok xs[i] <;> simp
  exact main xs.length 0 (by omega)
theorem idx_list {α : Type} {xs : List α} {f : Nat → Option Int} {p : α → Bool} (h0 : f xs.length = some (-1))
    (h1 : ∀ i (hi : i < xs.length), f i = if p xs[i] then some (i : Int) else f (i + 1)) : ∃ r, f 0 = some r ∧ decide (0 ≤ r) = xs.any p := by
  have main : ∀ m i, i + m = xs.length → ∃ r, f i = some r ∧ decide (0 ≤ r) = (xs.drop i).any p := by
    intro m
    induction m with
    | zero => intro i hi; exact ⟨-1, by rw [show i = xs.length by omega, h0], by rw [List.drop_eq_nil_of_le (by omega)]; rfl⟩
    | succ m ih =>
      intro i hi
      have hlt : i < xs.length := by omega
      rw [h1 i hlt, List.drop_eq_getElem_cons hlt, List.any_cons]
      cases h : p xs[i] with
      | true => exact ⟨i, by simp, by simp⟩
      | false =>
        obtain ⟨r, e1, e2⟩ := ih (i + 1) (by omega)
        exact ⟨r, by simpa using e1, by simpa using e2⟩
  exact main xs.length 0 (by omega)
/-! clone -/
theorem cloneInt_v {l : List Int} (h : l.length ≤ 1000000000) : slices_Clone_int_int l = some l := by
  unfold slices_Clone_int_int
  rw [ct (by simp; omega)]
/-! bxs -/
abbrev Bx := Int × List Int × List Int
def bOkB (b : Bx) : Bool := bOk b.1 b.2.1 b.2.2
def hv2 (x : Int) : Int := IntKind.wrap .i64 (Int.tdiv x 2)
def evn (lo hi : List Int) : Bool := (lo ++ hi).all fun c => decide (Int.tmod c 2 = 0)
/-- A box with the least K. -/
def nrm : Nat → List Int → List Int → Bx
  | 0, lo, hi => (0, lo, hi)
  | k + 1, lo, hi => bif evn lo hi then nrm k (lo.map hv2) (hi.map hv2) else (((k + 1 : Nat) : Int), lo, hi)
def bmk (k : Nat) (lo hi : List Int) : Bx × Bool := bif bOkB (nrm k lo hi) then (nrm k lo hi, true) else ((0, [], []), false)
theorem prog_get {f : Int → Int} {xs : List Int} {i : Nat} (h : i < xs.length) : List.getD ((xs.take i).map f ++ xs.drop i) i 0 = xs[i] := by
  have hl : ((xs.take i).map f).length = i := by rw [List.length_map, List.length_take]; omega
  rw [List.getD_eq_getElem?_getD, List.getElem?_append_right (by omega), hl, Nat.sub_self, List.getElem?_drop, Nat.add_zero, List.getElem?_eq_getElem h]
  rfl
theorem prog_set {f : Int → Int} {xs : List Int} {i : Nat} (h : i < xs.length) (v : Int) (hv : v = f xs[i]) : List.set ((xs.take i).map f ++ xs.drop i) i v = (xs.take (i + 1)).map f ++ xs.drop (i + 1) := by
  have hl : ((xs.take i).map f).length = i := by rw [List.length_map, List.length_take]; omega
  rw [List.set_append_right _ _ (by omega), hl, Nat.sub_self, List.drop_eq_getElem_cons h, List.set_cons_zero, List.take_succ_eq_append_getElem h, List.map_append, List.append_assoc, hv]
  rfl
theorem prog_len {f : Int → Int} {xs : List Int} {i : Nat} : ((xs.take i).map f ++ xs.drop i).length = xs.length := by simp; omega
theorem nblt {i n : Nat} (h : i < n) : Nat.blt (Int.toNat (i : Int)) n = true := by rw [Int.toNat_natCast]; simpa using h
theorem l1Own_v {l : List Int} (h : l.length ≤ 1000000) : s_l1Own l = some l := by
  unfold s_l1Own
  rw [ct (decide_eq_true (by omega)), List.nil_append]
theorem evn_range {lo hi : List Int} (he : hi.length = lo.length) : evn lo hi = (List.range lo.length).all fun i => decide (Int.tmod (lo.getD i 0) 2 = 0) && decide (Int.tmod (hi.getD i 0) 2 = 0) := by
  unfold evn
  rw [Bool.eq_iff_iff, List.all_append, Bool.and_eq_true]
  simp only [List.all_eq_true, List.mem_range, Bool.and_eq_true]
  have gd : ∀ {l : List Int} {i : Nat} (h : i < l.length), l.getD i 0 = l[i] := fun h => by rw [List.getD_eq_getElem?_getD, List.getElem?_eq_getElem h]; rfl
  constructor
  · rintro ⟨a, b⟩ i hi'
    rw [gd hi', gd (show i < hi.length by omega)]
    exact ⟨a _ (List.getElem_mem _), b _ (List.getElem_mem _)⟩
  · intro h
    constructor
    · intro c hc
      obtain ⟨i, hi', rfl⟩ := List.getElem_of_mem hc
      have := (h i hi').1
      rw [gd hi'] at this
      exact this
    · intro c hc
      obtain ⟨i, hi', rfl⟩ := List.getElem_of_mem hc
      have := (h i (by omega)).2
      rw [gd hi'] at this
      exact this
theorem bxEven_v {K : Int} {lo hi : List Int} (he : hi.length = lo.length) (hl : lo.length ≤ 1000000) : s_bxEven K lo hi = some (evn lo hi) := by
  unfold s_bxEven
  have := all_loop (f := fun i => s_bxEven_1002 K lo hi lo (lo.length : Int) (i : Int)) (n := lo.length) (ok := fun i => decide (Int.tmod (lo.getD i 0) 2 = 0) && decide (Int.tmod (hi.getD i 0) 2 = 0)) (e := some true) (fun _ => by
    show s_bxEven_1002 _ _ _ _ _ _ = _
    rw [Es_bxEven_1002, cf ltf]) (fun i hi' _ => by
    show s_bxEven_1002 _ _ _ _ _ _ = if _ then s_bxEven_1002 _ _ _ _ _ _ else _
    rw [Es_bxEven_1002, ct (ltt hi'), ct (bA hi'), ct (bA (by omega)), sc hi' (by omega), Int.toNat_natCast]
    cases decide (Int.tmod (lo.getD i 0) 2 = 0) <;> cases decide (Int.tmod (hi.getD i 0) 2 = 0) <;> rfl)
  refine this.trans ?_
  rw [evn_range he]
  cases (List.range lo.length).all _ <;> rfl
theorem bxMake_in {t6 : Int} {K : Int} {lo hi : List Int} (he : hi.length = lo.length) (hl : lo.length ≤ 1000000) : s_bxMake_1005 t6 K lo hi (lo.length : Int) 0 = s_bxMake_1002 t6 K (lo.map hv2) (hi.map hv2) := by
  have main : ∀ m i : Nat, i + m = lo.length → s_bxMake_1005 t6 K ((lo.take i).map hv2 ++ lo.drop i) ((hi.take i).map hv2 ++ hi.drop i) (lo.length : Int) (i : Int) = s_bxMake_1002 t6 K (lo.map hv2) (hi.map hv2) := by
    intro m
    induction m with
    | zero =>
      intro i hi'
      obtain rfl : i = lo.length := by omega
      rw [Es_bxMake_1005, cf ltf, List.take_length, List.drop_length, List.append_nil, ← he, List.take_length, List.drop_length, List.append_nil]
    | succ m ih =>
      intro i hi'
      have h1 : i < lo.length := by omega
      have h2 : i < hi.length := by omega
      have p1 : i < ((lo.take i).map hv2 ++ lo.drop i).length := by rw [prog_len]; exact h1
      have p2 : i < ((hi.take i).map hv2 ++ hi.drop i).length := by rw [prog_len]; exact h2
      rw [Es_bxMake_1005, ct (ltt h1), ct (bA p1), ct (nblt p1), ct (bA p1), ct (nblt p1), ct (bA p2), ct (nblt p2), ct (bA p2), ct (nblt p2), sc h1 (by omega), Int.toNat_natCast, prog_get h1, prog_get h2, prog_set (f := hv2) h1 (IntKind.wrap .i64 (Int.tdiv lo[i] 2)) rfl, prog_set (f := hv2) h2 (IntKind.wrap .i64 (Int.tdiv hi[i] 2)) rfl]
      exact ih (i + 1) (by omega)
  have := main lo.length 0 (by omega)
  simpa using this
theorem bxMake_loop {t6 : Int} : ∀ (k : Nat) (lo hi : List Int), k ≤ 1000 → hi.length = lo.length → lo.length ≤ 1000000 → s_bxMake_1002 t6 (k : Int) lo hi = some (bmk k lo hi) := by
  intro k
  induction k with
  | zero =>
    intro lo hi _ he hl
    rw [Es_bxMake_1002, cf (by decide), bsome bxGood_v]
    unfold bmk nrm bOkB
    cases bOk (((0 : Nat) : Int)) lo hi <;> rfl
  | succ k ih =>
    intro lo hi hk he hl
    rw [Es_bxMake_1002, ct (decide_eq_true (by omega)), bsome (bxEven_v he hl), wrap64 (n := ((k + 1 : Nat) : Int) - 1) (by omega) (by omega), show ((k + 1 : Nat) : Int) - 1 = (k : Int) by omega]
    cases hv : evn lo hi with
    | true =>
      rw [ct rfl, bxMake_in he hl, ih _ _ (by omega) (by simpa using he) (by simpa using hl)]
      congr 1
      unfold bmk
      rw [nrm, hv]
      rfl
    | false =>
      rw [cf rfl, bsome bxGood_v]
      unfold bmk bOkB
      rw [nrm, hv]
      show _ = some (bif bOk (((k + 1 : Nat) : Int)) lo hi then _ else _)
      cases bOk (((k + 1 : Nat) : Int)) lo hi <;> rfl
theorem bxMake_v {k : Nat} {lo hi : List Int} (hk : k ≤ 1000) (he : hi.length = lo.length) (hl : lo.length ≤ 1000000) : s_bxMake (k : Int) lo hi = some (bmk k lo hi) := by
  unfold s_bxMake
  rw [bsome (l1Own_v hl), bsome (l1Own_v (by omega))]
  exact bxMake_loop k lo hi hk he hl
end Go.Proofs.YtchdegcfohegfaaE
