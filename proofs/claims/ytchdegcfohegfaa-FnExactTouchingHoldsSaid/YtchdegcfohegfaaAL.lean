/- Plain lemmas on what the printed functions come to. -/
import Derived.Test.YtchdegcfohegfaaAK
set_option maxRecDepth 100000
set_option linter.unusedVariables false
set_option linter.unusedSimpArgs false
namespace Go.Proofs.YtchdegcfohegfaaE
/-! touch -/
/-! Do two boxes touch. -/
theorem p2_9 : ∀ n : Nat, n < 9 → (2 : Int) ^ n ≤ 256 ∧ 0 < (2 : Int) ^ n := by decide
theorem box_num2 {b : Bx} (hb : bOkB b = true) {i : Nat} (hi : i < b.2.1.length) : (b.2.1.getD i 0).natAbs ≤ 2048 ∧ (b.2.2.getD i 0).natAbs ≤ 2048 := by
  obtain ⟨K, lo, hh⟩ := b
  have hp := bOk_parts hb
  unfold bOkB bOk at hb
  simp only [Bool.and_eq_true, List.all_eq_true, List.mem_range] at hb
  have h1 := hb.2.1 i hi
  unfold bSide at h1
  have h2 := (p2_9 K.toNat (by have := hp.1; have := hp.2.1; omega)).1
  have h1 := of_decide_eq_true h1
  show (lo.getD i 0).natAbs ≤ 2048 ∧ (hh.getD i 0).natAbs ≤ 2048
  generalize lo.getD i 0 = x at h1
  generalize hh.getD i 0 = y at h1
  omega
theorem gdn {xs : List Int} {i : Nat} (h : i < xs.length) : xs.getD i 0 = xs[i] := by
  rw [List.getD_eq_getElem?_getD, List.getElem?_eq_getElem h]; rfl
def scl (k : Nat) (x : Int) : Int := x * 2 ^ k
theorem scl_bd {k : Nat} (hk : k < 9) {x : Int} (hx : x.natAbs ≤ 2048) : (scl k x).natAbs ≤ 524288 := by
  unfold scl
  have h := p2_9 k hk
  rw [Int.natAbs_mul]
  have h2 : ((2 : Int) ^ k).natAbs ≤ 256 := by omega
  exact Nat.le_trans (Nat.mul_le_mul hx h2) (by decide)
theorem scl_wrap {k : Nat} (hk : k < 9) {x : Int} (hx : x.natAbs ≤ 2048) : IntKind.wrap .i64 (x * 2 ^ k) = scl k x := by
  have := scl_bd hk hx
  exact wrap64 (by unfold scl at this; omega) (by unfold scl at this; omega)
theorem scl_lt {K L M : Nat} (hK : K ≤ M) (hL : L ≤ M) (hM : M ≤ 8) (x y : Int) : scl (8 - K) x < scl (8 - L) y ↔ scl (M - K) x < scl (M - L) y := by
  unfold scl
  have e1 : x * (2 : Int) ^ (8 - K) = x * 2 ^ (M - K) * 2 ^ (8 - M) := by rw [Int.mul_assoc, ← Int.pow_add]; congr 2; omega
  have e2 : y * (2 : Int) ^ (8 - L) = y * 2 ^ (M - L) * 2 ^ (8 - M) := by rw [Int.mul_assoc, ← Int.pow_add]; congr 2; omega
  rw [e1, e2]
  exact Int.mul_lt_mul_right (p2_9 (8 - M) (by omega)).2
theorem bnot_if (d : Bool) (x y : Option Bool) : (bif d then y else x) = if (!d) = true then x else y := by cases d <;> rfl
/-- Both boxes, at 2^-8. -/
def tch (k j : Nat) (a b : Bx) (i : Nat) : Bool := !decide (min (scl k (a.2.2.getD i 0)) (scl j (b.2.2.getD i 0)) < max (scl k (a.2.1.getD i 0)) (scl j (b.2.1.getD i 0)))
theorem tch_eq {K L M : Nat} (hK : K ≤ M) (hL : L ≤ M) (hM : M ≤ 8) (a b : Bx) (i : Nat) : tch (8 - K) (8 - L) a b i = tch (M - K) (M - L) a b i := by
  unfold tch
  congr 1
  rw [decide_eq_decide]
  have h1 := scl_lt hK hK hM (a.2.2.getD i 0) (a.2.1.getD i 0)
  have h2 := scl_lt hK hL hM (a.2.2.getD i 0) (b.2.1.getD i 0)
  have h3 := scl_lt hL hK hM (b.2.2.getD i 0) (a.2.1.getD i 0)
  have h4 := scl_lt hL hL hM (b.2.2.getD i 0) (b.2.1.getD i 0)
  omega
def tchB (a b : Bx) : Bool := (List.range a.2.1.length).all (tch (8 - a.1.toNat) (8 - b.1.toNat) a b)
theorem bxAt_v {b : Bx} (hb : bOkB b = true) : s_bxAt b.1 b.2.1 b.2.2 = some (b.2.1.map (scl (8 - b.1.toNat)), b.2.2.map (scl (8 - b.1.toNat))) := by
  obtain ⟨p1, p2, p3, p4, p5⟩ := bOk_parts hb
  obtain ⟨K, hK⟩ := Int.eq_ofNat_of_zero_le p1
  have hKt : b.1.toNat = K := by omega
  rw [hKt]
  have main : ∀ m i : Nat, i + m = b.2.1.length → s_bxAt_1004 b.1 b.2.1 b.2.2 ((b.2.1.take i).map (scl (8 - K))) ((b.2.2.take i).map (scl (8 - K))) (2 ^ (8 - K)) b.2.1 (b.2.1.length : Int) (i : Int) = some (b.2.1.map (scl (8 - K)), b.2.2.map (scl (8 - K))) := by
    intro m
    induction m with
    | zero =>
      intro i hi
      obtain rfl : i = b.2.1.length := by omega
      rw [Es_bxAt_1004, cf ltf, List.take_length, ← p5, List.take_length]
    | succ m ih =>
      intro i hi
      have h1 : i < b.2.1.length := by omega
      have h2 : i < b.2.2.length := by omega
      have hn := box_num2 hb h1
      rw [gdn h1, gdn h2] at hn
      rw [Es_bxAt_1004, gD h1, gD h2, ct (ltt h1), ct (bA h1), ct (decide_eq_true (by simp; omega)), ct (bA h2), ct (decide_eq_true (by simp; omega)), scl_wrap (by omega) hn.1, scl_wrap (by omega) hn.2, sc h1 (by omega)]
      have := ih (i + 1) (by omega)
      rw [List.take_succ_eq_append_getElem h1, List.map_append, List.take_succ_eq_append_getElem h2, List.map_append] at this
      exact this
  unfold s_bxAt
  rw [hK, wrap64 (n := 8 - (K : Int)) (by omega) (by omega), bsome (dyPower_v (by omega) (by omega)), show (8 - (K : Int)).toNat = 8 - K by omega]
  have := main b.2.1.length 0 (by omega)
  rw [hK] at this
  exact this
theorem most_v (a b : Int) : s_l1Most a b = some (max a b) := by
  unfold s_l1Most
  by_cases h : b < a
  · simp [h]; omega
  · simp [h]; omega
theorem least_v (a b : Int) : s_l1Least a b = some (min a b) := by
  unfold s_l1Least
  by_cases h : a < b
  · simp [h]; omega
  · simp [h]; omega
theorem mapg {k : Nat} {xs : List Int} {i : Nat} (h : i < xs.length) : List.getD (xs.map (scl k)) (Int.toNat (i : Int)) 0 = scl k (xs.getD i 0) := by
  rw [gD (by simpa using h), gdn h]; simp
theorem rpTouch_v {a b : Bx} (ha : bOkB a = true) (hb : bOkB b = true) (hn : a.2.1.length = b.2.1.length) : s_rpTouch a.1 a.2.1 a.2.2 b.1 b.2.1 b.2.2 = some (tchB a b) := by
  obtain ⟨p1, p2, p3, p4, p5⟩ := bOk_parts ha
  obtain ⟨q1, q2, q3, q4, q5⟩ := bOk_parts hb
  unfold s_rpTouch
  rw [bsome (bxAt_v ha), bsome (bxAt_v hb)]
  have := all_loop (n := a.2.1.length) (ok := tch (8 - a.1.toNat) (8 - b.1.toNat) a b) (e := some true)
    (f := fun i => s_rpTouch_1004 (a.2.2.map (scl (8 - a.1.toNat))) (b.2.1.map (scl (8 - b.1.toNat))) (b.2.2.map (scl (8 - b.1.toNat))) (a.2.1.map (scl (8 - a.1.toNat))) ((a.2.1.map (scl (8 - a.1.toNat))).length : Int) (i : Int)) (fun _ => by
      show s_rpTouch_1004 _ _ _ _ _ _ = _
      rw [Es_rpTouch_1004, List.length_map, cf ltf]) (fun i hi _ => by
      show s_rpTouch_1004 _ _ _ _ _ _ = if _ then s_rpTouch_1004 _ _ _ _ _ _ else _
      have l1 : i < (a.2.1.map (scl (8 - a.1.toNat))).length := by simpa using hi
      have l2 : i < (a.2.2.map (scl (8 - a.1.toNat))).length := by simp; omega
      have l3 : i < (b.2.1.map (scl (8 - b.1.toNat))).length := by simp; omega
      have l4 : i < (b.2.2.map (scl (8 - b.1.toNat))).length := by simp; omega
      rw [Es_rpTouch_1004, mapg hi, mapg (by omega), mapg (by omega), mapg (by omega), ct (ltt l1), ct (bA l1), ct (nblt l1), ct (bA l3), ct (nblt l3), bsome (most_v ..), ct (bA l2), ct (nblt l2), ct (bA l4), ct (nblt l4), bsome (least_v ..), sc l1 (by simp; omega)]
      exact bnot_if _ _ _)
  refine Eq.trans this ?_
  unfold tchB
  cases (List.range a.2.1.length).all _ <;> rfl
theorem scaled_v {l : List Int} {k : Nat} (hl : l.length ≤ 1000000) (hk : k < 9) (hx : ∀ x ∈ l, x.natAbs ≤ 2048) : i_scaled l (k : Int) = some (l.map (scl k)) := by
  have hw : ∀ x ∈ l, IntKind.wrap .i64 (x * 2 ^ min (Int.toNat (k : Int)) (IntKind.bits .i64)) = scl k x := by
    intro x h
    have : min (Int.toNat (k : Int)) (IntKind.bits .i64) = k := by
      rw [Int.toNat_natCast]
      exact Nat.min_eq_left (by show k ≤ 64; omega)
    rw [this, scl_wrap hk (hx x h)]
  have main : ∀ m i : Nat, i + m = l.length → i_scaled_1003 (k : Int) ((l.take i).map (scl k)) l (l.length : Int) (i : Int) = some (l.map (scl k)) := by
    intro m
    induction m with
    | zero =>
      intro i hi
      obtain rfl : i = l.length := by omega
      rw [Ei_scaled_1003, cf ltf, List.take_length]
    | succ m ih =>
      intro i hi
      have h1 : i < l.length := by omega
      rw [Ei_scaled_1003, ct (ltt h1), ct (bA h1), ct (by simp), ct (decide_eq_true (by simp; omega)), gD h1, hw _ (List.getElem_mem h1), sc h1 (by omega)]
      have := ih (i + 1) (by omega)
      rw [List.take_succ_eq_append_getElem h1, List.map_append] at this
      exact this
  unfold i_scaled
  exact main l.length 0 (by omega)
theorem box_mem {b : Bx} (hb : bOkB b = true) : (∀ x ∈ b.2.1, x.natAbs ≤ 2048) ∧ ∀ x ∈ b.2.2, x.natAbs ≤ 2048 := by
  obtain ⟨p1, p2, p3, p4, p5⟩ := bOk_parts hb
  constructor
  · intro x hx
    obtain ⟨i, hi, rfl⟩ := List.getElem_of_mem hx
    have := (box_num2 hb hi).1
    rwa [gdn hi] at this
  · intro x hx
    obtain ⟨i, hi, rfl⟩ := List.getElem_of_mem hx
    have := (box_num2 hb (i := i) (by omega)).2
    rwa [gdn hi] at this
theorem doTouch_v {a b : Bx} (ha : bOkB a = true) (hb : bOkB b = true) (hn : a.2.1.length = b.2.1.length) : i_doTouch a b = some (tchB a b) := by
  obtain ⟨p1, p2, p3, p4, p5⟩ := bOk_parts ha
  obtain ⟨q1, q2, q3, q4, q5⟩ := bOk_parts hb
  obtain ⟨K, hK⟩ := Int.eq_ofNat_of_zero_le p1
  obtain ⟨L, hL⟩ := Int.eq_ofNat_of_zero_le q1
  have hKt : a.1.toNat = K := by omega
  have hLt : b.1.toNat = L := by omega
  obtain ⟨M, hM, m1, m2, m3⟩ : ∃ M : Nat, (bif decide (a.1 < b.1) then b.1 else a.1) = (M : Int) ∧ K ≤ M ∧ L ≤ M ∧ M ≤ 8 := by
    by_cases h : a.1 < b.1
    · exact ⟨L, by rw [ct (decide_eq_true h), hL], by omega, Nat.le_refl _, by omega⟩
    · exact ⟨K, by rw [cf (decide_eq_false h), hK], Nat.le_refl _, by omega, by omega⟩
  have hal : i_align a b = some ((M : Int), ((M : Int), a.2.1.map (scl (M - K)), a.2.2.map (scl (M - K))), (M : Int), b.2.1.map (scl (M - L)), b.2.2.map (scl (M - L))) := by
    unfold i_align
    rw [hM, hK, hL, wrap64 (n := (M : Int) - (K : Int)) (by omega) (by omega), wrap64 (n := (M : Int) - (L : Int)) (by omega) (by omega), show (M : Int) - (K : Int) = ((M - K : Nat) : Int) by omega, show (M : Int) - (L : Int) = ((M - L : Nat) : Int) by omega,
      bsome (scaled_v (by omega) (by omega) (box_mem ha).1), bsome (scaled_v (by omega) (by omega) (box_mem ha).2), bsome (scaled_v (by omega) (by omega) (box_mem hb).1), bsome (scaled_v (by omega) (by omega) (box_mem hb).2)]
  unfold i_doTouch
  rw [bsome hal]
  have := all_loop (n := a.2.1.length) (ok := tch (M - K) (M - L) a b) (e := some true)
    (f := fun i => i_doTouch_1003 (M : Int) (a.2.1.map (scl (M - K))) (a.2.2.map (scl (M - K))) (M : Int) (b.2.1.map (scl (M - L))) (b.2.2.map (scl (M - L))) ((a.2.1.map (scl (M - K))).length : Int) (i : Int)) (fun _ => by
      show i_doTouch_1003 _ _ _ _ _ _ _ _ = _
      rw [Ei_doTouch_1003, List.length_map, cf ltf]) (fun i hi _ => by
      show i_doTouch_1003 _ _ _ _ _ _ _ _ = if _ then i_doTouch_1003 _ _ _ _ _ _ _ _ else _
      have l1 : i < (a.2.1.map (scl (M - K))).length := by simpa using hi
      have l2 : i < (a.2.2.map (scl (M - K))).length := by simp; omega
      have l3 : i < (b.2.1.map (scl (M - L))).length := by simp; omega
      have l4 : i < (b.2.2.map (scl (M - L))).length := by simp; omega
      rw [Ei_doTouch_1003, mapg hi, mapg (by omega), mapg (by omega), mapg (by omega), ct (ltt l1), ct (bA l1), ct (nblt l1), ct (bA l3), ct (nblt l3), ct (bA l2), ct (nblt l2), ct (bA l4), ct (nblt l4), sc l1 (by simp; omega)]
      have e1 : ∀ x y : Int, (bif decide (x < y) then x else y) = min y x := fun x y => by by_cases h : x < y <;> simp [h] <;> omega
      have e2 : ∀ x y : Int, (bif decide (x < y) then y else x) = max x y := fun x y => by by_cases h : x < y <;> simp [h] <;> omega
      rw [e1, e2]
      exact bnot_if _ _ _)
  refine Eq.trans this ?_
  unfold tchB
  rw [hKt, hLt]
  have e : (List.range a.2.1.length).all (tch (M - K) (M - L) a b) = (List.range a.2.1.length).all (tch (8 - K) (8 - L) a b) := by
    congr 1
    funext i
    exact (tch_eq m1 m2 m3 a b i).symm
  rw [e]
  cases (List.range a.2.1.length).all _ <;> rfl
end Go.Proofs.YtchdegcfohegfaaE
