/- Plain lemmas on what the printed functions come to. -/
import Derived.Test.YtchdegcfohegfaaAC
set_option maxRecDepth 100000
set_option linter.unusedVariables false
set_option linter.unusedSimpArgs false
namespace Go.Proofs.YtchdegcfohegfaaE
/-! bxI -/
theorem grow0_v {n : Int} (h0 : 0 ≤ n) (h1 : n ≤ 10000000) : slices_Grow_int_int n = some [] := by
  unfold slices_Grow_int_int
  have hw : IntKind.wrap .i64 (n - IntKind.wrap .i64 (0 - 0)) = n := by
    rw [show IntKind.wrap .i64 (0 - 0) = 0 from by decide, Int.sub_zero, wrap64 (by omega) (by omega)]
  rw [cf (decide_eq_false (by omega)), hw]
  by_cases h : 0 < n
  · rw [ct (decide_eq_true h), ct (decide_eq_true h), ct (decide_eq_true (by omega))]; rfl
  · rw [cf (decide_eq_false h)]
theorem concat2_v {a b : List Int} (ha : a.length ≤ 1000000) (hb : b.length ≤ 1000000) : slices_Concat_int_int [a, b] = some (a ++ b) := by
  have s0 : IntKind.wrap .i64 (0 + 1) = 1 := by decide
  have s1 : IntKind.wrap .i64 (1 + 1) = 2 := by decide
  have g0 : List.getD [a, b] (Int.toNat 0) [] = a := rfl
  have g1 : List.getD [a, b] (Int.toNat 1) [] = b := rfl
  have l0 : decide ((0 : Int) < (([a, b].length : Nat) : Int)) = true := rfl
  have l1 : decide ((1 : Int) < (([a, b].length : Nat) : Int)) = true := rfl
  have l2 : decide ((2 : Int) < (([a, b].length : Nat) : Int)) = false := rfl
  have b0 : boundA 0 [a, b].length = true := rfl
  have b1 : boundA 1 [a, b].length = true := rfl
  unfold slices_Concat_int_int
  rw [Eslices_Concat_int_int_1003, ct l0, ct b0, g0, Int.zero_add, wrap64 (n := (a.length : Int)) (by omega) (by omega), cf (decide_eq_false (by omega))]
  rw [s0, Eslices_Concat_int_int_1003, ct l1, ct b1, g1, wrap64 (n := (a.length : Int) + (b.length : Int)) (by omega) (by omega), cf (decide_eq_false (by omega)), s1, Eslices_Concat_int_int_1003, cf l2,
    bsome (grow0_v (by omega) (by omega)), Eslices_Concat_int_int_1011, ct l0, ct b0, g0, ct (decide_eq_true (by simp; omega)), s0, Eslices_Concat_int_int_1011, ct l1, ct b1, g1, ct (decide_eq_true (by simp; omega)), s1, Eslices_Concat_int_int_1011, cf l2, List.nil_append]
theorem anyOdd_v {s : List Int} (hl : s.length ≤ 4000000) : slices_ContainsFunc_int_int_i_boxOf_1 s = some (s.any fun c => !decide (Int.tmod c 2 = 0)) := by
  obtain ⟨r, e1, e2⟩ := idx_list (xs := s) (f := fun i => slices_IndexFunc_int_int_i_boxOf_1_1002 s s.length (i : Int)) (p := fun c => !decide (Int.tmod c 2 = 0)) (by
    show slices_IndexFunc_int_int_i_boxOf_1_1002 _ _ _ = _
    rw [Eslices_IndexFunc_int_int_i_boxOf_1_1002, cf ltf]) (fun i hi => by
    show slices_IndexFunc_int_int_i_boxOf_1_1002 _ _ _ = if _ then _ else slices_IndexFunc_int_int_i_boxOf_1_1002 _ _ _
    rw [Eslices_IndexFunc_int_int_i_boxOf_1_1002, ct (ltt hi), ct (bA hi), gD hi, sc hi (by omega)]
    cases decide (Int.tmod s[i] 2 = 0) <;> rfl)
  unfold slices_ContainsFunc_int_int_i_boxOf_1 slices_IndexFunc_int_int_i_boxOf_1
  have e1' : slices_IndexFunc_int_int_i_boxOf_1_1002 s s.length 0 = some r := e1
  rw [bsome e1', e2]
theorem boxOf_lo {t6 K : Int} {lo hi : List Int} (hl : lo.length ≤ 1000000) : i_boxOf_11008 t6 K lo hi (lo.length : Int) 0 = i_boxOf_21008 t6 K (lo.map hv2) hi (hi.length : Int) 0 := by
  have main : ∀ m i : Nat, i + m = lo.length → i_boxOf_11008 t6 K ((lo.take i).map hv2 ++ lo.drop i) hi (lo.length : Int) (i : Int) = i_boxOf_21008 t6 K (lo.map hv2) hi (hi.length : Int) 0 := by
    intro m
    induction m with
    | zero =>
      intro i hi'
      obtain rfl : i = lo.length := by omega
      rw [Ei_boxOf_11008, cf ltf, List.take_length, List.drop_length, List.append_nil]
    | succ m ih =>
      intro i hi'
      have h1 : i < lo.length := by omega
      have p1 : i < ((lo.take i).map hv2 ++ lo.drop i).length := by rw [prog_len]; exact h1
      rw [Ei_boxOf_11008, ct (ltt h1), ct (bA p1), ct (nblt p1), ct (bA p1), ct (nblt p1), sc h1 (by omega), Int.toNat_natCast, prog_get h1, prog_set (f := hv2) h1 (IntKind.wrap .i64 (Int.tdiv lo[i] 2)) rfl]
      exact ih (i + 1) (by omega)
  have := main lo.length 0 (by omega)
  simpa using this
theorem boxOf_hi {t6 K : Int} {lo hi : List Int} (hl : hi.length ≤ 1000000) : i_boxOf_21008 t6 K lo hi (hi.length : Int) 0 = i_boxOf_1002 t6 K lo (hi.map hv2) := by
  have main : ∀ m i : Nat, i + m = hi.length → i_boxOf_21008 t6 K lo ((hi.take i).map hv2 ++ hi.drop i) (hi.length : Int) (i : Int) = i_boxOf_1002 t6 K lo (hi.map hv2) := by
    intro m
    induction m with
    | zero =>
      intro i hi'
      obtain rfl : i = hi.length := by omega
      rw [Ei_boxOf_21008, cf ltf, List.take_length, List.drop_length, List.append_nil]
    | succ m ih =>
      intro i hi'
      have h1 : i < hi.length := by omega
      have p1 : i < ((hi.take i).map hv2 ++ hi.drop i).length := by rw [prog_len]; exact h1
      rw [Ei_boxOf_21008, ct (ltt h1), ct (bA p1), ct (nblt p1), ct (bA p1), ct (nblt p1), sc h1 (by omega), Int.toNat_natCast, prog_get h1, prog_set (f := hv2) h1 (IntKind.wrap .i64 (Int.tdiv hi[i] 2)) rfl]
      exact ih (i + 1) (by omega)
  have := main hi.length 0 (by omega)
  simpa using this
theorem boxOf_loop {t6 : Int} : ∀ (k : Nat) (lo hi : List Int), k ≤ 1000 → lo.length ≤ 1000000 → hi.length ≤ 1000000 → i_boxOf_1002 t6 (k : Int) lo hi = some (bmk k lo hi) := by
  have fin : ∀ (K : Int) (lo hi : List Int), ((i_isBox (K, lo, hi)).bind fun r => bif !r then some ((((0 : Int), ([] : List Int), ([] : List Int))), false) else some ((K, lo, hi), true)) = some (bif bOkB (K, lo, hi) then ((K, lo, hi), true) else ((0, [], []), false)) := by
    intro K lo hi
    rw [bsome isBox_v]
    unfold bOkB
    cases bOk K lo hi <;> rfl
  intro k
  induction k with
  | zero =>
    intro lo hi _ hl hh
    rw [Ei_boxOf_1002, cf (by decide)]
    exact fin _ _ _
  | succ k ih =>
    intro lo hi hk hl hh
    have hev : (lo ++ hi).any (fun c => !decide (Int.tmod c 2 = 0)) = !evn lo hi := by
      unfold evn; rw [List.any_eq_not_all_not]; simp
    rw [Ei_boxOf_1002, ct (decide_eq_true (by omega)), bsome (concat2_v hl hh), bsome (anyOdd_v (by simp; omega)), hev, wrap64 (n := ((k + 1 : Nat) : Int) - 1) (by omega) (by omega), show ((k + 1 : Nat) : Int) - 1 = (k : Int) by omega]
    cases hv : evn lo hi with
    | true =>
      rw [show (!!true) = true from rfl, ct rfl, boxOf_lo hl, boxOf_hi hh, ih _ _ (by omega) (by simpa using hl) (by simpa using hh)]
      congr 1
      unfold bmk
      rw [nrm, hv]
      rfl
    | false =>
      rw [show (!!false) = false from rfl, cf rfl, fin]
      congr 1
      unfold bmk
      rw [nrm, hv]
      rfl
theorem boxOf_v {k : Nat} {lo hi : List Int} (hk : k ≤ 1000) (hl : lo.length ≤ 1000000) (hh : hi.length ≤ 1000000) : i_boxOf (k : Int) lo hi = some (bmk k lo hi) := by
  unfold i_boxOf
  rw [bsome (cloneInt_v (by omega)), bsome (cloneInt_v (by omega))]
  exact boxOf_loop k lo hi hk hl hh
end Go.Proofs.YtchdegcfohegfaaE
