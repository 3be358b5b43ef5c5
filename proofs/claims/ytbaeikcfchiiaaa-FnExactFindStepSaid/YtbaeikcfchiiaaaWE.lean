/- Plain lemmas on what the printed functions come to. -/
import Derived.Test.YtbaeikcfchiiaaaWD
set_option maxRecDepth 100000
set_option linter.unusedVariables false
set_option linter.unusedSimpArgs false
namespace Go.Proofs.YtbaeikcfchiiaaaE
/-! overI -/
theorem pc_trim (l : List Int) : pc (trim l) = pc l := funext fun k => trim_getD l k
theorem pc_mulL (p q : List Int) : pc (mulL p q) = cv (pc p) (pc q) := funext fun k => mulL_cv p q k
theorem mulL_len (p q : List Int) : (mulL p q).length = p.length + q.length := by simp [mulL]
/-- A power of u + v x. -/
theorem powerSingle_v {u v : Int} {B n : Nat} (hu : u.natAbs ≤ B) (hv : v.natAbs ≤ B) (hB : B ≤ 256) (hn : n ≤ 4) : ∃ r, i_powerSingle [u, v] (n : Int) = some r ∧ pc r = lpow u v n (del 1) ∧ r.length ≤ 2 * n + 1 := by
  unfold i_powerSingle
  obtain ⟨outs, e1, e2, e3⟩ := inv_loop (n := n) (f := fun i (outs : List Int) => i_powerSingle_1003 [u, v] outs (n : Int) (i : Int)) (fun i outs => pc outs = lpow u v i (del 1) ∧ outs.length ≤ 2 * i + 1) (fun i outs hi ho => by
    obtain ⟨o1, o2⟩ := ho
    have hb : ∀ k, (pc outs k).natAbs ≤ 512 ^ 3 := by
      intro k
      rw [o1]
      have := lpow_bnd (B := 256) (del_bnd (a := 1) (A := 1) (by decide)) (show u.natAbs ≤ 256 by omega) (show v.natAbs ≤ 256 by omega) i k
      exact Nat.le_trans this (by rw [Nat.mul_one]; exact Nat.pow_le_pow_right (by decide) (by omega))
    have hm := multiplySingle_v (p := outs) (q := [u, v]) (A := 512 ^ 3) (B := 256) (mem_of_pc hb) (fun c hc => by simp at hc; rcases hc with rfl | rfl <;> omega) (Nat.le_trans (Nat.mul_le_mul_right _ (show outs.length + 1 ≤ 10 by omega)) (by decide)) (by omega) (by simp)
    refine ⟨trim (mulL outs [u, v]), ?_, ?_, ?_⟩
    · show i_powerSingle_1003 _ _ _ _ = i_powerSingle_1003 _ _ _ _
      rw [Ei_powerSingle_1003, ct (ltt hi), bsome hm, sc hi (by omega)]
    · rw [pc_trim, pc_mulL, cv_two, o1]; rfl
    · have h1 := trim_len (mulL outs [u, v])
      rw [mulL_len] at h1
      simp at h1
      omega) [1] ⟨by rw [pc_one]; rfl, by simp⟩
  refine ⟨outs, ?_, e2, e3⟩
  refine e1.trans ?_
  show i_powerSingle_1003 _ _ _ _ = _
  rw [Ei_powerSingle_1003, cf ltf]
theorem pad_loop {L : List Int} : ∀ (m : Nat) (r : List Int), r.length + m = L.length → L.length ≤ 1000 → i_overInterval_1010 L r = some (r ++ List.replicate m 0)
  | 0, r, h, hl => by rw [Ei_overInterval_1010, cf (decide_eq_false (by omega))]; simp
  | m + 1, r, h, hl => by
    rw [Ei_overInterval_1010, ct (decide_eq_true (by omega)), ct (by simp; omega), pad_loop m (r ++ [0]) (by simp; omega) hl, List.append_assoc]
    rfl
theorem trim5 {r : List Int} (h : ∃ x, r = trim x) (hz : ∀ k, 5 ≤ k → pc r k = 0) : r.length ≤ 5 := by
  obtain ⟨x, rfl⟩ := h
  exact trim_last fun k hk => by rw [← trim_getD]; exact hz k hk
theorem overInterval_v {d : List Int} {N M : Int} {K L : Nat} (h5 : d.length = 5) (hd : ∀ c ∈ d, c.natAbs ≤ 160000) (hK : K ≤ 5) (hL : L ≤ 5)
    (hlo : (N * 2 ^ (max K L - K)).natAbs ≤ 256) (hhi : (M * 2 ^ (max K L - L)).natAbs ≤ 256) :
    i_overInterval d N (K : Int) M (L : Int) = some (ovL d (N * 2 ^ (max K L - K)) (M * 2 ^ (max K L - L)) (2 ^ max K L)) := by
  generalize hT : max K L = T at hlo hhi ⊢
  have hT5 : T ≤ 5 := by omega
  generalize hlo' : N * 2 ^ (T - K) = lo at hlo ⊢
  generalize hhi' : M * 2 ^ (T - L) = hi at hhi ⊢
  have hP32 : Int.natAbs (2 ^ T) ≤ 32 := by
    rw [Int.natAbs_pow]; exact Nat.le_trans (Nat.pow_le_pow_right (by decide) hT5) (by decide)
  have hmx : (bif decide ((K : Int) < (L : Int)) then (L : Int) else (K : Int)) = (T : Int) := by
    by_cases h : K < L
    · rw [ct (decide_eq_true (by omega))]; omega
    · rw [cf (decide_eq_false (by omega))]; omega
  unfold i_overInterval
  rw [hmx, wrap64 (n := (T : Int) - K) (by omega) (by omega), wrap64 (n := (T : Int) - L) (by omega) (by omega), show (T : Int) - K = ((T - K : Nat) : Int) by omega, show (T : Int) - L = ((T - L : Nat) : Int) by omega,
    ct (by simp), ct (by simp), ct (by simp), Int.toNat_natCast, Int.toNat_natCast, Int.toNat_natCast, show IntKind.bits .i64 = 64 from rfl, Nat.min_eq_left (by omega), Nat.min_eq_left (by omega), Nat.min_eq_left (by omega), hlo', hhi', Int.one_mul,
    wrap64 (n := lo) (by omega) (by omega), wrap64 (n := hi) (by omega) (by omega), wrap64 (n := (2 : Int) ^ T) (by omega) (by omega)]
  obtain ⟨r, e1, e2, e3⟩ := inv_loop (n := d.length) (f := fun j (r : List Int) => i_overInterval_1005 d lo hi (2 ^ T) r d (d.length : Int) (j : Int)) (fun j r => pc r = oSum d lo hi (2 ^ T) j ∧ ∃ x, r = trim x) (fun j r hj ho => by
    obtain ⟨o1, x0, o2⟩ := ho
    have hr5 : r.length ≤ 5 := trim5 ⟨x0, o2⟩ fun k hk => by rw [o1]; exact oSum_deg d lo hi _ (by omega) hk
    have hdj : d[j] = d.getD j 0 := by rw [List.getD_eq_getElem?_getD, List.getElem?_eq_getElem hj]; rfl
    have hdb : (d.getD j 0).natAbs ≤ 160000 := getD_mem (fun c => c.natAbs ≤ 160000) (by simp) hd
    obtain ⟨a, a1, a2, a3⟩ := powerSingle_v (n := j) hlo hhi (by omega) (by omega)
    obtain ⟨b, b1, b2, b3⟩ := powerSingle_v (u := 2 ^ T) (v := 2 ^ T) (n := 4 - j) hP32 hP32 (by omega) (by omega)
    have ha : ∀ k, (pc a k).natAbs ≤ 512 ^ j := fun k => by
      rw [a2]; have := lpow_bnd (B := 256) (del_bnd (a := 1) (A := 1) (by decide)) hlo hhi j k
      rwa [Nat.mul_one] at this
    have hb : ∀ k, (pc b k).natAbs ≤ 64 ^ (4 - j) := fun k => by
      rw [b2]; have := lpow_bnd (B := 32) (del_bnd (a := 1) (A := 1) (by decide)) hP32 hP32 (4 - j) k
      rwa [Nat.mul_one] at this
    have m1 := multiplySingle_v (mem_of_pc ha) (mem_of_pc hb) (Nat.le_trans (Nat.mul_le_mul (show a.length + 1 ≤ 10 by omega) (p512 (j := j) (by omega))) (by decide)) (by omega) (by omega)
    have hc : pc (trim (mulL a b)) = lpow lo hi j (lpow (2 ^ T) (2 ^ T) (4 - j) (del 1)) := by rw [pc_trim, pc_mulL, a2, b2, cv_lpow]
    have hl1 := trim_len (mulL a b)
    rw [mulL_len] at hl1
    have hcb : ∀ k, (pc (trim (mulL a b)) k).natAbs ≤ 68719476736 := fun k => by rw [hc]; exact base_bnd hlo hhi hP32 (by omega) k
    have m2 := multiplySingle_v (p := trim (mulL a b)) (q := [d.getD j 0]) (A := 68719476736) (B := 160000) (mem_of_pc hcb) (fun c hc => by rw [List.mem_singleton.1 hc]; exact hdb) (Nat.le_trans (Nat.mul_le_mul_right _ (show (trim (mulL a b)).length + 1 ≤ 40 by omega)) (by decide)) (by omega) (by simp)
    have hs : pc (trim (mulL (trim (mulL a b)) [d.getD j 0])) = oS d lo hi (2 ^ T) j := by
      funext k
      rw [pc_trim]
      show (mulL (trim (mulL a b)) [d.getD j 0]).getD k 0 = _
      rw [mulL_one, oS_eq, Int.mul_comm]
      show d.getD j 0 * pc (trim (mulL a b)) k = _
      rw [hc]
    have hl2 := trim_len (mulL (trim (mulL a b)) [d.getD j 0])
    rw [mulL_len] at hl2
    simp only [List.length_singleton] at hl2
    have ad := addSingle_v (p := r) (q := trim (mulL (trim (mulL a b)) [d.getD j 0])) (A := 5 * (160000 * 68719476736)) (mem_of_pc fun k => by rw [o1]; exact Nat.le_trans (oSum_bnd hd hlo hhi hP32 (by omega) k) (Nat.mul_le_mul_right _ (by omega))) (mem_of_pc fun k => by rw [hs]; exact Nat.le_trans (oS_bnd hd hlo hhi hP32 (by omega) k) (by decide)) (by decide) (by omega) (by omega)
    have hw : IntKind.wrap .i64 (IntKind.wrap .i64 ((d.length : Int) - 1) - (j : Int)) = ((4 - j : Nat) : Int) := by
      rw [wrap64 (n := (d.length : Int) - 1) (by omega) (by omega), wrap64 (by omega) (by omega)]; omega
    refine ⟨trim (addL r (trim (mulL (trim (mulL a b)) [d.getD j 0]))), ?_, ?_, _, rfl⟩
    · show i_overInterval_1005 _ _ _ _ _ _ _ _ = i_overInterval_1005 _ _ _ _ _ _ _ _
      rw [Ei_overInterval_1005, ct (ltt hj), ct (bA hj), bsome a1, hw, bsome b1, bsome m1, gD hj, hdj, bsome m2, bsome ad, sc hj (by omega)]
    · funext k
      rw [pc_trim]
      show (addL r _).getD k 0 = oSum d lo hi (2 ^ T) j k + oS d lo hi (2 ^ T) j k
      rw [addL_getD, ← hs, ← o1]; rfl) [] ⟨rfl, [], rfl⟩
  refine Eq.trans (Eq.trans (show _ = i_overInterval_1005 d lo hi (2 ^ T) [] d (d.length : Int) ((0 : Nat) : Int) from rfl) e1) ?_
  have hr5 : r.length ≤ 5 := trim5 e3 fun k hk => by rw [e2, h5]; exact oSum_deg d lo hi _ (by omega) hk
  rw [Ei_overInterval_1005, cf ltf, pad_loop (5 - r.length) r (by omega) (by omega)]
  refine congrArg some (ext_getD (by simp [ovL]; omega) fun k hk => ?_)
  rw [getD_app0]
  show pc r k = _
  rw [e2, h5]
  have hk5 : k < 5 := by simp at hk; omega
  unfold ovL
  rw [getD_range, if_pos hk5]
/-! common -/
/-- The sign of all numbers, or 0. -/
def sgAll (l : List Int) : Int := if l.all (fun c => decide (0 < c)) then 1 else if l.all (fun c => decide (c < 0)) then -1 else 0
theorem min_v {l : List Int} (h : l ≠ []) (hl : l.length ≤ 1000000) : ∃ m, slices_Min_int_int l = some m ∧ decide (0 < m) = l.all fun c => decide (0 < c) := by
  obtain ⟨x, t, rfl⟩ := List.exists_cons_of_ne_nil h
  have hlt : 0 < (x :: t).length := by simp
  unfold slices_Min_int_int
  rw [cf (decide_eq_false (by simp; omega)), ct (bAi (by decide) (by simp))]
  obtain ⟨m, e1, e2⟩ := inv_loop (n := t.length) (f := fun i (m : Int) => slices_Min_int_int_1005 (x :: t) m ((i : Int) + 1)) (fun i m => decide (0 < m) = ((x :: t).take (i + 1)).all fun c => decide (0 < c)) (fun i m hi hm => by
    have hi1 : i + 1 < (x :: t).length := by simp; omega
    have hg : List.getD (x :: t) (Int.toNat ((i : Int) + 1)) 0 = (x :: t)[i + 1] := by
      have := @gD Int (x :: t) (i + 1) 0 hi1
      rwa [show ((i + 1 : Nat) : Int) = (i : Int) + 1 by omega] at this
    refine ⟨bif decide ((x :: t)[i + 1] < m) then (x :: t)[i + 1] else m, ?_, ?_⟩
    · show slices_Min_int_int_1005 _ _ _ = slices_Min_int_int_1005 _ _ _
      rw [Eslices_Min_int_int_1005, ct (decide_eq_true (by omega)), ct (bAi (by omega) (by omega)), hg, wrap64 (by omega) (by omega)]
      congr 1
    · rw [List.take_succ_eq_append_getElem hi1, List.all_append, ← hm]
      simp only [List.all_cons, List.all_nil, Bool.and_true]
      rw [Bool.eq_iff_iff]
      generalize (x :: t)[i + 1] = y
      by_cases hc : y < m
      · rw [ct (decide_eq_true hc)]; simp only [decide_eq_true_eq, Bool.and_eq_true]; omega
      · rw [cf (decide_eq_false hc)]; simp only [decide_eq_true_eq, Bool.and_eq_true]; omega) x (by simp)
  refine ⟨m, ?_, ?_⟩
  · refine Eq.trans (Eq.trans (show _ = slices_Min_int_int_1005 (x :: t) x (((0 : Nat) : Int) + 1) from rfl) e1) ?_
    rw [Eslices_Min_int_int_1005, cf (decide_eq_false (by simp))]
  · rw [e2, List.take_of_length_le (by simp)]
theorem max_v {l : List Int} (h : l ≠ []) (hl : l.length ≤ 1000000) : ∃ m, slices_Max_int_int l = some m ∧ decide (m < 0) = l.all fun c => decide (c < 0) := by
  obtain ⟨x, t, rfl⟩ := List.exists_cons_of_ne_nil h
  unfold slices_Max_int_int
  rw [cf (decide_eq_false (by simp; omega)), ct (bAi (by decide) (by simp))]
  obtain ⟨m, e1, e2⟩ := inv_loop (n := t.length) (f := fun i (m : Int) => slices_Max_int_int_1005 (x :: t) m ((i : Int) + 1)) (fun i m => decide (m < 0) = ((x :: t).take (i + 1)).all fun c => decide (c < 0)) (fun i m hi hm => by
    have hi1 : i + 1 < (x :: t).length := by simp; omega
    have hg : List.getD (x :: t) (Int.toNat ((i : Int) + 1)) 0 = (x :: t)[i + 1] := by
      have := @gD Int (x :: t) (i + 1) 0 hi1
      rwa [show ((i + 1 : Nat) : Int) = (i : Int) + 1 by omega] at this
    refine ⟨bif decide (m < (x :: t)[i + 1]) then (x :: t)[i + 1] else m, ?_, ?_⟩
    · show slices_Max_int_int_1005 _ _ _ = slices_Max_int_int_1005 _ _ _
      rw [Eslices_Max_int_int_1005, ct (decide_eq_true (by omega)), ct (bAi (by omega) (by omega)), hg, wrap64 (by omega) (by omega)]
      congr 1
    · rw [List.take_succ_eq_append_getElem hi1, List.all_append, ← hm]
      simp only [List.all_cons, List.all_nil, Bool.and_true]
      rw [Bool.eq_iff_iff]
      generalize (x :: t)[i + 1] = y
      by_cases hc : m < y
      · rw [ct (decide_eq_true hc)]; simp only [decide_eq_true_eq, Bool.and_eq_true]; omega
      · rw [cf (decide_eq_false hc)]; simp only [decide_eq_true_eq, Bool.and_eq_true]; omega) x (by simp)
  refine ⟨m, ?_, ?_⟩
  · refine Eq.trans (Eq.trans (show _ = slices_Max_int_int_1005 (x :: t) x (((0 : Nat) : Int) + 1) from rfl) e1) ?_
    rw [Eslices_Max_int_int_1005, cf (decide_eq_false (by simp))]
  · rw [e2, List.take_of_length_le (by simp)]
theorem commonSign_v {l : List Int} (h : l ≠ []) (hl : l.length ≤ 1000000) : i_commonSign l = some (sgAll l) := by
  obtain ⟨m, e1, e2⟩ := min_v h hl
  obtain ⟨M, e3, e4⟩ := max_v h hl
  unfold i_commonSign sgAll
  rw [bsome e1, e2]
  cases l.all (fun c => decide (0 < c)) with
  | true => rfl
  | false =>
    rw [cf rfl, bsome e3, e4]
    cases l.all (fun c => decide (c < 0)) <;> rfl
/-! besign -/
theorem beSign_v {l : List Int} (h : l ≠ []) (hl : l.length ≤ 1000000) : s_beSign l = some (sgAll l) := by
  obtain ⟨x, t, rfl⟩ := List.exists_cons_of_ne_nil h
  unfold s_beSign
  rw [ct (bAi (by decide) (by simp)), bsome (l1Sign_v ..)]
  have hx : List.getD (x :: t) (Int.toNat 0) 0 = x := rfl
  rw [hx]
  have main : ∀ m i : Nat, i + m = (x :: t).length → s_beSign_1003 (Int.sign x) (x :: t) ((x :: t).length : Int) (i : Int) = some (if ((x :: t).drop i).all (fun c => decide (Int.sign c = Int.sign x)) then Int.sign x else 0) := by
    intro m
    induction m with
    | zero => intro i hi; rw [Es_beSign_1003, show i = (x :: t).length by omega, cf ltf, List.drop_length]; rfl
    | succ m ih =>
      intro i hi
      have hlt : i < (x :: t).length := by omega
      rw [Es_beSign_1003, ct (ltt hlt), ct (bA hlt), gD hlt, bsome (l1Sign_v ..), sc hlt (by omega), ih (i + 1) (by omega), List.drop_eq_getElem_cons hlt, List.all_cons]
      by_cases hs : Int.sign (x :: t)[i] = Int.sign x
      · rw [cf (by simp [hs]), decide_eq_true hs, Bool.true_and]
      · rw [ct (by simp [hs]), decide_eq_false hs, Bool.false_and]; rfl
  refine (main (x :: t).length 0 (by simp)).trans ?_
  rw [List.drop_zero]
  unfold sgAll
  have key : ∀ c : Int, (Int.sign c = 1 ↔ 0 < c) ∧ (Int.sign c = -1 ↔ c < 0) := by
    intro c
    rcases Int.lt_trichotomy c 0 with h | h | h
    · rw [Int.sign_eq_neg_one_of_neg h]; omega
    · subst h; simp
    · rw [Int.sign_eq_one_of_pos h]; omega
  rcases Int.lt_trichotomy x 0 with hx0 | hx0 | hx0
  · rw [Int.sign_eq_neg_one_of_neg hx0]
    have e : (x :: t).all (fun c => decide (Int.sign c = -1)) = (x :: t).all (fun c => decide (c < 0)) := by
      congr 1; funext c; rw [decide_eq_decide]; exact (key c).2
    have e0 : (x :: t).all (fun c => decide (0 < c)) = false := by rw [List.all_cons, decide_eq_false (by omega)]; rfl
    rw [e, e0]; rfl
  · subst hx0
    have e0 : (0 :: t).all (fun c => decide (0 < c)) = false := rfl
    have e1 : (0 :: t).all (fun c => decide (c < 0)) = false := rfl
    rw [e0, e1]
    simp
  · rw [Int.sign_eq_one_of_pos hx0]
    have e : (x :: t).all (fun c => decide (Int.sign c = 1)) = (x :: t).all (fun c => decide (0 < c)) := by
      congr 1; funext c; rw [decide_eq_decide]; exact (key c).1
    have e0 : (x :: t).all (fun c => decide (c < 0)) = false := by rw [List.all_cons, decide_eq_false (by omega)]; rfl
    rw [e, e0]
    cases (x :: t).all _ <;> rfl
end Go.Proofs.YtbaeikcfchiiaaaE
