/- Plain lemmas on what the printed functions come to. -/
import Derived.Test.YtnndolcjljhhcaaFB
set_option maxRecDepth 100000
set_option linter.unusedVariables false
set_option linter.unusedSimpArgs false
namespace Go.Proofs.YtnndolcjljhhcaaE
/-! trim -/
/-- A list without zeros at the end. -/
def trim (l : List Int) : List Int := (l.reverse.dropWhile (fun x => decide (x = 0))).reverse
theorem trim_zero (l : List Int) : trim (l ++ [0]) = trim l := by simp [trim]
theorem trim_ne {l : List Int} {x : Int} (h : x ≠ 0) : trim (l ++ [x]) = l ++ [x] := by simp [trim, h]
theorem trim_zeros (l : List Int) : ∀ n, trim (l ++ List.replicate n 0) = trim l
  | 0 => by simp
  | n + 1 => by rw [List.replicate_succ', ← List.append_assoc, trim_zero, trim_zeros l n]
theorem snoc_or (l : List Int) : l = [] ∨ ∃ a x, l = a ++ [x] := by
  rcases List.eq_nil_or_concat l with h | ⟨a, x, h⟩
  · exact .inl h
  · exact .inr ⟨a, x, by simpa using h⟩
theorem trim_dec : ∀ (n : Nat) (l : List Int), l.length = n → ∃ m, l = trim l ++ List.replicate m 0 := by
  intro n
  induction n with
  | zero => intro l h; exact ⟨0, by rw [List.eq_nil_of_length_eq_zero h]; rfl⟩
  | succ n ih =>
    intro l h
    rcases snoc_or l with rfl | ⟨a, x, rfl⟩
    · cases h
    · by_cases hx : x = 0
      · subst hx
        obtain ⟨m, hm⟩ := ih a (by simpa using h)
        refine ⟨m + 1, ?_⟩
        rw [trim_zero, List.replicate_succ', ← List.append_assoc, ← hm]
      · exact ⟨0, by rw [trim_ne hx]; simp⟩
theorem getD_app0 {l : List Int} {m k : Nat} : (l ++ List.replicate m 0).getD k 0 = l.getD k 0 := by
  rw [List.getD_eq_getElem?_getD, List.getD_eq_getElem?_getD]
  by_cases h : k < l.length
  · rw [List.getElem?_append_left h]
  · rw [List.getElem?_append_right (by omega), List.getElem?_eq_none (l := l) (by omega), List.getElem?_replicate]
    split <;> rfl
theorem trim_getD (l : List Int) (k : Nat) : (trim l).getD k 0 = l.getD k 0 := by
  obtain ⟨m, h⟩ := trim_dec _ l rfl
  conv => rhs; rw [h]
  rw [getD_app0]
theorem trim_len (l : List Int) : (trim l).length ≤ l.length := by
  obtain ⟨m, h⟩ := trim_dec _ l rfl
  have := congrArg List.length h
  simp at this
  omega
theorem getD_set {l : List Int} {i k : Nat} {v : Int} (hi : i < l.length) : (l.set i v).getD k 0 = if k = i then v else l.getD k 0 := by
  rw [List.getD_eq_getElem?_getD, List.getD_eq_getElem?_getD, List.getElem?_set]
  by_cases h : i = k
  · subst h; simp [hi]
  · rw [if_neg h, if_neg (fun e => h e.symm)]
theorem ext_getD {l m : List Int} (h : l.length = m.length) (hk : ∀ k, k < l.length → l.getD k 0 = m.getD k 0) : l = m := by
  refine List.ext_getElem h fun i h1 h2 => ?_
  have := hk i h1
  rwa [List.getD_eq_getElem?_getD, List.getD_eq_getElem?_getD, List.getElem?_eq_getElem h1, List.getElem?_eq_getElem h2] at this
theorem getD_range {n k : Nat} {g : Nat → Int} : ((List.range n).map g).getD k 0 = if k < n then g k else 0 := by
  rw [List.getD_eq_getElem?_getD, List.getElem?_map]
  by_cases h : k < n
  · rw [List.getElem?_range h, if_pos h]; rfl
  · rw [List.getElem?_eq_none (by simp; omega), if_neg h]; rfl
theorem getD_mem {l : List Int} {k : Nat} (P : Int → Prop) (h0 : P 0) (h : ∀ c ∈ l, P c) : P (l.getD k 0) := by
  by_cases hk : k < l.length
  · rw [List.getD_eq_getElem?_getD, List.getElem?_eq_getElem hk]; exact h _ (List.getElem_mem hk)
  · rw [List.getD_eq_getElem?_getD, List.getElem?_eq_none (by omega)]; exact h0
theorem getD_out {l : List Int} {k : Nat} (h : l.length ≤ k) : l.getD k 0 = 0 := by
  rw [List.getD_eq_getElem?_getD, List.getElem?_eq_none h]; rfl
theorem getD_rep {n k : Nat} : (List.replicate n (0 : Int)).getD k 0 = 0 := by
  rw [List.getD_eq_getElem?_getD, List.getElem?_replicate]
  split <;> rfl
/-! clone -/
theorem cloneInt_v {l : List Int} (h : l.length ≤ 1000000000) : slices_Clone_int_int l = some l := by
  unfold slices_Clone_int_int
  rw [ct (by simp; omega)]
/-! stripped -/
theorem stripped_v : ∀ {l : List Int}, l.length ≤ 1000000000 → i_stripped l = some (trim l) := by
  have main : ∀ (n : Nat) (l : List Int), l.length = n → n ≤ 1000000000 → i_stripped_1001 l = some (trim l) := by
    intro n
    induction n with
    | zero =>
      intro l h hn
      obtain rfl := List.eq_nil_of_length_eq_zero h
      rw [Ei_stripped_1001, cf (by decide), bret, cloneInt_v (by simp)]; rfl
    | succ n ih =>
      intro l h hn
      rcases snoc_or l with rfl | ⟨a, x, rfl⟩
      · cases h
      · have ha : a.length = n := by simpa using h
        have hg : (a ++ [x]).getD a.length 0 = x := by rw [List.getD_eq_getElem?_getD, List.getElem?_append_right (Nat.le_refl _)]; simp
        have hw : IntKind.wrap .i64 (((a ++ [x]).length : Int) - 1) = (a.length : Int) := by
          rw [List.length_append, List.length_singleton, wrap64 (by omega) (by omega)]; omega
        rw [Ei_stripped_1001, ct (by simp), hw, ct (bA (by simp)), Int.toNat_natCast, hg]
        by_cases hx : x = 0
        · subst hx
          rw [ct (by simp), ct (bE (by simp)), ct (by simp)]
          have e : List.drop (Int.toNat 0) (List.take a.length (a ++ [0])) = a := by simp
          rw [e, ih a ha (by omega), trim_zero]
        · rw [cf (by simpa using hx), bret, cloneInt_v (by omega), trim_ne hx]
  intro l hl
  unfold i_stripped
  exact main _ l rfl hl
/-! addL -/
def addL (p q : List Int) : List Int := (List.range (max p.length q.length)).map fun k => p.getD k 0 + q.getD k 0
theorem addL_getD {p q : List Int} (k : Nat) : (addL p q).getD k 0 = p.getD k 0 + q.getD k 0 := by
  unfold addL
  rw [getD_range]
  by_cases h : k < max p.length q.length
  · rw [if_pos h]
  · rw [if_neg h, getD_out (l := p) (by omega), getD_out (l := q) (by omega)]; rfl
theorem addSingle_v {p q : List Int} {A : Nat} (hp : ∀ c ∈ p, c.natAbs ≤ A) (hq : ∀ c ∈ q, c.natAbs ≤ A) (hA : A ≤ 2305843009213693952) (lp : p.length ≤ 1000) (lq : q.length ≤ 1000) : i_addSingle p q = some (trim (addL p q)) := by
  have hm : (bif decide ((p.length : Int) < (q.length : Int)) then (q.length : Int) else (p.length : Int)) = ((max p.length q.length : Nat) : Int) := by
    by_cases h : p.length < q.length
    · rw [ct (decide_eq_true (by omega))]; omega
    · rw [cf (decide_eq_false (by omega))]; omega
  unfold i_addSingle
  rw [hm, ct (decide_eq_true (by omega)), ct (by simp), ct (decide_eq_true (by omega)), Int.toNat_natCast, List.length_replicate]
  have P : ∀ k, (p.getD k 0).natAbs ≤ A := fun k => getD_mem (fun c => c.natAbs ≤ A) (by simp) hp
  have Q : ∀ k, (q.getD k 0).natAbs ≤ A := fun k => getD_mem (fun c => c.natAbs ≤ A) (by simp) hq
  generalize hL : max p.length q.length = L
  have main : ∃ outs, i_addSingle_1003 p q (List.replicate L (0 : Int)) (L : Int) ((0 : Nat) : Int) = i_addSingle_1003 p q outs (L : Int) (L : Int) ∧ outs.length = L ∧ ∀ k, k < L → outs.getD k 0 = if k < L then p.getD k 0 + q.getD k 0 else 0 := by
    refine inv_loop (n := L) (f := fun i (outs : List Int) => i_addSingle_1003 p q outs (L : Int) (i : Int)) (fun i outs => outs.length = L ∧ ∀ k, k < L → outs.getD k 0 = if k < i then p.getD k 0 + q.getD k 0 else 0) (fun i outs hi ho => ?_) _ ⟨by simp, fun k hk => by rw [if_neg (by omega)]; exact getD_rep⟩
    obtain ⟨t1, t2⟩ := ho
    have hlt : i < outs.length := by omega
    have hoi : List.getD outs (Int.toNat (i : Int)) 0 = 0 := by rw [Int.toNat_natCast, t2 i hi, if_neg (by omega)]
    have hpi : List.getD p (Int.toNat (i : Int)) 0 = p.getD i 0 := by rw [Int.toNat_natCast]
    have hqi : List.getD q (Int.toNat (i : Int)) 0 = q.getD i 0 := by rw [Int.toNat_natCast]
    have hPi := P i
    have hQi := Q i
    have fin : ∀ outs', outs' = outs.set i (p.getD i 0 + q.getD i 0) → outs'.length = L ∧ ∀ k, k < L → outs'.getD k 0 = if k < i + 1 then p.getD k 0 + q.getD k 0 else 0 := by
      rintro _ rfl
      refine ⟨by simp [t1], fun k hk => ?_⟩
      rw [getD_set hlt]
      by_cases h : k = i
      · subst h; rw [if_pos rfl, if_pos (by omega)]
      · rw [if_neg h, t2 k hk]
        by_cases h' : k < i
        · rw [if_pos h', if_pos (by omega)]
        · rw [if_neg h', if_neg (by omega)]
    have hbl : Nat.blt (Int.toNat (i : Int)) outs.length = true := by rw [Int.toNat_natCast]; simpa using hlt
    have hbs : ∀ v, Nat.blt (Int.toNat (i : Int)) (List.set outs (Int.toNat (i : Int)) v).length = true := fun v => by rw [List.length_set]; exact hbl
    have hbA : ∀ v, boundA (i : Int) (List.set outs (Int.toNat (i : Int)) v).length = true := fun v => by rw [List.length_set]; exact bA hlt
    refine ⟨outs.set i (p.getD i 0 + q.getD i 0), ?_, fin _ rfl⟩
    show i_addSingle_1003 _ _ _ _ _ = i_addSingle_1003 _ _ _ _ _
    rw [Ei_addSingle_1003, ct (ltt hi)]
    by_cases h1 : i < p.length
    · rw [ct (ltt h1), ct (bA hlt), ct hbl, ct (bA h1), ct (bA hlt), ct hbl, hoi, hpi, Int.zero_add, wrap64 (n := p.getD i 0) (by omega) (by omega)]
      by_cases h2 : i < q.length
      · rw [ct (ltt h2), ct (hbA _), ct (hbs _), ct (bA h2), ct (hbA _), ct (hbs _), hqi, sc hi (by omega), Int.toNat_natCast, getD_set hlt, if_pos rfl, wrap64 (by omega) (by omega), List.set_set]
      · rw [cf (decide_eq_false (by omega)), getD_out (l := q) (k := i) (by omega), sc hi (by omega), Int.add_zero, Int.toNat_natCast]
    · rw [cf (decide_eq_false (by omega))]
      have h2 : i < q.length := by omega
      rw [ct (ltt h2), ct (bA hlt), ct hbl, ct (bA h2), ct (bA hlt), ct hbl, hoi, hqi, getD_out (l := p) (k := i) (by omega), wrap64 (by omega) (by omega), sc hi (by omega), Int.toNat_natCast]
  obtain ⟨outs, e1, e2, e3⟩ := main
  refine Eq.trans (Eq.trans (show _ = i_addSingle_1003 p q (List.replicate L (0 : Int)) (L : Int) ((0 : Nat) : Int) from rfl) e1) ?_
  rw [Ei_addSingle_1003, cf ltf, bret, stripped_v (by omega)]
  congr 2
  exact ext_getD (by simp [addL, e2, hL]) fun k hk => by rw [e3 k (by omega), addL_getD, if_pos (by omega)]
/-! mulL -/
/-- The coefficients of a product out of the first i rows. -/
def Mc (p q : List Int) : Nat → Nat → Int
  | 0, _ => 0
  | i + 1, k => Mc p q i k + (if i ≤ k then p.getD i 0 * q.getD (k - i) 0 else 0)
def mulL (p q : List Int) : List Int := (List.range (p.length + q.length)).map (Mc p q p.length)
theorem Mc_bnd {p q : List Int} {A B : Nat} (hp : ∀ c ∈ p, c.natAbs ≤ A) (hq : ∀ c ∈ q, c.natAbs ≤ B) : ∀ i k, (Mc p q i k).natAbs ≤ i * (A * B)
  | 0, k => by simp [Mc]
  | i + 1, k => by
    have ih := Mc_bnd hp hq i k
    have h1 : (p.getD i 0 * q.getD (k - i) 0).natAbs ≤ A * B := by
      rw [Int.natAbs_mul]
      exact Nat.mul_le_mul (getD_mem (fun c => c.natAbs ≤ A) (by simp) hp) (getD_mem (fun c => c.natAbs ≤ B) (by simp) hq)
    have e : (Mc p q (i + 1) k).natAbs ≤ (Mc p q i k).natAbs + A * B := by
      show (Mc p q i k + _).natAbs ≤ _
      split
      · exact Nat.le_trans (Int.natAbs_add_le _ _) (by omega)
      · simp
    rw [Nat.add_mul, Nat.one_mul]; omega
theorem multiplySingle_v {p q : List Int} {A B : Nat} (hp : ∀ c ∈ p, c.natAbs ≤ A) (hq : ∀ c ∈ q, c.natAbs ≤ B) (hb : (p.length + 1) * (A * B) ≤ 4611686018427387904) (lp : p.length ≤ 1000) (lq : q.length ≤ 1000) : i_multiplySingle p q = some (trim (mulL p q)) := by
  unfold i_multiplySingle
  rw [wrap64 (by omega) (by omega), show (p.length : Int) + (q.length : Int) = ((p.length + q.length : Nat) : Int) by omega, ct (decide_eq_true (by omega)), ct (by simp), ct (decide_eq_true (by omega)), Int.toNat_natCast]
  have rows : ∃ outs, i_multiplySingle_1003 q (List.replicate (p.length + q.length) (0 : Int)) p p.length ((0 : Nat) : Int) = i_multiplySingle_1003 q outs p p.length (p.length : Int) ∧ outs.length = p.length + q.length ∧ ∀ k, k < p.length + q.length → outs.getD k 0 = Mc p q p.length k := by
    refine inv_loop (n := p.length) (f := fun i (outs : List Int) => i_multiplySingle_1003 q outs p p.length (i : Int)) (fun i outs => outs.length = p.length + q.length ∧ ∀ k, k < p.length + q.length → outs.getD k 0 = Mc p q i k) (fun i outs hi ho => ?_) _ ⟨by simp, fun k hk => getD_rep⟩
    obtain ⟨o1, o2⟩ := ho
    have inner : ∃ outs', i_multiplySingle_1006 q outs (i : Int) p[i] p p.length (i : Int) q q.length ((0 : Nat) : Int) = i_multiplySingle_1006 q outs' (i : Int) p[i] p p.length (i : Int) q q.length (q.length : Int) ∧ outs'.length = p.length + q.length ∧ ∀ k, k < p.length + q.length → outs'.getD k 0 = Mc p q i k + (if i ≤ k ∧ k < i + q.length then p.getD i 0 * q.getD (k - i) 0 else 0) := by
      refine inv_loop (n := q.length) (f := fun j (outs : List Int) => i_multiplySingle_1006 q outs (i : Int) p[i] p p.length (i : Int) q q.length (j : Int)) (fun j outs => outs.length = p.length + q.length ∧ ∀ k, k < p.length + q.length → outs.getD k 0 = Mc p q i k + (if i ≤ k ∧ k < i + j then p.getD i 0 * q.getD (k - i) 0 else 0)) (fun j outs hj ho => ?_) _ ⟨o1, fun k hk => by rw [o2 k hk, if_neg (by omega)]; omega⟩
      obtain ⟨t1, t2⟩ := ho
      have hpi : p[i] = p.getD i 0 := by rw [List.getD_eq_getElem?_getD, List.getElem?_eq_getElem hi]; rfl
      have hqj : q[j] = q.getD j 0 := by rw [List.getD_eq_getElem?_getD, List.getElem?_eq_getElem hj]; rfl
      have hlt : i + j < outs.length := by omega
      have hgo := t2 (i + j) (by omega)
      rw [if_neg (by omega), Int.add_zero] at hgo
      have b1 := Mc_bnd hp hq i (i + j)
      have b2 : (p.getD i 0 * q.getD j 0).natAbs ≤ A * B := by
        rw [Int.natAbs_mul]
        exact Nat.mul_le_mul (getD_mem (fun c => c.natAbs ≤ A) (by simp) hp) (getD_mem (fun c => c.natAbs ≤ B) (by simp) hq)
      have b3 : i * (A * B) + A * B ≤ (p.length + 1) * (A * B) := by
        have : i * (A * B) ≤ p.length * (A * B) := Nat.mul_le_mul_right _ (by omega)
        rw [Nat.add_mul, Nat.one_mul]; omega
      have hw : IntKind.wrap .i64 ((i : Int) + (j : Int)) = ((i + j : Nat) : Int) := by rw [wrap64 (by omega) (by omega)]; omega
      refine ⟨outs.set (i + j) (Mc p q i (i + j) + p.getD i 0 * q.getD j 0), ?_, by simp [t1], fun k hk => ?_⟩
      · show i_multiplySingle_1006 _ _ _ _ _ _ _ _ _ _ = i_multiplySingle_1006 _ _ _ _ _ _ _ _ _ _
        rw [Ei_multiplySingle_1006, ct (ltt hj), ct (bA hj), hw, ct (bA hlt), ct (by rw [Int.toNat_natCast]; simpa using hlt), ct (bA hlt), ct (by rw [Int.toNat_natCast]; simpa using hlt), gD hj, gD hlt, sc hj (by omega), Int.toNat_natCast]
        have e : outs[i + j] = outs.getD (i + j) 0 := by rw [List.getD_eq_getElem?_getD, List.getElem?_eq_getElem hlt]; rfl
        rw [e, hgo, hqj, hpi, wrap64 (n := p.getD i 0 * q.getD j 0) (by omega) (by omega), wrap64 (by omega) (by omega)]
      · rw [getD_set hlt]
        by_cases hk2 : k = i + j
        · subst hk2
          rw [if_pos rfl, if_pos (by omega), show i + j - i = j by omega]
        · rw [if_neg hk2, t2 k hk]
          by_cases h3 : i ≤ k ∧ k < i + j
          · rw [if_pos h3, if_pos (by omega)]
          · rw [if_neg h3, if_neg (by omega)]
    obtain ⟨outs', e1, e2, e3⟩ := inner
    refine ⟨outs', ?_, e2, fun k hk => ?_⟩
    · show i_multiplySingle_1003 _ _ _ _ _ = i_multiplySingle_1003 _ _ _ _ _
      rw [Ei_multiplySingle_1003, ct (ltt hi), ct (bA hi), gD hi]
      refine Eq.trans e1 ?_
      rw [Ei_multiplySingle_1006, cf ltf, sc hi (by omega)]
    · rw [e3 k hk]
      show _ = Mc p q i k + _
      by_cases h3 : i ≤ k
      · rw [if_pos h3]
        by_cases h4 : k < i + q.length
        · rw [if_pos ⟨h3, h4⟩]
        · rw [if_neg (by omega), getD_out (l := q) (by omega)]; simp
      · rw [if_neg h3, if_neg (by omega)]
  obtain ⟨outs, e1, e2, e3⟩ := rows
  refine Eq.trans (Eq.trans (show _ = i_multiplySingle_1003 q (List.replicate (p.length + q.length) (0 : Int)) p p.length ((0 : Nat) : Int) from rfl) e1) ?_
  rw [Ei_multiplySingle_1003, cf ltf, bret, stripped_v (by omega)]
  congr 2
  exact ext_getD (by simp [mulL, e2]) fun k hk => by rw [e3 k (by omega)]; unfold mulL; rw [getD_range, if_pos (by omega)]
theorem Mc_one {p : List Int} {c : Int} : ∀ i k, Mc p [c] i k = if k < i then p.getD k 0 * c else 0
  | 0, k => by simp [Mc]
  | i + 1, k => by
    show Mc p [c] i k + _ = _
    rw [Mc_one i k]
    by_cases h : k < i
    · rw [if_pos h, if_neg (by omega), if_pos (by omega)]; omega
    · by_cases h2 : k = i
      · subst h2; rw [if_neg h, if_pos (Nat.le_refl _), if_pos (by omega), Nat.sub_self]; simp
      · rw [if_neg h, if_pos (by omega), if_neg (by omega), getD_out (l := [c]) (by simp; omega)]; simp
theorem mulL_one {p : List Int} {c : Int} (k : Nat) : (mulL p [c]).getD k 0 = p.getD k 0 * c := by
  unfold mulL
  rw [getD_range, Mc_one]
  by_cases h : k < p.length
  · rw [if_pos (by simp; omega), if_pos h]
  · rw [getD_out (l := p) (by omega)]; split <;> simp [h]
/-! fam -/
/-- The family at a moment, with six coefficients. -/
def fam (p q : List Int) (i f : Nat) : List Int := (List.range 6).map fun k => p.getD k 0 * 2 ^ f + q.getD k 0 * i
theorem fam_getD {p q : List Int} {i f : Nat} (hp : p.length ≤ 6) (hq : q.length ≤ 6) (k : Nat) : (fam p q i f).getD k 0 = p.getD k 0 * 2 ^ f + q.getD k 0 * i := by
  unfold fam
  rw [getD_range]
  by_cases h : k < 6
  · rw [if_pos h]
  · rw [if_neg h, getD_out (l := p) (by omega), getD_out (l := q) (by omega)]; simp
theorem fam_bnd {p q : List Int} {i f : Nat} (hp : ∀ c ∈ p, -1000 ≤ c ∧ c ≤ 1000) (hq : ∀ c ∈ q, -1000 ≤ c ∧ c ≤ 1000) (hf : f ≤ 4) (hi : i ≤ 2 ^ f) : ∀ c ∈ fam p q i f, c.natAbs ≤ 32000 := by
  intro c hc
  unfold fam at hc
  obtain ⟨k, _, rfl⟩ := List.mem_map.1 hc
  have P : -1000 ≤ p.getD k 0 ∧ p.getD k 0 ≤ 1000 := getD_mem (fun c => -1000 ≤ c ∧ c ≤ 1000) (by decide) hp
  have Q : -1000 ≤ q.getD k 0 ∧ q.getD k 0 ≤ 1000 := getD_mem (fun c => -1000 ≤ c ∧ c ≤ 1000) (by decide) hq
  have hf16 : 2 ^ f ≤ 16 := Nat.le_trans (Nat.pow_le_pow_right (by decide) hf) (by decide)
  have h1 : (p.getD k 0 * 2 ^ f).natAbs ≤ 1000 * 16 := by
    rw [Int.natAbs_mul, show Int.natAbs (2 ^ f) = 2 ^ f by rw [Int.natAbs_pow]; rfl]; exact Nat.mul_le_mul (by omega) hf16
  have h2 : (q.getD k 0 * (i : Int)).natAbs ≤ 1000 * 16 := by
    rw [Int.natAbs_mul, Int.natAbs_natCast]; exact Nat.mul_le_mul (by omega) (by omega)
  have := Int.natAbs_add_le (p.getD k 0 * 2 ^ f) (q.getD k 0 * (i : Int))
  omega
theorem trim_eq {l m : List Int} {n : Nat} (hl : l.length ≤ n) (hm : m.length ≤ n) (h : ∀ k, l.getD k 0 = m.getD k 0) : trim l = trim m := by
  have : l ++ List.replicate (n - l.length) 0 = m ++ List.replicate (n - m.length) 0 := ext_getD (by simp; omega) fun k _ => by rw [getD_app0, getD_app0, h k]
  rw [← trim_zeros l (n - l.length), this, trim_zeros]
theorem p2f {f : Nat} (hf : f ≤ 4) : IntKind.wrap .i64 (1 * 2 ^ min (Int.toNat (f : Int)) (IntKind.bits .i64)) = 2 ^ f := by
  have h1 : (2 : Int) ^ f ≤ 2 ^ 4 := by exact_mod_cast Nat.pow_le_pow_right (by decide) hf
  have h2 : (0 : Int) < 2 ^ f := Int.pow_pos (by decide)
  rw [Int.toNat_natCast, show IntKind.bits .i64 = 64 from rfl, Nat.min_eq_left (by omega), Int.one_mul, wrap64 (by omega) (by omega)]
theorem familyAt_v {p q : List Int} {i f : Nat} (hp : smOk p = true) (hq : smOk q = true) (hf : f ≤ 4) (hi : i ≤ 2 ^ f) : i_familyAt p q (i : Int) (f : Int) = some (trim (fam p q i f)) := by
  obtain ⟨p1, p2, p3, _⟩ := smOk_bnd hp
  obtain ⟨q1, q2, q3, _⟩ := smOk_bnd hq
  have hf16 : 2 ^ f ≤ 16 := Nat.le_trans (Nat.pow_le_pow_right (by decide) hf) (by decide)
  have n2 : Int.natAbs (2 ^ f) = 2 ^ f := by rw [Int.natAbs_pow]; rfl
  unfold i_familyAt
  rw [ct (by simp), p2f hf]
  have m1 := multiplySingle_v (p := p) (q := [2 ^ f]) (A := 1000) (B := 16) (fun c hc => by have := p3 c hc; omega) (fun c hc => by rw [List.mem_singleton.1 hc, n2]; exact hf16) (Nat.le_trans (Nat.mul_le_mul_right _ (show p.length + 1 ≤ 7 by omega)) (by decide)) (by omega) (by simp)
  have m2 := multiplySingle_v (p := q) (q := [(i : Int)]) (A := 1000) (B := 16) (fun c hc => by have := q3 c hc; omega) (fun c hc => by rw [List.mem_singleton.1 hc]; omega) (Nat.le_trans (Nat.mul_le_mul_right _ (show q.length + 1 ≤ 7 by omega)) (by decide)) (by omega) (by simp)
  have b : ∀ {l : List Int} {c : Int}, (∀ x ∈ l, -1000 ≤ x ∧ x ≤ 1000) → c.natAbs ≤ 16 → ∀ x ∈ trim (mulL l [c]), x.natAbs ≤ 16000 := by
    intro l c hl hc x hx
    obtain ⟨k, hk, rfl⟩ := List.mem_iff_getElem.1 hx
    have e : (trim (mulL l [c])).getD k 0 = (trim (mulL l [c]))[k] := by rw [List.getD_eq_getElem?_getD, List.getElem?_eq_getElem hk]; rfl
    rw [← e, trim_getD, mulL_one, Int.natAbs_mul]
    have : -1000 ≤ l.getD k 0 ∧ l.getD k 0 ≤ 1000 := getD_mem (fun c => -1000 ≤ c ∧ c ≤ 1000) (by decide) hl
    exact Nat.mul_le_mul (show (l.getD k 0).natAbs ≤ 1000 by omega) hc
  have l1 := trim_len (mulL p [2 ^ f])
  have l2 := trim_len (mulL q [(i : Int)])
  have l3 : (mulL p [2 ^ f]).length = p.length + 1 := by simp [mulL]
  have l4 : (mulL q [(i : Int)]).length = q.length + 1 := by simp [mulL]
  have hx := addSingle_v (p := trim (mulL p [2 ^ f])) (q := trim (mulL q [(i : Int)])) (A := 16000) (b p3 (by rw [n2]; exact hf16)) (b q3 (by omega)) (by decide) (by omega) (by omega)
  rw [bsome m1, bsome m2, bret, hx]
  refine congrArg some ?_
  refine trim_eq (n := 7) (by unfold addL; rw [List.length_map, List.length_range]; omega) (by unfold fam; rw [List.length_map, List.length_range]; decide) fun k => ?_
  rw [addL_getD, trim_getD, trim_getD, mulL_one, mulL_one, fam_getD p2 q2]
/-! faAt -/
theorem faAt_v {p q : List Int} {i f : Nat} (hp : smOk p = true) (hq : smOk q = true) (hf : f ≤ 4) (hi : i ≤ 2 ^ f) : s_faAt p q (i : Int) (f : Int) = some (fam p q i f) := by
  obtain ⟨p1, p2, p3, _⟩ := smOk_bnd hp
  obtain ⟨q1, q2, q3, _⟩ := smOk_bnd hq
  have hf16 : 2 ^ f ≤ 16 := Nat.le_trans (Nat.pow_le_pow_right (by decide) hf) (by decide)
  have P : ∀ k, -1000 ≤ p.getD k 0 ∧ p.getD k 0 ≤ 1000 := fun k => getD_mem (fun c => -1000 ≤ c ∧ c ≤ 1000) (by decide) p3
  have Q : ∀ k, -1000 ≤ q.getD k 0 ∧ q.getD k 0 ≤ 1000 := fun k => getD_mem (fun c => -1000 ≤ c ∧ c ≤ 1000) (by decide) q3
  have B1 : ∀ k, (p.getD k 0 * 2 ^ f).natAbs ≤ 1000 * 16 := fun k => by
    rw [Int.natAbs_mul, show Int.natAbs (2 ^ f) = 2 ^ f by rw [Int.natAbs_pow]; rfl]; exact Nat.mul_le_mul (by have := P k; omega) hf16
  have B2 : ∀ k, (q.getD k 0 * (i : Int)).natAbs ≤ 1000 * 16 := fun k => by
    rw [Int.natAbs_mul, Int.natAbs_natCast]; exact Nat.mul_le_mul (by have := Q k; omega) (by omega)
  have first : ∃ outs, s_faAt_1003 q (i : Int) (f : Int) (List.replicate 6 (0 : Int)) p p.length ((0 : Nat) : Int) = s_faAt_1003 q (i : Int) (f : Int) outs p p.length (p.length : Int) ∧ outs.length = 6 ∧ ∀ k, k < 6 → outs.getD k 0 = if k < p.length then p.getD k 0 * 2 ^ f else 0 := by
    refine inv_loop (n := p.length) (f := fun j (outs : List Int) => s_faAt_1003 q (i : Int) (f : Int) outs p p.length (j : Int)) (fun j outs => outs.length = 6 ∧ ∀ k, k < 6 → outs.getD k 0 = if k < j then p.getD k 0 * 2 ^ f else 0) (fun j outs hj ho => ?_) _ ⟨by simp, fun k hk => by rw [if_neg (by omega)]; exact getD_rep⟩
    obtain ⟨t1, t2⟩ := ho
    have hlt : j < outs.length := by omega
    have hbl : Nat.blt (Int.toNat (j : Int)) outs.length = true := by rw [Int.toNat_natCast]; simpa using hlt
    have hoj : List.getD outs (Int.toNat (j : Int)) 0 = 0 := by rw [Int.toNat_natCast, t2 j (by omega), if_neg (by omega)]
    have hpj : List.getD p (Int.toNat (j : Int)) 0 = p.getD j 0 := by rw [Int.toNat_natCast]
    have b1 := B1 j
    refine ⟨outs.set j (p.getD j 0 * 2 ^ f), ?_, by simp [t1], fun k hk => ?_⟩
    · show s_faAt_1003 _ _ _ _ _ _ _ = s_faAt_1003 _ _ _ _ _ _ _
      rw [Es_faAt_1003, ct (ltt hj), ct (bA hj), ct (bA hlt), ct hbl, bsome (dyPower_v (by omega) (by omega)), ct (bA hlt), ct hbl, hoj, hpj, Int.toNat_natCast, Int.toNat_natCast, wrap64 (n := p.getD j 0 * 2 ^ f) (by omega) (by omega), Int.zero_add, wrap64 (by omega) (by omega), sc hj (by omega)]
    · rw [getD_set hlt]
      by_cases h : k = j
      · subst h; rw [if_pos rfl, if_pos (by omega)]
      · rw [if_neg h, t2 k hk]
        by_cases h' : k < j
        · rw [if_pos h', if_pos (by omega)]
        · rw [if_neg h', if_neg (by omega)]
  obtain ⟨o1, e1, l1, g1⟩ := first
  have second : ∃ outs, s_faAt_1008 (i : Int) o1 q q.length ((0 : Nat) : Int) = s_faAt_1008 (i : Int) outs q q.length (q.length : Int) ∧ outs.length = 6 ∧ ∀ k, k < 6 → outs.getD k 0 = p.getD k 0 * 2 ^ f + (if k < q.length then q.getD k 0 * (i : Int) else 0) := by
    refine inv_loop (n := q.length) (f := fun j (outs : List Int) => s_faAt_1008 (i : Int) outs q q.length (j : Int)) (fun j outs => outs.length = 6 ∧ ∀ k, k < 6 → outs.getD k 0 = p.getD k 0 * 2 ^ f + (if k < j then q.getD k 0 * (i : Int) else 0)) (fun j outs hj ho => ?_) _ ⟨l1, fun k hk => by
      rw [g1 k hk, if_neg (show ¬ k < 0 by omega)]
      by_cases h : k < p.length
      · rw [if_pos h]; omega
      · rw [if_neg h, getD_out (l := p) (by omega)]; simp⟩
    obtain ⟨t1, t2⟩ := ho
    have hlt : j < outs.length := by omega
    have hbl : Nat.blt (Int.toNat (j : Int)) outs.length = true := by rw [Int.toNat_natCast]; simpa using hlt
    have hoj : List.getD outs (Int.toNat (j : Int)) 0 = p.getD j 0 * 2 ^ f := by rw [Int.toNat_natCast, t2 j (by omega), if_neg (by omega)]; omega
    have hqj : List.getD q (Int.toNat (j : Int)) 0 = q.getD j 0 := by rw [Int.toNat_natCast]
    have b1 := B1 j
    have b2 := B2 j
    refine ⟨outs.set j (p.getD j 0 * 2 ^ f + q.getD j 0 * (i : Int)), ?_, by simp [t1], fun k hk => ?_⟩
    · show s_faAt_1008 _ _ _ _ _ = s_faAt_1008 _ _ _ _ _
      rw [Es_faAt_1008, ct (ltt hj), ct (bA hj), ct (bA hlt), ct hbl, ct (bA hlt), ct hbl, hoj, hqj, wrap64 (n := q.getD j 0 * (i : Int)) (by omega) (by omega), wrap64 (by omega) (by omega), sc hj (by omega), Int.toNat_natCast]
    · rw [getD_set hlt]
      by_cases h : k = j
      · subst h; rw [if_pos rfl, if_pos (by omega)]
      · rw [if_neg h, t2 k hk]
        by_cases h' : k < j
        · rw [if_pos h', if_pos (by omega)]
        · rw [if_neg h', if_neg (by omega)]
  obtain ⟨o2, e2, l2, g2⟩ := second
  unfold s_faAt
  refine Eq.trans (Eq.trans (show _ = s_faAt_1003 q (i : Int) (f : Int) (List.replicate 6 (0 : Int)) p p.length ((0 : Nat) : Int) from rfl) e1) ?_
  rw [Es_faAt_1003, cf ltf]
  refine Eq.trans e2 ?_
  rw [Es_faAt_1008, cf ltf]
  congr 1
  refine ext_getD (by simp [fam, l2]) fun k hk => ?_
  rw [g2 k (by omega), fam_getD p2 q2]
  by_cases h : k < q.length
  · rw [if_pos h]
  · rw [if_neg h, getD_out (l := q) (by omega)]; simp
end Go.Proofs.YtnndolcjljhhcaaE
