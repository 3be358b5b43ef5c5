/- Plain lemmas on what the printed functions come to. -/
import Derived.Test.YtkahcjnkmbbplaaXJ
import Derived.Test.YtkahcjnkmbbplaaXK
set_option maxRecDepth 100000
set_option linter.unusedVariables false
set_option linter.unusedSimpArgs false
namespace Go.Proofs.YtkahcjnkmbbplaaE
/-! mainShareOf -/
/-- A number's parts, if it is not negative. -/
theorem red_parts {k : Nat} {n : Int} (hk : k ≤ 24) (h0 : 0 ≤ n) : ∃ x a : Nat, red k n = ((x : Int), (a : Int)) ∧ a ≤ 24 ∧ vd24 (x : Int) (a : Int) = n * 2 ^ (24 - k) := by
  obtain ⟨r, h1, h2, h3, h4⟩ := red_spec k n
  have hp : (0 : Int) < 2 ^ (k - r) := p2pos _
  have hx : 0 ≤ (red k n).1 := by
    by_cases hx : 0 ≤ (red k n).1
    · exact hx
    · have := Int.mul_neg_of_neg_of_pos (Int.not_le.1 hx) hp
      omega
  obtain ⟨x, ex⟩ := Int.eq_ofNat_of_zero_le hx
  refine ⟨x, r, Prod.ext ex h1, by omega, ?_⟩
  have := red_v24 (n := n) hk
  rw [ex, h1] at this
  exact this
theorem asked_vol {b : Bx} {l : List Nd} {bs : List Bx} (ha : asked b l = some bs) : vsum bs ≤ volB b := by
  obtain ⟨hbb, htt, hlb, _⟩ := asked_parts ha
  obtain ⟨t1, t2, t3⟩ := isT_parts htt
  have := lbx_vol (s := b.2.1.length) t2 (st := [b]) (fun c hc => by rw [List.mem_singleton.1 hc]; exact ⟨hbb, rfl⟩) hlb
  simp only [vsum] at this
  omega
theorem main_FnExactShareOf {b : Bx} {l : List Nd} {kind : Int} (hb : SzBox 1000000 b) (hl : l.length ≤ 1000000) (hk0 : okD (.int .i64) kind) : ∃ w, s_ShareOf b.1 b.2.1 b.2.2 l kind = some w ∧ i_ShareOf b.1 b.2.1 b.2.2 l kind = some w := by
  unfold s_ShareOf i_ShareOf s_rpKind i_isLeafKind
  have hf : i_treeFits (b.1, b.2.1, b.2.2) l = some (asked b l).isSome := treeFits_v hl
  rw [bsome (rpAsked_v hl), bsome hf]
  cases ha : asked b l with
  | none => exact ⟨_, rfl, rfl⟩
  | some bs =>
    show ∃ w, (bif !(lbR [] (some bs)).2 then _ else _) = some w ∧ (bif !true then _ else _) = some w
    rw [cnt, bret, bret, bsome (l1In_v ..), bsome (inside_v ..)]
    show ∃ w, (bif !true then some ((0 : Int), false) else _) = some w ∧ _ = some w
    rw [cnt]
    by_cases hk : 1 ≤ kind ∧ kind ≤ 3
    rotate_left
    · rw [decide_eq_false hk]; exact ⟨_, rfl, rfl⟩
    rw [decide_eq_true hk, cnt, cnt]
    obtain ⟨hbb, _, _, hbs, hlen, hsum, _⟩ := asked_parts ha
    have k1 : i_kindVolumes (b.1, b.2.1, b.2.2) l = _ := kindVolumes_v hl ha
    have k2 : i_Box_volume (b.1, b.2.1, b.2.2) = some (vp b, true) := boxVolume_v hbb
    have k3 : s_rpVolume (lbR [] (some bs)).1 l kind = some (red 24 (ksum kind (lvs l) bs)) := rpVolume_v hl (fun c hc => (hbs c hc).1) hlen hsum
    rw [bsome k3, bsome k1, bsome k2]
    show ∃ w, _ = some w ∧ (bif !true then some ((0 : Int), false) else bif !true then some ((0 : Int), false) else _) = some w
    rw [cnt, cnt]
    have hget : List.getD [red 24 (ksum 1 (lvs l) bs), red 24 (ksum 2 (lvs l) bs), red 24 (ksum 3 (lvs l) bs)] (Int.toNat (IntKind.wrap .i64 (kind - 1))) (0, 0) = red 24 (ksum kind (lvs l) bs) ∧ boundA (IntKind.wrap .i64 (kind - 1)) 3 = true ∧ Nat.blt (Int.toNat (IntKind.wrap .i64 (kind - 1))) 3 = true := by
      have : kind = 1 ∨ kind = 2 ∨ kind = 3 := by omega
      rcases this with rfl | rfl | rfl <;> exact ⟨rfl, rfl, rfl⟩
    obtain ⟨g1, g2, g3⟩ := hget
    have hks := ksum_bd (kind := kind) (ns := lvs l) (bs := bs) fun c hc => (hbs c hc).1
    have hvb := vv_pos hbb
    have hvb2 := vv_nn hbb
    have hS : ksum kind (lvs l) bs ≤ 68719476736 := by omega
    obtain ⟨x, a, e1, a1, v1⟩ := red_parts (n := ksum kind (lvs l) bs) (Nat.le_refl 24) hks.1
    obtain ⟨y, c, e2, c1, v2⟩ := red_parts (n := prd (wds b.2.1 b.2.2)) (vp_k hbb) (volB_bd hbb).1
    have e2 : vp b = ((y : Int), (c : Int)) := e2
    have hv2 : vv b = vd24 (y : Int) (c : Int) := by unfold vv; rw [e2]
    have hV : vd24 (y : Int) (c : Int) = ((y * 2 ^ (24 - c) : Nat) : Int) := by unfold vd24; simp
    have hX : vd24 (x : Int) (a : Int) = ((x * 2 ^ (24 - a) : Nat) : Int) := by unfold vd24; simp
    rw [show (24 : Nat) - 24 = 0 from rfl, Int.pow_zero, Int.mul_one] at v1
    have hXS : ((x * 2 ^ (24 - a) : Nat) : Int) = ksum kind (lvs l) bs := by rw [← hX, v1]
    have hYV : ((y * 2 ^ (24 - c) : Nat) : Int) = vv b := by rw [← hV, hv2]
    have hxle : x * 1 ≤ x * 2 ^ (24 - a) := Nat.mul_le_mul_left _ (Nat.two_pow_pos _)
    have hyle : y * 1 ≤ y * 2 ^ (24 - c) := Nat.mul_le_mul_left _ (Nat.two_pow_pos _)
    have hy0 : 0 < y := by
      rcases Nat.eq_zero_or_pos y with h | h
      · rw [h, Nat.zero_mul] at hYV; omega
      · exact h
    have q1 : s_dyAt (x : Int) (a : Int) 24 = some (ksum kind (lvs l) bs, true) := by
      have := dyAt_v (N := (x : Int)) (K := (a : Int)) (k := 24) (by omega) (by omega) (by decide) (by rw [Int.natAbs_natCast, Int.toNat_natCast]; omega)
      rw [Int.toNat_natCast] at this
      refine this.trans ?_
      rw [← hXS]; simp
    have q2 : s_dyAt (y : Int) (c : Int) 24 = some (vv b, true) := by
      have := dyAt_v (N := (y : Int)) (K := (c : Int)) (k := 24) (by omega) (by omega) (by decide) (by rw [Int.natAbs_natCast, Int.toNat_natCast]; omega)
      rw [Int.toNat_natCast] at this
      refine this.trans ?_
      rw [← hYV]; simp
    have hsv : s_bxVolume b.1 b.2.1 b.2.2 = some ((y : Int), (c : Int)) := by rw [bxVolume_v hbb, e2]
    have hkb : 100 * x * 2 ^ ((c : Int) - (a : Int)).toNat < 2 ^ 64 := by
      by_cases h : a ≤ c
      · have : x * 2 ^ (c - a) ≤ x * 2 ^ (24 - a) := Nat.mul_le_mul_left _ (Nat.pow_le_pow_right (by decide) (by omega))
        rw [show ((c : Int) - (a : Int)).toNat = c - a by omega, Nat.mul_assoc]
        omega
      · rw [show ((c : Int) - (a : Int)).toNat = 0 by omega]; omega
    have hq := quot_v (n := 100 * x) (d := y) (k := (c : Int) - (a : Int)) (by omega) hy0 (by omega) (by omega) (by omega) hkb
    rw [share_eq a1 c1] at hq
    have hQ : 100 * (x * 2 ^ (24 - a)) / (y * 2 ^ (24 - c)) ≤ 100 * (x * 2 ^ (24 - a)) := Nat.div_le_self ..
    generalize hQe : 100 * (x * 2 ^ (24 - a)) / (y * 2 ^ (24 - c)) = Q at hq hQ
    generalize hPe : ksum kind (lvs l) bs = P at *
    have hQ40 : Q ≤ 100 := by
      have h1 := asked_vol ha
      have h2 : 8 * vv b = volB b := vv_vol hbb
      rw [← hQe]
      exact Nat.div_le_of_le_mul (by omega)
    refine ⟨((Q : Int), true), ?_, ?_⟩
    · rw [e1, bsome q1, bsome hsv]
      refine (bsome q2).trans ?_
      rw [ct (ndt (p := vv b = 0) (by omega)), wrap64 (n := 100 * P) (by omega) (by omega)]
      have et : Int.tdiv (100 * P) (vv b) = (Q : Int) := by
        rw [← hXS, ← hYV, ← hQe]
        exact (rfl : Int.tdiv ((100 * (x * 2 ^ (24 - a)) : Nat) : Int) ((y * 2 ^ (24 - c) : Nat) : Int) = _)
      rw [et, wrap64 (n := (Q : Int)) (by omega) (by omega)]
    · refine (ct g2).trans ?_
      refine (ct g3).trans ?_
      rw [g1, e1, e2]
      show (i_quotientDown (IntKind.wrap .i64 (100 * (x : Int))) (IntKind.wrap .i64 ((c : Int) - (a : Int))) (y : Int) 0).bind _ = _
      rw [wrap64 (n := 100 * (x : Int)) (by omega) (by omega), wrap64 (n := (c : Int) - (a : Int)) (by omega) (by omega)]
      have hq' : i_quotientDown (100 * (x : Int)) ((c : Int) - (a : Int)) (y : Int) 0 = some (dmk 0 (Q : Int)) := hq
      rw [bsome hq', dmk_ok (by decide) (by omega)]
      rfl
end Go.Proofs.YtkahcjnkmbbplaaE
