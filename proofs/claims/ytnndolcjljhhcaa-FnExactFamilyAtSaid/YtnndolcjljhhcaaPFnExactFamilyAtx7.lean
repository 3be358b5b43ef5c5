-- Written by a program of the session (wip/xprint) for this claim.
import Derived.Test.YtnndolcjljhhcaaPFnExactFamilyAtx0
import Derived.Test.YtnndolcjljhhcaaPFnExactFamilyAtx2
import Derived.Test.YtnndolcjljhhcaaPFnExactFamilyAtx3
import Derived.Test.YtnndolcjljhhcaaPFnExactFamilyAtx6
namespace Go.Proofs.Ytnndolcjljhhcaa.PFnExactFamilyAt
open Go.RowKit Go.Proofs.YtnndolcjljhhcaaW.PrintWords Go.Proofs.YtnndolcjljhhcaaW.PrintLast Go.Proofs.YtnndolcjljhhcaaW.PrintMore Go.Proofs.YtnndolcjljhhcaaX
attribute [local go_sem] max2_int min2_int max_two min_two max_three min_three max_four min_four   -- for this text's walks alone
set_option linter.unusedVariables false
set_option linter.unusedSimpArgs false

/-! ### laws_heldIntS: function 20 -/
def laws_heldIntS.l0 : Nat → List Int → Int → Int → Option (Int)
  | 0, _, _, _ => none
  | k + 1, x0, x1, x5 => if x5 < (x0.length : Int) then (if 0 ≤ x5 then (if (rd x0 x5) = x1 then (laws_heldIntS.l0 k x0 (wrap64 (x1 + 1)) (wrap64 (x5 + 1))) else (some (-1))) else (none)) else (some x1)
def laws_heldIntS.f (k : Nat) (l0 : List Int) (a1 : Int) : Option (Int) := laws_heldIntS.l0 k l0 a1 0
theorem laws_heldIntS.mono_l : ∀ k, (∀ y0 y1 y2, LeO (laws_heldIntS.l0 k y0 y1 y2) (laws_heldIntS.l0 (k + 1) y0 y1 y2))
  | 0 => fun _ _ _ r h => by simp [laws_heldIntS.l0] at h
  | k + 1 => by
    have ih0 := laws_heldIntS.mono_l k
    · intro y0 y1 y2
      unfold laws_heldIntS.l0
      repeat' first
      | (with_reducible exact ih0 _ _ _)
      | (with_reducible exact LeO.refl _)
      | (with_reducible exact LeO.none _)
      | (with_reducible refine LeO.ite ?_ ?_)
      | (with_reducible refine LeO.bind ?_ (fun _ => ?_))
      | exact ih0 _ _ _
      | exact LeO.none _
      | refine LeO.ite ?_ ?_
      | refine LeO.bind ?_ (fun _ => ?_)
theorem laws_heldIntS.mono : ∀ a0 a1 k, LeO (laws_heldIntS.f k a0 a1) (laws_heldIntS.f (k + 1) a0 a1) := by
  intro a0 a1 k
  have ih0 := laws_heldIntS.mono_l k
  unfold laws_heldIntS.f
  repeat' first
      | (with_reducible exact ih0 _ _ _)
      | (with_reducible exact LeO.refl _)
      | (with_reducible exact LeO.none _)
      | (with_reducible refine LeO.ite ?_ ?_)
      | (with_reducible refine LeO.bind ?_ (fun _ => ?_))
      | exact ih0 _ _ _
      | exact LeO.none _
      | refine LeO.ite ?_ ?_
      | refine LeO.bind ?_ (fun _ => ?_)
set_option maxHeartbeats 8000000 in
set_option maxRecDepth 100000 in
theorem laws_heldIntS.calls (k : Nat) (A0 : Option Addr) (c0 : Nat) (l0 : List Int) (a1 : Int) (r : Int) (w : World) (hr0 : Kd.C (Kd.int .i64) w A0 l0.length l0) (hc0 : l0.length ≤ c0) (h : laws_heldIntS.f k l0 a1 = some r) :
    Calls Try.prog 20 #[.slice A0 l0.length c0, .int .i64 a1] w fun e w' => e = .returned (.int .i64 r) ∧ Drawn0 w w' := by
  have HR0 := Aside0.mk hr0
  have HC0 := Aside0.mk hc0
  clear hr0 hc0
  have H : (laws_heldIntS.l0 k l0 a1 0) = some r := h
  clear h
  have H' := Aside0.mk H
  clear H
  go_enter Try.func20, Try.ntmps20
  go_wp2
  go_loopg [1, 5] k (fun kq v1 v5 w' => ∃ (x1_1 : Int) (x5_1 : Int), v1 = .int .i64 x1_1 ∧ v5 = .int .i64 x5_1 ∧ Aside0 (laws_heldIntS.l0 kq l0 x1_1 x5_1 = some r) ∧ Aside0 (kq ≤ k) ∧ Drawn0 w w')
  case atStart => exact ⟨(a1), (0), (by first | rfl | (simp; done) | (simp [*]; done)), (by first | rfl | (simp; done) | (simp [*]; done)), H', ⟨Nat.le_refl _⟩, by repeat (first | exact Drawn0.refl _ | apply Drawn0.step)⟩
  case round =>
    clear H'
    try clear c2
    try clear p2
    obtain ⟨x1_1, x5_1, rfl, rfl, HA, HK1, ⟨m1, rfl⟩⟩ := hrel
    cases gk with
    | zero => exact absurd HA.out (by simp [laws_heldIntS.l0])
    | succ k1 =>
      have H := HA.out
      clear HA
      simp only [laws_heldIntS.l0] at H
      by_cases c3 : x5_1 < (l0.length : Int)
      · rw [if_pos c3] at H
        have c3b0 : decide (x5_1 < (l0.length : Int)) = true := decide_eq_true c3
        clear c3
        by_cases c4 : 0 ≤ x5_1
        · rw [if_pos c4] at H
          have c4b0 : decide (0 ≤ x5_1) = true := decide_eq_true c4
          clear c4
          by_cases c5 : (rd l0 x5_1) = x1_1
          · rw [if_pos c5] at H
            have c5b0 : ((rd l0 x5_1) == x1_1) = true := beq_iff_eq.mpr c5
            have c5b1 : ((rd l0 x5_1) != x1_1) = false := bne_eq_false_iff_eq.mpr c5
            clear c5
            have H' := Aside0.mk H
            clear H
            have p236 : 0 ≤ (x5_1 : Int) := of_decide_eq_true (by first | (with_reducible assumption) | assumption)
            have q236 : x5_1 < (l0.length : Int) := of_decide_eq_true (by first | (with_reducible assumption) | assumption)
            obtain ⟨ad236, e236, hx236_0⟩ := Kd.at_int HR0.out x5_1 p236 q236
            cases e236
            replace p236 := eq_true p236
            replace q236 := eq_true q236
            go_wp2
            go_roundg k1
            case measure => have := HK1.out; omega
            case rel => exact ⟨(wrap64 (x1_1 + 1)), (wrap64 (x5_1 + 1)), (by first | rfl | (simp; done) | (simp [*]; done)), (by first | rfl | (simp; done) | (simp [*]; done)), H', ⟨by have := HK1.out; omega⟩, by repeat (first | exact Drawn0.refl _ | apply Drawn0.step)⟩
          · rw [if_neg c5] at H
            have c5b0 : ((rd l0 x5_1) == x1_1) = false := beq_eq_false_iff_ne.mpr c5
            have c5b1 : ((rd l0 x5_1) != x1_1) = true := bne_iff_ne.mpr c5
            obtain rfl := Option.some.inj H
            have p236 : 0 ≤ (x5_1 : Int) := of_decide_eq_true (by first | (with_reducible assumption) | assumption)
            have q236 : x5_1 < (l0.length : Int) := of_decide_eq_true (by first | (with_reducible assumption) | assumption)
            obtain ⟨ad236, e236, hx236_0⟩ := Kd.at_int HR0.out x5_1 p236 q236
            cases e236
            replace p236 := eq_true p236
            replace q236 := eq_true q236
            go_wp2
            go_ret
            exact ⟨by first | rfl | (simp; done) | (simp [*]; done), by repeat (first | exact Drawn0.refl _ | apply Drawn0.step)⟩
        · rw [if_neg c4] at H
          exact absurd H (by simp)
      · rw [if_neg c3] at H
        have c3b0 : decide (x5_1 < (l0.length : Int)) = false := decide_eq_false c3
        clear c3
        obtain rfl := Option.some.inj H
        go_wp2
        go_ret
        exact ⟨by first | rfl | (simp; done) | (simp [*]; done), by repeat (first | exact Drawn0.refl _ | apply Drawn0.step)⟩

theorem x_mhIntS : ∀ (m i : Nat) (x : Int) (l : List (Int)), i + m = l.length → l.length ≤ 1099511627776 → 0 ≤ x → x + 1 * (m : Int) ≤ 1152921504606846976 → ∃ r ys, Ev (fun k => laws_markIntS.l0 k l x i) (r, ys) ∧ ys.length = l.length ∧ ys.take i = l.take i ∧ Ev (fun k => laws_heldIntS.l0 k ys x i) r ∧ r = x + 1 * (m : Int) := by
  intro m
  induction m with
  | zero =>
    intro i x l hi hl h0 hx
    exact ⟨x, l, Ev.step (fun k => laws_markIntS.l0.eq_2 l x i k) (ev_ite_neg (by omega) (Ev.now _)), rfl, rfl, Ev.step (fun k => laws_heldIntS.l0.eq_2 l x i k) (ev_ite_neg (by omega) (Ev.now _)), by omega⟩
  | succ m ih =>
    intro i x l hi hl h0 hx
    have hlt : i < l.length := by omega
    obtain ⟨r, ys, h1, h2, h3, h4, h5⟩ := ih (i + 1) (x + 1) (l.set i x) (by simp; omega) (by simpa using hl) (by omega) (by omega)
    have e4 : wrap64 ((i : Int) + 1) = ((i + 1 : Nat) : Int) := by rw [w64 (by omega) (by omega)]; omega
    have w0 : wrap64 (x + 1) = x + 1 := by first | exact w64 (by omega) (by omega) | (rw [w64 (by omega) (by omega)]; omega)
    have rs : ∀ a, rd (l.set i a) (i : Int) = a := by
      intro a
      unfold rd
      rw [Int.toNat_natCast, List.getD_eq_getElem?_getD, List.getElem?_set_self hlt]
      rfl
    have hy : rd ys (i : Int) = x := by
      have h6 : ys[i]? = some x := by
        have h7 := congrArg (fun z => z[i]?) h3
        simp only [List.getElem?_take_of_lt (Nat.lt_succ_self i)] at h7
        rw [h7, List.getElem?_set_self hlt]
      unfold rd
      rw [Int.toNat_natCast, List.getD_eq_getElem?_getD, h6]
      rfl
    refine ⟨r, ys, ?_, by simpa using h2, ?_, ?_, by omega⟩
    · refine Ev.step (fun k => laws_markIntS.l0.eq_2 l x i k) (ev_ite_pos (by omega) (ev_ite_pos (by omega) ?_))
      (try simp only [Option.bind_some])
      simp only [w0, e4, Int.toNat_natCast]
      (try simp only [rs, List.set_set])
      exact h1
    · have h8 := congrArg (List.take i) h3
      rw [List.take_take, List.take_take, Nat.min_eq_left (Nat.le_succ i)] at h8
      rw [h8, List.take_set_of_le (Nat.le_refl i)]
    · have h9 : ys.length = l.length := by simpa using h2
      refine Ev.step (fun k => laws_heldIntS.l0.eq_2 ys x i k) (ev_ite_pos (by omega) (ev_ite_pos (by omega) ?_))
      simp only [hy, w0, e4, if_true]
      exact h4
theorem x_markIntS (l : List (Int)) (hl : l.length ≤ 1099511627776) (a : Int) (h0 : 0 ≤ a) (h1 : a ≤ 1125899906842624) : ∃ r ys, (∃ k, laws_markIntS.f k l a = some (r, ys)) ∧ ys.length = l.length ∧ (∃ k, laws_heldIntS.f k ys a = some r) ∧ r = a + 1 * (l.length : Int) := by
  obtain ⟨r, ys, h2, h3, _, h4, h5⟩ := x_mhIntS l.length 0 a l (by omega) hl h0 (by omega)
  obtain ⟨k, hk⟩ := h2.rounds
  obtain ⟨k', hk'⟩ := h4.rounds
  exact ⟨r, ys, ⟨k, hk⟩, h3, ⟨k', hk'⟩, h5⟩

/-! ### laws_FnExactFamilyAt: function 3 -/
/-- THE ONE PURE STATEMENT of laws_FnExactFamilyAt. -/
def laws_FnExactFamilyAt.Pure : Prop := ∀ (l0 : List Int) (l1 : List Int) (a2 : Int) (a3 : Int), (okL (okI .i64)) l0 → (okL (okI .i64)) l1 → (okI .i64) a2 → (okI .i64) a3 → l0.length + l1.length ≤ 1000000 → ∃ (r1 : List Int) (r2 : Bool), (∃ k, spec_FamilyAt.f k l0 l1 a2 a3 = some (r1, r2)) ∧ (∃ k, impl_FamilyAt.f k l0 l1 a2 a3 = some (r1, r2)) ∧ r1.length ≤ 1099511627776
set_option maxHeartbeats 8000000 in
set_option maxRecDepth 100000 in
theorem laws_FnExactFamilyAt.walk (P : laws_FnExactFamilyAt.Pure) (A0 : Option Addr) (c0 : Nat) (l0 : List Int) (A1 : Option Addr) (c1 : Nat) (l1 : List Int) (a2 : Int) (a3 : Int) (w : World) (hr0 : Kd.C (Kd.int .i64) w A0 l0.length l0) (hc0 : l0.length ≤ c0) (hr1 : Kd.C (Kd.int .i64) w A1 l1.length l1) (hc1 : l1.length ≤ c1) (z0 : (okL (okI .i64)) l0) (z1 : l0.length * 8 ≤ 140737488351232) (z2 : (okL (okI .i64)) l1) (z3 : l1.length * 8 ≤ 140737488351232) (z4 : (okI .i64) a2) (z5 : (okI .i64) a3) :
    Calls Try.prog 3 #[.slice A0 l0.length c0, .slice A1 l1.length c1, .int .i64 a2, .int .i64 a3] w fun e w' => e = .returned (.bool true) ∧ Below w.heap.size w w' := by
  have Z0 := Aside0.mk z0
  have Z1 := Aside0.mk z1
  have Z2 := Aside0.mk z2
  have Z3 := Aside0.mk z3
  have Z4 := Aside0.mk z4
  have Z5 := Aside0.mk z5
  have HR0 := Aside0.mk hr0
  have HC0 := Aside0.mk hc0
  clear hr0 hc0
  have HR1 := Aside0.mk hr1
  have HC1 := Aside0.mk hc1
  clear hr1 hc1
  clear z0 z1 z2 z3 z4 z5
  have HB := Aside0.mk (Below.refl w.heap.size w)
  obtain ⟨j1, hj1_⟩ : ∃ j : Int, wrap64 ((l0.length : Int) + (l1.length : Int)) = j := ⟨_, rfl⟩
  have hj1w : IntKind.i64.wrap ((l0.length : Int) + (l1.length : Int)) = j1 := (i64_w _).trans hj1_
  have GSj1 : Aside0 (j1 = (l0.length : Int) + (l1.length : Int)) := ⟨by rw [← hj1_]; exact w64 (by have hz0_ := Z1.out; have hz1_ := Z3.out; omega) (by have hz0_ := Z1.out; have hz1_ := Z3.out; omega)⟩
  by_cases q2 : 1000000 < j1
  · have q2b : decide (1000000 < j1) = true := decide_eq_true q2
    have Hq2 := Aside0.mk q2
    clear q2
    go_enter Try.func3, Try.ntmps3
    go_wp2
    go_ret
    exact ⟨rfl, HB.out⟩
  · have q2b : decide (1000000 < j1) = false := decide_eq_false q2
    have Hq2 := Aside0.mk q2
    clear q2
    obtain ⟨g0, hg0⟩ : ∃ g, g = l0.map x_cvIntS := ⟨_, rfl⟩
    have HL0 : Aside0 (l0.length ≤ 1000000) := ⟨by have h0_ := GSj1.out; have h1_ := Hq2.out; omega⟩
    have HG0 := Aside0.mk (show l0.length = g0.length by rw [hg0, List.length_map])
    have HM0 := Aside0.mk hg0
    clear hg0
    obtain ⟨f0f, ⟨kf0f, hf0f⟩, hn0f, hlt0f, hroom0f, hmx0f⟩ := x_fullIntS l0 HL0.out false
    rw [← HM0.out] at hlt0f
    have FT0f := Aside0.mk hf0f
    have NE0f := Aside0.mk (show f0f = [] → l0.length = 0 from fun h => by rw [hn0f h]; rfl)
    have LA0f := Aside0.mk hlt0f.1
    have LB0f := Aside0.mk hlt0f.2
    have RO0f := Aside0.mk hroom0f
    have MX0f := Aside0.mk hmx0f
    clear hf0f hn0f hlt0f hroom0f hmx0f
    obtain ⟨g1, hg1⟩ : ∃ g, g = l1.map x_cvIntS := ⟨_, rfl⟩
    have HL1 : Aside0 (l1.length ≤ 1000000) := ⟨by have h0_ := GSj1.out; have h1_ := Hq2.out; omega⟩
    have HG1 := Aside0.mk (show l1.length = g1.length by rw [hg1, List.length_map])
    have HM1 := Aside0.mk hg1
    clear hg1
    obtain ⟨f1f, ⟨kf1f, hf1f⟩, hn1f, hlt1f, hroom1f, hmx1f⟩ := x_fullIntS l1 HL1.out false
    rw [← HM1.out] at hlt1f
    have FT1f := Aside0.mk hf1f
    have NE1f := Aside0.mk (show f1f = [] → l1.length = 0 from fun h => by rw [hn1f h]; rfl)
    have LA1f := Aside0.mk hlt1f.1
    have LB1f := Aside0.mk hlt1f.2
    have RO1f := Aside0.mk hroom1f
    have MX1f := Aside0.mk hmx1f
    clear hf1f hn1f hlt1f hroom1f hmx1f
    obtain ⟨r1, r2, ⟨ks, hs⟩, ⟨ki, hi⟩, hlr1⟩ := P g0 g1 a2 a3 (x_okIntS HM0.out Z0.out) (x_okIntS HM1.out Z2.out) Z4.out Z5.out (by have h0_ := GSj1.out; have h1_ := Hq2.out; have hg0_ := HG0.out; have hg1_ := HG1.out; omega)
    have FS := Aside0.mk hs
    have FI := Aside0.mk hi
    clear hs hi
    have HLr1 := Aside0.mk hlr1
    clear hlr1
    obtain ⟨ker1, fe_⟩ := x_eqIntS r1 HLr1.out
    have FEr1 := Aside0.mk fe_
    clear fe_
    have FR0 := Aside0.mk (x_roomeq g0.length)
    have FN0 : Aside0 ((g0.length : Int) + ((x_room g0.length : Nat) : Int) = ((f0f.length : Nat) : Int)) := ⟨by have h1_ := RO0f.out rfl; have h2_ := HG0.out; rw [h1_, h2_]; omega⟩
    have FR1 := Aside0.mk (x_roomeq g1.length)
    have FN1 : Aside0 ((g1.length : Int) + ((x_room g1.length : Nat) : Int) = ((f1f.length : Nat) : Int)) := ⟨by have h1_ := RO1f.out rfl; have h2_ := HG1.out; rw [h1_, h2_]; omega⟩
    obtain ⟨m39, ym39, ⟨kmm39, fm_⟩, fy_, ⟨khm39, fh_⟩, fz_⟩ := x_markIntS g0 (by have h_ := HL0.out; have h2_ := HG0.out; omega) 101 (by skip; omega) (by have h0_ := HG0.out; have h1_ := HG1.out; have h2_ := HL0.out; have h3_ := HL1.out; omega)
    have FMm39 := Aside0.mk fm_
    have FYm39 := Aside0.mk fy_
    have FHm39 := Aside0.mk fh_
    have FZm39 := Aside0.mk fz_
    clear fm_ fy_ fh_ fz_
    obtain ⟨m41, ym41, ⟨kmm41, fm_⟩, fy_, ⟨khm41, fh_⟩, fz_⟩ := x_markIntS g1 (by have h_ := HL1.out; have h2_ := HG1.out; omega) m39 (by have h0_ := FZm39.out; omega) (by have h0_ := FZm39.out; have h1_ := HG0.out; have h2_ := HG1.out; have h3_ := HL0.out; have h4_ := HL1.out; omega)
    have FMm41 := Aside0.mk fm_
    have FYm41 := Aside0.mk fy_
    have FHm41 := Aside0.mk fh_
    have FZm41 := Aside0.mk fz_
    clear fm_ fy_ fh_ fz_
    have hp42 : decide (m41 < 0) = false := decide_eq_false (by have h0_ := FZm39.out; have h1_ := FZm41.out; omega)
    obtain ⟨m45, ym45, ⟨kmm45, fm_⟩, fy_, ⟨khm45, fh_⟩, fz_⟩ := x_markIntS r1 HLr1.out 101 (by have h0_ := FZm39.out; have h1_ := FZm41.out; omega) (by have h0_ := FZm39.out; have h1_ := FZm41.out; have h2_ := HG0.out; have h3_ := HG1.out; have h4_ := HL0.out; have h5_ := HL1.out; omega)
    have FMm45 := Aside0.mk fm_
    have FYm45 := Aside0.mk fy_
    have FHm45 := Aside0.mk fh_
    have FZm45 := Aside0.mk fz_
    clear fm_ fy_ fh_ fz_
    have hp47 : decide (m45 < 0) = false := decide_eq_false (by have h0_ := FZm39.out; have h1_ := FZm41.out; have h2_ := FZm45.out; omega)
    obtain ⟨f0t, ⟨kf0t, hf0t⟩, hn0t, hlt0t, hroom0t, hmx0t⟩ := x_fullIntS l0 HL0.out true
    rw [← HM0.out] at hlt0t
    have FT0t := Aside0.mk hf0t
    have NE0t := Aside0.mk (show f0t = [] → l0.length = 0 from fun h => by rw [hn0t h]; rfl)
    have LA0t := Aside0.mk hlt0t.1
    have LB0t := Aside0.mk hlt0t.2
    have RO0t := Aside0.mk hroom0t
    have MX0t := Aside0.mk hmx0t
    clear hf0t hn0t hlt0t hroom0t hmx0t
    obtain ⟨f1t, ⟨kf1t, hf1t⟩, hn1t, hlt1t, hroom1t, hmx1t⟩ := x_fullIntS l1 HL1.out true
    rw [← HM1.out] at hlt1t
    have FT1t := Aside0.mk hf1t
    have NE1t := Aside0.mk (show f1t = [] → l1.length = 0 from fun h => by rw [hn1t h]; rfl)
    have LA1t := Aside0.mk hlt1t.1
    have LB1t := Aside0.mk hlt1t.2
    have RO1t := Aside0.mk hroom1t
    have MX1t := Aside0.mk hmx1t
    clear hf1t hn1t hlt1t hroom1t hmx1t
    have hp62 : decide (m45 < 0) = false := decide_eq_false (by have h0_ := FZm39.out; have h1_ := FZm41.out; have h2_ := FZm45.out; omega)
    go_enter Try.func3, Try.ntmps3
    go_wp2_with (first | ((with_reducible refine gate_callee (f := 15) rfl ?_); refine goesL_ (some 28) rfl rfl Try.func15 (by kernel_rfl) rfl #[.slice A0 l0.length c0, .bool false] rfl (by (try simp only [List.map_toArray, List.map_cons, List.map_nil]); first | done | rfl) ?_; (with_reducible refine (laws_toIntS.calls kf0f A0 c0 l0 false f0f _ ?side1 ?side2 FT0f.out).mono ?_); (case side1 => exact (Kd.C_below HR0.out HB.out)); (case side2 => exact HC0.out); rintro e w3 ⟨v0_, v1_, rfl, hv_, ho_, hb_⟩; refine ⟨_, rfl, ?_⟩; obtain ⟨A5, c6, rfl, ho2_⟩ := x_to hv_ ho_ HG0.out NE0f.out; have nx_ := Aside0.mk (below_step HB.out hb_); clear HB; have HB := nx_; clear nx_; have HZw3 := Aside0.mk (Below.size hb_); have HO4 := Aside0.mk (x_iv ho2_); clear hb_ ho_ hv_ ho2_) | ((with_reducible refine gate_callee (f := 15) rfl ?_); refine goesL_ (some 30) rfl rfl Try.func15 (by kernel_rfl) rfl #[.slice A1 l1.length c1, .bool false] rfl (by (try simp only [List.map_toArray, List.map_cons, List.map_nil]); first | done | rfl) ?_; (with_reducible refine (laws_toIntS.calls kf1f A1 c1 l1 false f1f _ ?side1 ?side2 FT1f.out).mono ?_); (case side1 => exact (Kd.C_below HR1.out HB.out)); (case side2 => exact HC1.out); rintro e w7 ⟨v0_, v1_, rfl, hv_, ho_, hb_⟩; refine ⟨_, rfl, ?_⟩; obtain ⟨A9, c10, rfl, ho2_⟩ := x_to hv_ ho_ HG1.out NE1f.out; have nx_ := Aside0.mk (below_step HB.out hb_); clear HB; have HB := nx_; clear nx_; have HZw7 := Aside0.mk (Below.size hb_); have nx_ := Aside0.mk (Kd.R_below HO4.out hb_); clear HO4; have HO4 := nx_; clear nx_; have HO8 := Aside0.mk (x_iv ho2_); clear hb_ ho_ hv_ ho2_) | ((with_reducible refine gate_callee (f := 14) rfl ?_); refine goesL_ (some 33) rfl rfl Try.func14 (by kernel_rfl) rfl #[.slice A5 g0.length c6, .slice A9 g1.length c10, .int .i64 a2, .int .i64 a3] rfl (by (try simp only [List.map_toArray, List.map_cons, List.map_nil]); first | done | rfl) ?_; (with_reducible refine (spec_FamilyAt.calls ks A5 c6 g0 A9 c10 g1 a2 a3 r1 r2 _ ?side1 ?side2 ?side3 ?side4 FS.out).mono ?_); (case side1 => exact (x_rd HO4.out LA0f.out LB0f.out)); (case side2 => exact (x_rc HO4.out LA0f.out)); (case side3 => exact (x_rd HO8.out LA1f.out LB1f.out)); (case side4 => exact (x_rc HO8.out LA1f.out)); rintro e w11 ⟨v0_, rfl, ho0_, hb_⟩; refine ⟨_, rfl, ?_⟩; obtain ⟨A13, c14, rfl⟩ := Kd.R_slice ho0_; have nx_ := Aside0.mk (below_step HB.out hb_); clear HB; have HB := nx_; clear nx_; have HZw11 := Aside0.mk (Below.size hb_); have nx_ := Aside0.mk (Kd.R_below HO4.out hb_); clear HO4; have HO4 := nx_; clear nx_; have nx_ := Aside0.mk (Kd.R_below HO8.out hb_); clear HO8; have HO8 := nx_; clear nx_; have HO12 := Aside0.mk (x_iv ho0_); clear hb_ ho0_) | ((with_reducible refine gate_callee (f := 15) rfl ?_); refine goesL_ (some 37) rfl rfl Try.func15 (by kernel_rfl) rfl #[.slice A0 l0.length c0, .bool false] rfl (by (try simp only [List.map_toArray, List.map_cons, List.map_nil]); first | done | rfl) ?_; (with_reducible refine (laws_toIntS.calls kf0f A0 c0 l0 false f0f _ ?side1 ?side2 FT0f.out).mono ?_); (case side1 => exact (Kd.C_below HR0.out HB.out)); (case side2 => exact HC0.out); rintro e w15 ⟨v0_, v1_, rfl, hv_, ho_, hb_⟩; refine ⟨_, rfl, ?_⟩; obtain ⟨A17, c18, rfl, ho2_⟩ := x_to hv_ ho_ HG0.out NE0f.out; have nx_ := Aside0.mk (below_step HB.out hb_); clear HB; have HB := nx_; clear nx_; have HZw15 := Aside0.mk (Below.size hb_); have nx_ := Aside0.mk (Kd.R_below HO4.out hb_); clear HO4; have HO4 := nx_; clear nx_; have nx_ := Aside0.mk (Kd.R_below HO8.out hb_); clear HO8; have HO8 := nx_; clear nx_; have nx_ := Aside0.mk (Kd.R_below HO12.out hb_); clear HO12; have HO12 := nx_; clear nx_; have HO16 := Aside0.mk (x_iv ho2_); clear hb_ ho_ hv_ ho2_) | ((with_reducible refine gate_callee (f := 15) rfl ?_); refine goesL_ (some 39) rfl rfl Try.func15 (by kernel_rfl) rfl #[.slice A1 l1.length c1, .bool false] rfl (by (try simp only [List.map_toArray, List.map_cons, List.map_nil]); first | done | rfl) ?_; (with_reducible refine (laws_toIntS.calls kf1f A1 c1 l1 false f1f _ ?side1 ?side2 FT1f.out).mono ?_); (case side1 => exact (Kd.C_below HR1.out HB.out)); (case side2 => exact HC1.out); rintro e w19 ⟨v0_, v1_, rfl, hv_, ho_, hb_⟩; refine ⟨_, rfl, ?_⟩; obtain ⟨A21, c22, rfl, ho2_⟩ := x_to hv_ ho_ HG1.out NE1f.out; have nx_ := Aside0.mk (below_step HB.out hb_); clear HB; have HB := nx_; clear nx_; have HZw19 := Aside0.mk (Below.size hb_); have nx_ := Aside0.mk (Kd.R_below HO4.out hb_); clear HO4; have HO4 := nx_; clear nx_; have nx_ := Aside0.mk (Kd.R_below HO8.out hb_); clear HO8; have HO8 := nx_; clear nx_; have nx_ := Aside0.mk (Kd.R_below HO12.out hb_); clear HO12; have HO12 := nx_; clear nx_; have nx_ := Aside0.mk (Kd.R_below HO16.out hb_); clear HO16; have HO16 := nx_; clear nx_; have HO20 := Aside0.mk (x_iv ho2_); clear hb_ ho_ hv_ ho2_) | ((with_reducible refine gate_callee (f := 16) rfl ?_); refine goesL_ (some 45) rfl rfl Try.func16 (by kernel_rfl) rfl #[.slice A17 g0.length c18, .slice A21 g1.length c22, .int .i64 a2, .int .i64 a3] rfl (by (try simp only [List.map_toArray, List.map_cons, List.map_nil]); first | done | rfl) ?_; (with_reducible refine (impl_FamilyAt.calls ki A17 c18 g0 A21 c22 g1 a2 a3 r1 r2 _ ?side1 ?side2 ?side3 ?side4 FI.out).mono ?_); (case side1 => exact (x_rd HO16.out LA0f.out LB0f.out)); (case side2 => exact (x_rc HO16.out LA0f.out)); (case side3 => exact (x_rd HO20.out LA1f.out LB1f.out)); (case side4 => exact (x_rc HO20.out LA1f.out)); rintro e w23 ⟨v0_, rfl, ho0_, hb_⟩; refine ⟨_, rfl, ?_⟩; obtain ⟨A25, c26, rfl⟩ := Kd.R_slice ho0_; have nx_ := Aside0.mk (below_step HB.out hb_); clear HB; have HB := nx_; clear nx_; have HZw23 := Aside0.mk (Below.size hb_); have nx_ := Aside0.mk (Kd.R_below HO4.out hb_); clear HO4; have HO4 := nx_; clear nx_; have nx_ := Aside0.mk (Kd.R_below HO8.out hb_); clear HO8; have HO8 := nx_; clear nx_; have nx_ := Aside0.mk (Kd.R_below HO12.out hb_); clear HO12; have HO12 := nx_; clear nx_; have nx_ := Aside0.mk (Kd.R_below HO16.out hb_); clear HO16; have HO16 := nx_; clear nx_; have nx_ := Aside0.mk (Kd.R_below HO20.out hb_); clear HO20; have HO20 := nx_; clear nx_; have HO24 := Aside0.mk (x_iv ho0_); clear hb_ ho0_) | ((with_reducible refine gate_callee (f := 17) rfl ?_); refine goesL_ (some 50) rfl rfl Try.func17 (by kernel_rfl) rfl #[.slice A25 r1.length c26, .slice A13 r1.length c14] rfl (by (try simp only [List.map_toArray, List.map_cons, List.map_nil]); first | done | rfl) ?_; (with_reducible refine (laws_eqIntS.calls ker1 A25 c26 r1 A13 c14 r1 true _ ?side1 ?side2 ?side3 ?side4 FEr1.out).mono ?_); (case side1 => exact (Kd.R_reads' HO24.out).2.2); (case side2 => exact (Kd.R_reads' HO24.out).2.1); (case side3 => exact (Kd.R_reads' HO12.out).2.2); (case side4 => exact (Kd.R_reads' HO12.out).2.1); rintro e w27 ⟨rfl, hd_⟩; have hb_ := hd_.below; refine ⟨_, rfl, ?_⟩; have nx_ := Aside0.mk (below_step HB.out hb_); clear HB; have HB := nx_; clear nx_; have HZw27 := Aside0.mk (Below.size hb_); have nx_ := Aside0.mk (Kd.R_below HO4.out hb_); clear HO4; have HO4 := nx_; clear nx_; have nx_ := Aside0.mk (Kd.R_below HO8.out hb_); clear HO8; have HO8 := nx_; clear nx_; have nx_ := Aside0.mk (Kd.R_below HO12.out hb_); clear HO12; have HO12 := nx_; clear nx_; have nx_ := Aside0.mk (Kd.R_below HO16.out hb_); clear HO16; have HO16 := nx_; clear nx_; have nx_ := Aside0.mk (Kd.R_below HO20.out hb_); clear HO20; have HO20 := nx_; clear nx_; have nx_ := Aside0.mk (Kd.R_below HO24.out hb_); clear HO24; have HO24 := nx_; clear nx_; clear hb_ hd_) | ((with_reducible refine gate_callee (f := 15) rfl ?_); refine goesL_ (some 59) rfl rfl Try.func15 (by kernel_rfl) rfl #[.slice A0 l0.length c0, .bool false] rfl (by (try simp only [List.map_toArray, List.map_cons, List.map_nil]); first | done | rfl) ?_; (with_reducible refine (laws_toIntS.calls kf0f A0 c0 l0 false f0f _ ?side1 ?side2 FT0f.out).mono ?_); (case side1 => exact (Kd.C_below HR0.out HB.out)); (case side2 => exact HC0.out); rintro e w28 ⟨v0_, v1_, rfl, hv_, ho_, hb_⟩; refine ⟨_, rfl, ?_⟩; obtain ⟨A30, c31, rfl, ho2_⟩ := x_to hv_ ho_ HG0.out NE0f.out; have nx_ := Aside0.mk (below_step HB.out hb_); clear HB; have HB := nx_; clear nx_; have HZw28 := Aside0.mk (Below.size hb_); have nx_ := Aside0.mk (Kd.R_below HO4.out hb_); clear HO4; have HO4 := nx_; clear nx_; have nx_ := Aside0.mk (Kd.R_below HO8.out hb_); clear HO8; have HO8 := nx_; clear nx_; have nx_ := Aside0.mk (Kd.R_below HO12.out hb_); clear HO12; have HO12 := nx_; clear nx_; have nx_ := Aside0.mk (Kd.R_below HO16.out hb_); clear HO16; have HO16 := nx_; clear nx_; have nx_ := Aside0.mk (Kd.R_below HO20.out hb_); clear HO20; have HO20 := nx_; clear nx_; have nx_ := Aside0.mk (Kd.R_below HO24.out hb_); clear HO24; have HO24 := nx_; clear nx_; have HO29 := Aside0.mk (x_iv ho2_); clear hb_ ho_ hv_ ho2_) | ((with_reducible refine gate_callee (f := 18) rfl ?_); refine goesL_ (some 60) rfl rfl Try.func18 (by kernel_rfl) rfl #[.slice A17 g0.length c18, .slice A30 g0.length c31] rfl (by (try simp only [List.map_toArray, List.map_cons, List.map_nil]); first | done | rfl) ?_; (with_reducible refine (laws_intactIntS.calls g0.length A17 c18 A30 c31 f0f _ _ ?side1 ?side2 ?side3 ?side4 FR0.out FN0.out (by have h_ := MX0f.out; omega)).mono ?_); (case side1 => exact (Kd.R_reads' HO16.out).2.2); (case side2 => exact (Kd.R_reads' HO16.out).2.1); (case side3 => exact (Kd.R_reads' HO29.out).2.2); (case side4 => exact (Kd.R_reads' HO29.out).2.1); rintro e w32 ⟨rfl, hd_⟩; have hb_ := hd_; refine ⟨_, rfl, ?_⟩; have nx_ := Aside0.mk (below_step HB.out hb_); clear HB; have HB := nx_; clear nx_; have HZw32 := Aside0.mk (Below.size hb_); have nx_ := Aside0.mk (Kd.R_below HO4.out hb_); clear HO4; have HO4 := nx_; clear nx_; have nx_ := Aside0.mk (Kd.R_below HO8.out hb_); clear HO8; have HO8 := nx_; clear nx_; have nx_ := Aside0.mk (Kd.R_below HO12.out hb_); clear HO12; have HO12 := nx_; clear nx_; have nx_ := Aside0.mk (Kd.R_below HO16.out hb_); clear HO16; have HO16 := nx_; clear nx_; have nx_ := Aside0.mk (Kd.R_below HO20.out hb_); clear HO20; have HO20 := nx_; clear nx_; have nx_ := Aside0.mk (Kd.R_below HO24.out hb_); clear HO24; have HO24 := nx_; clear nx_; have nx_ := Aside0.mk (Kd.R_below HO29.out hb_); clear HO29; have HO29 := nx_; clear nx_; clear hb_ hd_) | ((with_reducible refine gate_callee (f := 15) rfl ?_); refine goesL_ (some 64) rfl rfl Try.func15 (by kernel_rfl) rfl #[.slice A1 l1.length c1, .bool false] rfl (by (try simp only [List.map_toArray, List.map_cons, List.map_nil]); first | done | rfl) ?_; (with_reducible refine (laws_toIntS.calls kf1f A1 c1 l1 false f1f _ ?side1 ?side2 FT1f.out).mono ?_); (case side1 => exact (Kd.C_below HR1.out HB.out)); (case side2 => exact HC1.out); rintro e w33 ⟨v0_, v1_, rfl, hv_, ho_, hb_⟩; refine ⟨_, rfl, ?_⟩; obtain ⟨A35, c36, rfl, ho2_⟩ := x_to hv_ ho_ HG1.out NE1f.out; have nx_ := Aside0.mk (below_step HB.out hb_); clear HB; have HB := nx_; clear nx_; have HZw33 := Aside0.mk (Below.size hb_); have nx_ := Aside0.mk (Kd.R_below HO4.out hb_); clear HO4; have HO4 := nx_; clear nx_; have nx_ := Aside0.mk (Kd.R_below HO8.out hb_); clear HO8; have HO8 := nx_; clear nx_; have nx_ := Aside0.mk (Kd.R_below HO12.out hb_); clear HO12; have HO12 := nx_; clear nx_; have nx_ := Aside0.mk (Kd.R_below HO16.out hb_); clear HO16; have HO16 := nx_; clear nx_; have nx_ := Aside0.mk (Kd.R_below HO20.out hb_); clear HO20; have HO20 := nx_; clear nx_; have nx_ := Aside0.mk (Kd.R_below HO24.out hb_); clear HO24; have HO24 := nx_; clear nx_; have nx_ := Aside0.mk (Kd.R_below HO29.out hb_); clear HO29; have HO29 := nx_; clear nx_; have HO34 := Aside0.mk (x_iv ho2_); clear hb_ ho_ hv_ ho2_) | ((with_reducible refine gate_callee (f := 18) rfl ?_); refine goesL_ (some 65) rfl rfl Try.func18 (by kernel_rfl) rfl #[.slice A21 g1.length c22, .slice A35 g1.length c36] rfl (by (try simp only [List.map_toArray, List.map_cons, List.map_nil]); first | done | rfl) ?_; (with_reducible refine (laws_intactIntS.calls g1.length A21 c22 A35 c36 f1f _ _ ?side1 ?side2 ?side3 ?side4 FR1.out FN1.out (by have h_ := MX1f.out; omega)).mono ?_); (case side1 => exact (Kd.R_reads' HO20.out).2.2); (case side2 => exact (Kd.R_reads' HO20.out).2.1); (case side3 => exact (Kd.R_reads' HO34.out).2.2); (case side4 => exact (Kd.R_reads' HO34.out).2.1); rintro e w37 ⟨rfl, hd_⟩; have hb_ := hd_; refine ⟨_, rfl, ?_⟩; have nx_ := Aside0.mk (below_step HB.out hb_); clear HB; have HB := nx_; clear nx_; have HZw37 := Aside0.mk (Below.size hb_); have nx_ := Aside0.mk (Kd.R_below HO4.out hb_); clear HO4; have HO4 := nx_; clear nx_; have nx_ := Aside0.mk (Kd.R_below HO8.out hb_); clear HO8; have HO8 := nx_; clear nx_; have nx_ := Aside0.mk (Kd.R_below HO12.out hb_); clear HO12; have HO12 := nx_; clear nx_; have nx_ := Aside0.mk (Kd.R_below HO16.out hb_); clear HO16; have HO16 := nx_; clear nx_; have nx_ := Aside0.mk (Kd.R_below HO20.out hb_); clear HO20; have HO20 := nx_; clear nx_; have nx_ := Aside0.mk (Kd.R_below HO24.out hb_); clear HO24; have HO24 := nx_; clear nx_; have nx_ := Aside0.mk (Kd.R_below HO29.out hb_); clear HO29; have HO29 := nx_; clear nx_; have nx_ := Aside0.mk (Kd.R_below HO34.out hb_); clear HO34; have HO34 := nx_; clear nx_; clear hb_ hd_) | ((with_reducible refine gate_callee (f := 19) rfl ?_); refine goesL_ (some 69) rfl rfl Try.func19 (by kernel_rfl) rfl #[.slice A17 g0.length c18, .int .i64 101] rfl (by (try simp only [List.map_toArray, List.map_cons, List.map_nil]); first | done | rfl) ?_; (with_reducible refine (laws_markIntS.calls kmm39 (fun k_ => w11.heap.size ≤ k_ ∧ k_ < w15.heap.size) (.slice A17 g0.length c18) g0 101 m39 ym39 w _ ?side1 ?side2 FMm39.out).mono ?_); (case side1 => exact HB.out); (case side2 => exact Kd.R_lower (x_rt HO16.out LA0f.out LB0f.out) (by have hw3_ := HZw3.out; have hw7_ := HZw7.out; have hw11_ := HZw11.out; omega)); rintro e w38 ⟨rfl, ho_, hb_, hk_⟩; refine ⟨_, rfl, ?_⟩; have nx_ := Aside0.mk (x_off HO4.out hk_ (.inl (by have hw7_ := HZw7.out; have hw11_ := HZw11.out; omega))); clear HO4; have HO4 := nx_; clear nx_; have nx_ := Aside0.mk (x_off HO8.out hk_ (.inl (by have hw11_ := HZw11.out; omega))); clear HO8; have HO8 := nx_; clear nx_; have nx_ := Aside0.mk (x_off HO12.out hk_ (.inl (by omega))); clear HO12; have HO12 := nx_; clear nx_; have nx_ := Aside0.mk (x_off HO20.out hk_ (.inr (by omega))); clear HO20; have HO20 := nx_; clear nx_; have nx_ := Aside0.mk (x_off HO24.out hk_ (.inr (by have hw19_ := HZw19.out; omega))); clear HO24; have HO24 := nx_; clear nx_; have nx_ := Aside0.mk (x_off HO29.out hk_ (.inr (by have hw19_ := HZw19.out; have hw23_ := HZw23.out; have hw27_ := HZw27.out; omega))); clear HO29; have HO29 := nx_; clear nx_; have nx_ := Aside0.mk (x_off HO34.out hk_ (.inr (by have hw19_ := HZw19.out; have hw23_ := HZw23.out; have hw27_ := HZw27.out; have hw28_ := HZw28.out; have hw32_ := HZw32.out; omega))); clear HO34; have HO34 := nx_; clear nx_; have nx_ := Aside0.mk (x_own rfl (x_rt HO16.out LA0f.out LB0f.out) ho_); clear HO16; have HO16 := nx_; clear nx_; clear HB; have HB := Aside0.mk hb_; have HZw38 := Aside0.mk hk_.1; clear hb_ ho_ hk_) | ((with_reducible refine gate_callee (f := 19) rfl ?_); refine goesL_ (some 72) rfl rfl Try.func19 (by kernel_rfl) rfl #[.slice A21 g1.length c22, .int .i64 m39] rfl (by (try simp only [List.map_toArray, List.map_cons, List.map_nil]); first | done | rfl) ?_; (with_reducible refine (laws_markIntS.calls kmm41 (fun k_ => w15.heap.size ≤ k_ ∧ k_ < w19.heap.size) (.slice A21 g1.length c22) g1 m39 m41 ym41 w _ ?side1 ?side2 FMm41.out).mono ?_); (case side1 => exact HB.out); (case side2 => exact Kd.R_lower (x_rt HO20.out LA1f.out LB1f.out) (by have hw3_ := HZw3.out; have hw7_ := HZw7.out; have hw11_ := HZw11.out; have hw15_ := HZw15.out; omega)); rintro e w40 ⟨rfl, ho_, hb_, hk_⟩; refine ⟨_, rfl, ?_⟩; have nx_ := Aside0.mk (x_off HO4.out hk_ (.inl (by have hw7_ := HZw7.out; have hw11_ := HZw11.out; have hw15_ := HZw15.out; omega))); clear HO4; have HO4 := nx_; clear nx_; have nx_ := Aside0.mk (x_off HO8.out hk_ (.inl (by have hw11_ := HZw11.out; have hw15_ := HZw15.out; omega))); clear HO8; have HO8 := nx_; clear nx_; have nx_ := Aside0.mk (x_off HO12.out hk_ (.inl (by have hw15_ := HZw15.out; omega))); clear HO12; have HO12 := nx_; clear nx_; have nx_ := Aside0.mk (x_off HO16.out hk_ (.inl (by omega))); clear HO16; have HO16 := nx_; clear nx_; have nx_ := Aside0.mk (x_off HO24.out hk_ (.inr (by omega))); clear HO24; have HO24 := nx_; clear nx_; have nx_ := Aside0.mk (x_off HO29.out hk_ (.inr (by have hw23_ := HZw23.out; have hw27_ := HZw27.out; omega))); clear HO29; have HO29 := nx_; clear nx_; have nx_ := Aside0.mk (x_off HO34.out hk_ (.inr (by have hw23_ := HZw23.out; have hw27_ := HZw27.out; have hw28_ := HZw28.out; have hw32_ := HZw32.out; omega))); clear HO34; have HO34 := nx_; clear nx_; have nx_ := Aside0.mk (x_own rfl (x_rt HO20.out LA1f.out LB1f.out) ho_); clear HO20; have HO20 := nx_; clear nx_; clear HB; have HB := Aside0.mk hb_; have HZw40 := Aside0.mk hk_.1; clear hb_ ho_ hk_) | (go_at_call 17; (with_reducible refine (laws_eqIntS.calls ker1 A25 c26 r1 A13 c14 r1 true _ ?side1 ?side2 ?side3 ?side4 FEr1.out).mono ?_); (case side1 => exact (Kd.R_reads' HO24.out).2.2); (case side2 => exact (Kd.R_reads' HO24.out).2.1); (case side3 => exact (Kd.R_reads' HO12.out).2.2); (case side4 => exact (Kd.R_reads' HO12.out).2.1); rintro e w43 ⟨rfl, hd_⟩; have hb_ := hd_.below; have nx_ := Aside0.mk (below_step HB.out hb_); clear HB; have HB := nx_; clear nx_; have HZw43 := Aside0.mk (Below.size hb_); have nx_ := Aside0.mk (Kd.R_below HO4.out hb_); clear HO4; have HO4 := nx_; clear nx_; have nx_ := Aside0.mk (Kd.R_below HO8.out hb_); clear HO8; have HO8 := nx_; clear nx_; have nx_ := Aside0.mk (Kd.R_below HO12.out hb_); clear HO12; have HO12 := nx_; clear nx_; have nx_ := Aside0.mk (Kd.R_below HO16.out hb_); clear HO16; have HO16 := nx_; clear nx_; have nx_ := Aside0.mk (Kd.R_below HO20.out hb_); clear HO20; have HO20 := nx_; clear nx_; have nx_ := Aside0.mk (Kd.R_below HO24.out hb_); clear HO24; have HO24 := nx_; clear nx_; have nx_ := Aside0.mk (Kd.R_below HO29.out hb_); clear HO29; have HO29 := nx_; clear nx_; have nx_ := Aside0.mk (Kd.R_below HO34.out hb_); clear HO34; have HO34 := nx_; clear nx_; clear hb_ hd_) | ((with_reducible refine gate_callee (f := 19) rfl ?_); refine goesL_ (some 88) rfl rfl Try.func19 (by kernel_rfl) rfl #[.slice A25 r1.length c26, .int .i64 101] rfl (by (try simp only [List.map_toArray, List.map_cons, List.map_nil]); first | done | rfl) ?_; (with_reducible refine (laws_markIntS.calls kmm45 (fun k_ => w19.heap.size ≤ k_ ∧ k_ < w23.heap.size) (.slice A25 r1.length c26) r1 101 m45 ym45 w _ ?side1 ?side2 FMm45.out).mono ?_); (case side1 => exact HB.out); (case side2 => exact Kd.R_lower HO24.out (by have hw3_ := HZw3.out; have hw7_ := HZw7.out; have hw11_ := HZw11.out; have hw15_ := HZw15.out; have hw19_ := HZw19.out; omega)); rintro e w44 ⟨rfl, ho_, hb_, hk_⟩; refine ⟨_, rfl, ?_⟩; have nx_ := Aside0.mk (x_off HO4.out hk_ (.inl (by have hw7_ := HZw7.out; have hw11_ := HZw11.out; have hw15_ := HZw15.out; have hw19_ := HZw19.out; omega))); clear HO4; have HO4 := nx_; clear nx_; have nx_ := Aside0.mk (x_off HO8.out hk_ (.inl (by have hw11_ := HZw11.out; have hw15_ := HZw15.out; have hw19_ := HZw19.out; omega))); clear HO8; have HO8 := nx_; clear nx_; have nx_ := Aside0.mk (x_off HO12.out hk_ (.inl (by have hw15_ := HZw15.out; have hw19_ := HZw19.out; omega))); clear HO12; have HO12 := nx_; clear nx_; have nx_ := Aside0.mk (x_off HO16.out hk_ (.inl (by have hw19_ := HZw19.out; omega))); clear HO16; have HO16 := nx_; clear nx_; have nx_ := Aside0.mk (x_off HO20.out hk_ (.inl (by omega))); clear HO20; have HO20 := nx_; clear nx_; have nx_ := Aside0.mk (x_off HO29.out hk_ (.inr (by have hw27_ := HZw27.out; omega))); clear HO29; have HO29 := nx_; clear nx_; have nx_ := Aside0.mk (x_off HO34.out hk_ (.inr (by have hw27_ := HZw27.out; have hw28_ := HZw28.out; have hw32_ := HZw32.out; omega))); clear HO34; have HO34 := nx_; clear nx_; have nx_ := Aside0.mk (x_own rfl HO24.out ho_); clear HO24; have HO24 := nx_; clear nx_; clear HB; have HB := Aside0.mk hb_; have HZw44 := Aside0.mk hk_.1; clear hb_ ho_ hk_) | ((with_reducible refine gate_callee (f := 20) rfl ?_); refine goesL_ (some 91) rfl rfl Try.func20 (by kernel_rfl) rfl #[.slice A25 ym45.length c26, .int .i64 101] rfl (by (try simp only [List.map_toArray, List.map_cons, List.map_nil]); first | done | (rw [FYm45.out] <;> rfl) | rfl) ?_; (with_reducible refine (laws_heldIntS.calls khm45 A25 c26 ym45 101 m45 _ ?side1 ?side2 FHm45.out).mono ?_); (case side1 => exact (x_rdw HO24.out)); (case side2 => exact (x_rcw HO24.out FYm45.out)); rintro e w46 ⟨rfl, hd_⟩; have hb_ := hd_.below; refine ⟨_, rfl, ?_⟩; have nx_ := Aside0.mk (below_step HB.out hb_); clear HB; have HB := nx_; clear nx_; have HZw46 := Aside0.mk (Below.size hb_); have nx_ := Aside0.mk (Kd.R_below HO4.out hb_); clear HO4; have HO4 := nx_; clear nx_; have nx_ := Aside0.mk (Kd.R_below HO8.out hb_); clear HO8; have HO8 := nx_; clear nx_; have nx_ := Aside0.mk (Kd.R_below HO12.out hb_); clear HO12; have HO12 := nx_; clear nx_; have nx_ := Aside0.mk (Kd.R_below HO16.out hb_); clear HO16; have HO16 := nx_; clear nx_; have nx_ := Aside0.mk (Kd.R_below HO20.out hb_); clear HO20; have HO20 := nx_; clear nx_; have nx_ := Aside0.mk (Kd.R_below HO24.out hb_); clear HO24; have HO24 := nx_; clear nx_; have nx_ := Aside0.mk (Kd.R_below HO29.out hb_); clear HO29; have HO29 := nx_; clear nx_; have nx_ := Aside0.mk (Kd.R_below HO34.out hb_); clear HO34; have HO34 := nx_; clear nx_; clear hb_ hd_) | ((with_reducible refine gate_callee (f := 15) rfl ?_); refine goesL_ (some 99) rfl rfl Try.func15 (by kernel_rfl) rfl #[.slice A0 l0.length c0, .bool true] rfl (by (try simp only [List.map_toArray, List.map_cons, List.map_nil]); first | done | rfl) ?_; (with_reducible refine (laws_toIntS.calls kf0t A0 c0 l0 true f0t _ ?side1 ?side2 FT0t.out).mono ?_); (case side1 => exact (Kd.C_below HR0.out HB.out)); (case side2 => exact HC0.out); rintro e w48 ⟨v0_, v1_, rfl, hv_, ho_, hb_⟩; refine ⟨_, rfl, ?_⟩; obtain ⟨A50, c51, rfl, ho2_⟩ := x_to hv_ ho_ HG0.out NE0t.out; have nx_ := Aside0.mk (below_step HB.out hb_); clear HB; have HB := nx_; clear nx_; have HZw48 := Aside0.mk (Below.size hb_); have nx_ := Aside0.mk (Kd.R_below HO4.out hb_); clear HO4; have HO4 := nx_; clear nx_; have nx_ := Aside0.mk (Kd.R_below HO8.out hb_); clear HO8; have HO8 := nx_; clear nx_; have nx_ := Aside0.mk (Kd.R_below HO12.out hb_); clear HO12; have HO12 := nx_; clear nx_; have nx_ := Aside0.mk (Kd.R_below HO16.out hb_); clear HO16; have HO16 := nx_; clear nx_; have nx_ := Aside0.mk (Kd.R_below HO20.out hb_); clear HO20; have HO20 := nx_; clear nx_; have nx_ := Aside0.mk (Kd.R_below HO24.out hb_); clear HO24; have HO24 := nx_; clear nx_; have nx_ := Aside0.mk (Kd.R_below HO29.out hb_); clear HO29; have HO29 := nx_; clear nx_; have nx_ := Aside0.mk (Kd.R_below HO34.out hb_); clear HO34; have HO34 := nx_; clear nx_; have HO49 := Aside0.mk (x_iv ho2_); clear hb_ ho_ hv_ ho2_) | ((with_reducible refine gate_callee (f := 15) rfl ?_); refine goesL_ (some 101) rfl rfl Try.func15 (by kernel_rfl) rfl #[.slice A1 l1.length c1, .bool true] rfl (by (try simp only [List.map_toArray, List.map_cons, List.map_nil]); first | done | rfl) ?_; (with_reducible refine (laws_toIntS.calls kf1t A1 c1 l1 true f1t _ ?side1 ?side2 FT1t.out).mono ?_); (case side1 => exact (Kd.C_below HR1.out HB.out)); (case side2 => exact HC1.out); rintro e w52 ⟨v0_, v1_, rfl, hv_, ho_, hb_⟩; refine ⟨_, rfl, ?_⟩; obtain ⟨A54, c55, rfl, ho2_⟩ := x_to hv_ ho_ HG1.out NE1t.out; have nx_ := Aside0.mk (below_step HB.out hb_); clear HB; have HB := nx_; clear nx_; have HZw52 := Aside0.mk (Below.size hb_); have nx_ := Aside0.mk (Kd.R_below HO4.out hb_); clear HO4; have HO4 := nx_; clear nx_; have nx_ := Aside0.mk (Kd.R_below HO8.out hb_); clear HO8; have HO8 := nx_; clear nx_; have nx_ := Aside0.mk (Kd.R_below HO12.out hb_); clear HO12; have HO12 := nx_; clear nx_; have nx_ := Aside0.mk (Kd.R_below HO16.out hb_); clear HO16; have HO16 := nx_; clear nx_; have nx_ := Aside0.mk (Kd.R_below HO20.out hb_); clear HO20; have HO20 := nx_; clear nx_; have nx_ := Aside0.mk (Kd.R_below HO24.out hb_); clear HO24; have HO24 := nx_; clear nx_; have nx_ := Aside0.mk (Kd.R_below HO29.out hb_); clear HO29; have HO29 := nx_; clear nx_; have nx_ := Aside0.mk (Kd.R_below HO34.out hb_); clear HO34; have HO34 := nx_; clear nx_; have nx_ := Aside0.mk (Kd.R_below HO49.out hb_); clear HO49; have HO49 := nx_; clear nx_; have HO53 := Aside0.mk (x_iv ho2_); clear hb_ ho_ hv_ ho2_) | ((with_reducible refine gate_callee (f := 16) rfl ?_); refine goesL_ (some 104) rfl rfl Try.func16 (by kernel_rfl) rfl #[.slice A50 g0.length c51, .slice A54 g1.length c55, .int .i64 a2, .int .i64 a3] rfl (by (try simp only [List.map_toArray, List.map_cons, List.map_nil]); first | done | rfl) ?_; (with_reducible refine (impl_FamilyAt.calls ki A50 c51 g0 A54 c55 g1 a2 a3 r1 r2 _ ?side1 ?side2 ?side3 ?side4 FI.out).mono ?_); (case side1 => exact (x_rd HO49.out LA0t.out LB0t.out)); (case side2 => exact (x_rc HO49.out LA0t.out)); (case side3 => exact (x_rd HO53.out LA1t.out LB1t.out)); (case side4 => exact (x_rc HO53.out LA1t.out)); rintro e w56 ⟨v0_, rfl, ho0_, hb_⟩; refine ⟨_, rfl, ?_⟩; obtain ⟨A58, c59, rfl⟩ := Kd.R_slice ho0_; have nx_ := Aside0.mk (below_step HB.out hb_); clear HB; have HB := nx_; clear nx_; have HZw56 := Aside0.mk (Below.size hb_); have nx_ := Aside0.mk (Kd.R_below HO4.out hb_); clear HO4; have HO4 := nx_; clear nx_; have nx_ := Aside0.mk (Kd.R_below HO8.out hb_); clear HO8; have HO8 := nx_; clear nx_; have nx_ := Aside0.mk (Kd.R_below HO12.out hb_); clear HO12; have HO12 := nx_; clear nx_; have nx_ := Aside0.mk (Kd.R_below HO16.out hb_); clear HO16; have HO16 := nx_; clear nx_; have nx_ := Aside0.mk (Kd.R_below HO20.out hb_); clear HO20; have HO20 := nx_; clear nx_; have nx_ := Aside0.mk (Kd.R_below HO24.out hb_); clear HO24; have HO24 := nx_; clear nx_; have nx_ := Aside0.mk (Kd.R_below HO29.out hb_); clear HO29; have HO29 := nx_; clear nx_; have nx_ := Aside0.mk (Kd.R_below HO34.out hb_); clear HO34; have HO34 := nx_; clear nx_; have nx_ := Aside0.mk (Kd.R_below HO49.out hb_); clear HO49; have HO49 := nx_; clear nx_; have nx_ := Aside0.mk (Kd.R_below HO53.out hb_); clear HO53; have HO53 := nx_; clear nx_; have HO57 := Aside0.mk (x_iv ho0_); clear hb_ ho0_) | ((with_reducible refine gate_callee (f := 17) rfl ?_); refine goesL_ (some 109) rfl rfl Try.func17 (by kernel_rfl) rfl #[.slice A58 r1.length c59, .slice A13 r1.length c14] rfl (by (try simp only [List.map_toArray, List.map_cons, List.map_nil]); first | done | rfl) ?_; (with_reducible refine (laws_eqIntS.calls ker1 A58 c59 r1 A13 c14 r1 true _ ?side1 ?side2 ?side3 ?side4 FEr1.out).mono ?_); (case side1 => exact (Kd.R_reads' HO57.out).2.2); (case side2 => exact (Kd.R_reads' HO57.out).2.1); (case side3 => exact (Kd.R_reads' HO12.out).2.2); (case side4 => exact (Kd.R_reads' HO12.out).2.1); rintro e w60 ⟨rfl, hd_⟩; have hb_ := hd_.below; refine ⟨_, rfl, ?_⟩; have nx_ := Aside0.mk (below_step HB.out hb_); clear HB; have HB := nx_; clear nx_; have HZw60 := Aside0.mk (Below.size hb_); have nx_ := Aside0.mk (Kd.R_below HO4.out hb_); clear HO4; have HO4 := nx_; clear nx_; have nx_ := Aside0.mk (Kd.R_below HO8.out hb_); clear HO8; have HO8 := nx_; clear nx_; have nx_ := Aside0.mk (Kd.R_below HO12.out hb_); clear HO12; have HO12 := nx_; clear nx_; have nx_ := Aside0.mk (Kd.R_below HO16.out hb_); clear HO16; have HO16 := nx_; clear nx_; have nx_ := Aside0.mk (Kd.R_below HO20.out hb_); clear HO20; have HO20 := nx_; clear nx_; have nx_ := Aside0.mk (Kd.R_below HO24.out hb_); clear HO24; have HO24 := nx_; clear nx_; have nx_ := Aside0.mk (Kd.R_below HO29.out hb_); clear HO29; have HO29 := nx_; clear nx_; have nx_ := Aside0.mk (Kd.R_below HO34.out hb_); clear HO34; have HO34 := nx_; clear nx_; have nx_ := Aside0.mk (Kd.R_below HO49.out hb_); clear HO49; have HO49 := nx_; clear nx_; have nx_ := Aside0.mk (Kd.R_below HO53.out hb_); clear HO53; have HO53 := nx_; clear nx_; have nx_ := Aside0.mk (Kd.R_below HO57.out hb_); clear HO57; have HO57 := nx_; clear nx_; clear hb_ hd_) | ((with_reducible refine gate_callee (f := 20) rfl ?_); refine goesL_ (some 118) rfl rfl Try.func20 (by kernel_rfl) rfl #[.slice A25 ym45.length c26, .int .i64 101] rfl (by (try simp only [List.map_toArray, List.map_cons, List.map_nil]); first | done | (rw [FYm45.out] <;> rfl) | rfl) ?_; (with_reducible refine (laws_heldIntS.calls khm45 A25 c26 ym45 101 m45 _ ?side1 ?side2 FHm45.out).mono ?_); (case side1 => exact (x_rdw HO24.out)); (case side2 => exact (x_rcw HO24.out FYm45.out)); rintro e w61 ⟨rfl, hd_⟩; have hb_ := hd_.below; refine ⟨_, rfl, ?_⟩; have nx_ := Aside0.mk (below_step HB.out hb_); clear HB; have HB := nx_; clear nx_; have HZw61 := Aside0.mk (Below.size hb_); have nx_ := Aside0.mk (Kd.R_below HO4.out hb_); clear HO4; have HO4 := nx_; clear nx_; have nx_ := Aside0.mk (Kd.R_below HO8.out hb_); clear HO8; have HO8 := nx_; clear nx_; have nx_ := Aside0.mk (Kd.R_below HO12.out hb_); clear HO12; have HO12 := nx_; clear nx_; have nx_ := Aside0.mk (Kd.R_below HO16.out hb_); clear HO16; have HO16 := nx_; clear nx_; have nx_ := Aside0.mk (Kd.R_below HO20.out hb_); clear HO20; have HO20 := nx_; clear nx_; have nx_ := Aside0.mk (Kd.R_below HO24.out hb_); clear HO24; have HO24 := nx_; clear nx_; have nx_ := Aside0.mk (Kd.R_below HO29.out hb_); clear HO29; have HO29 := nx_; clear nx_; have nx_ := Aside0.mk (Kd.R_below HO34.out hb_); clear HO34; have HO34 := nx_; clear nx_; have nx_ := Aside0.mk (Kd.R_below HO49.out hb_); clear HO49; have HO49 := nx_; clear nx_; have nx_ := Aside0.mk (Kd.R_below HO53.out hb_); clear HO53; have HO53 := nx_; clear nx_; have nx_ := Aside0.mk (Kd.R_below HO57.out hb_); clear HO57; have HO57 := nx_; clear nx_; clear hb_ hd_))
    go_ret
    exact ⟨rfl, HB.out⟩

end Go.Proofs.Ytnndolcjljhhcaa.PFnExactFamilyAt
