-- Written by a program of the session (wip/xprint) for this claim.
import Derived.Test.YtnndolcjljhhcaaPFnExactReasonCountsx0
import Derived.Test.YtnndolcjljhhcaaPFnExactReasonCountsx2
import Derived.Test.YtnndolcjljhhcaaPFnExactReasonCountsx3
import Derived.Test.YtnndolcjljhhcaaPFnExactReasonCountsx4
import Derived.Test.YtnndolcjljhhcaaPFnExactReasonCountsx6
namespace Go.Proofs.Ytnndolcjljhhcaa.PFnExactReasonCounts
open Go.RowKit Go.Proofs.YtnndolcjljhhcaaW.PrintWords Go.Proofs.YtnndolcjljhhcaaW.PrintLast Go.Proofs.YtnndolcjljhhcaaW.PrintMore Go.Proofs.YtnndolcjljhhcaaX
attribute [local go_sem] max2_int min2_int max_two min_two max_three min_three max_four min_four   -- for this text's walks alone
set_option linter.unusedVariables false
set_option linter.unusedSimpArgs false

/-! ### laws_heldIntS: function 20 -/
def laws_heldIntS.l0 : Nat → List Int → Int → Int → Option (Int)
  | 0, _, _, _ => none
  | k + 1, x0, x1, x5 => if x5 < (x0.length : Int) then (if 0 ≤ x5 then (if (rd x0 x5) = x1 then (laws_heldIntS.l0 k x0 (wrap64 (x1 + 1)) (wrap64 (x5 + 1))) else (some (-1))) else (none)) else (some x1)
def laws_heldIntS.f (k : Nat) (l0 : List Int) (a1 : Int) : Option (Int) := laws_heldIntS.l0 k l0 a1 0
theorem laws_heldIntS.mono_l : ∀ k, (∀ y0 y1 y2, LeO (laws_heldIntS.l0 k y0 y1 y2) (laws_heldIntS.l0 (k + 1) y0 y1 y2))
  | 0 => fun _ _ _ r h => by simp [laws_heldIntS.l0] at h
  | k + 1 => by
    have ih0 := laws_heldIntS.mono_l k
    · intro y0 y1 y2
      unfold laws_heldIntS.l0
      repeat' first
      | (with_reducible exact ih0 _ _ _)
      | (with_reducible exact LeO.refl _)
      | (with_reducible exact LeO.none _)
      | (with_reducible refine LeO.ite ?_ ?_)
      | (with_reducible refine LeO.bind ?_ (fun _ => ?_))
      | exact ih0 _ _ _
      | exact LeO.none _
      | refine LeO.ite ?_ ?_
      | refine LeO.bind ?_ (fun _ => ?_)
theorem laws_heldIntS.mono : ∀ a0 a1 k, LeO (laws_heldIntS.f k a0 a1) (laws_heldIntS.f (k + 1) a0 a1) := by
  intro a0 a1 k
  have ih0 := laws_heldIntS.mono_l k
  unfold laws_heldIntS.f
  repeat' first
      | (with_reducible exact ih0 _ _ _)
      | (with_reducible exact LeO.refl _)
      | (with_reducible exact LeO.none _)
      | (with_reducible refine LeO.ite ?_ ?_)
      | (with_reducible refine LeO.bind ?_ (fun _ => ?_))
      | exact ih0 _ _ _
      | exact LeO.none _
      | refine LeO.ite ?_ ?_
      | refine LeO.bind ?_ (fun _ => ?_)
set_option maxHeartbeats 8000000 in
set_option maxRecDepth 100000 in
theorem laws_heldIntS.calls (k : Nat) (A0 : Option Addr) (c0 : Nat) (l0 : List Int) (a1 : Int) (r : Int) (w : World) (hr0 : Kd.C (Kd.int .i64) w A0 l0.length l0) (hc0 : l0.length ≤ c0) (h : laws_heldIntS.f k l0 a1 = some r) :
    Calls Try.prog 20 #[.slice A0 l0.length c0, .int .i64 a1] w fun e w' => e = .returned (.int .i64 r) ∧ Drawn0 w w' := by
  have HR0 := Aside0.mk hr0
  have HC0 := Aside0.mk hc0
  clear hr0 hc0
  have H : (laws_heldIntS.l0 k l0 a1 0) = some r := h
  clear h
  have H' := Aside0.mk H
  clear H
  go_enter Try.func20, Try.ntmps20
  go_wp2
  go_loopg [1, 5] k (fun kq v1 v5 w' => ∃ (x1_1 : Int) (x5_1 : Int), v1 = .int .i64 x1_1 ∧ v5 = .int .i64 x5_1 ∧ Aside0 (laws_heldIntS.l0 kq l0 x1_1 x5_1 = some r) ∧ Aside0 (kq ≤ k) ∧ Drawn0 w w')
  case atStart => exact ⟨(a1), (0), (by first | rfl | (simp; done) | (simp [*]; done)), (by first | rfl | (simp; done) | (simp [*]; done)), H', ⟨Nat.le_refl _⟩, by repeat (first | exact Drawn0.refl _ | apply Drawn0.step)⟩
  case round =>
    clear H'
    try clear c2
    try clear p2
    obtain ⟨x1_1, x5_1, rfl, rfl, HA, HK1, ⟨m1, rfl⟩⟩ := hrel
    cases gk with
    | zero => exact absurd HA.out (by simp [laws_heldIntS.l0])
    | succ k1 =>
      have H := HA.out
      clear HA
      simp only [laws_heldIntS.l0] at H
      by_cases c3 : x5_1 < (l0.length : Int)
      · rw [if_pos c3] at H
        have c3b0 : decide (x5_1 < (l0.length : Int)) = true := decide_eq_true c3
        clear c3
        by_cases c4 : 0 ≤ x5_1
        · rw [if_pos c4] at H
          have c4b0 : decide (0 ≤ x5_1) = true := decide_eq_true c4
          clear c4
          by_cases c5 : (rd l0 x5_1) = x1_1
          · rw [if_pos c5] at H
            have c5b0 : ((rd l0 x5_1) == x1_1) = true := beq_iff_eq.mpr c5
            have c5b1 : ((rd l0 x5_1) != x1_1) = false := bne_eq_false_iff_eq.mpr c5
            clear c5
            have H' := Aside0.mk H
            clear H
            have p193 : 0 ≤ (x5_1 : Int) := of_decide_eq_true (by first | (with_reducible assumption) | assumption)
            have q193 : x5_1 < (l0.length : Int) := of_decide_eq_true (by first | (with_reducible assumption) | assumption)
            obtain ⟨ad193, e193, hx193_0⟩ := Kd.at_int HR0.out x5_1 p193 q193
            cases e193
            replace p193 := eq_true p193
            replace q193 := eq_true q193
            go_wp2
            go_roundg k1
            case measure => have := HK1.out; omega
            case rel => exact ⟨(wrap64 (x1_1 + 1)), (wrap64 (x5_1 + 1)), (by first | rfl | (simp; done) | (simp [*]; done)), (by first | rfl | (simp; done) | (simp [*]; done)), H', ⟨by have := HK1.out; omega⟩, by repeat (first | exact Drawn0.refl _ | apply Drawn0.step)⟩
          · rw [if_neg c5] at H
            have c5b0 : ((rd l0 x5_1) == x1_1) = false := beq_eq_false_iff_ne.mpr c5
            have c5b1 : ((rd l0 x5_1) != x1_1) = true := bne_iff_ne.mpr c5
            obtain rfl := Option.some.inj H
            have p193 : 0 ≤ (x5_1 : Int) := of_decide_eq_true (by first | (with_reducible assumption) | assumption)
            have q193 : x5_1 < (l0.length : Int) := of_decide_eq_true (by first | (with_reducible assumption) | assumption)
            obtain ⟨ad193, e193, hx193_0⟩ := Kd.at_int HR0.out x5_1 p193 q193
            cases e193
            replace p193 := eq_true p193
            replace q193 := eq_true q193
            go_wp2
            go_ret
            exact ⟨by first | rfl | (simp; done) | (simp [*]; done), by repeat (first | exact Drawn0.refl _ | apply Drawn0.step)⟩
        · rw [if_neg c4] at H
          exact absurd H (by simp)
      · rw [if_neg c3] at H
        have c3b0 : decide (x5_1 < (l0.length : Int)) = false := decide_eq_false c3
        clear c3
        obtain rfl := Option.some.inj H
        go_wp2
        go_ret
        exact ⟨by first | rfl | (simp; done) | (simp [*]; done), by repeat (first | exact Drawn0.refl _ | apply Drawn0.step)⟩

theorem x_mhIntS : ∀ (m i : Nat) (x : Int) (l : List (Int)), i + m = l.length → l.length ≤ 1099511627776 → 0 ≤ x → x + 1 * (m : Int) ≤ 1152921504606846976 → ∃ r ys, Ev (fun k => laws_markIntS.l0 k l x i) (r, ys) ∧ ys.length = l.length ∧ ys.take i = l.take i ∧ Ev (fun k => laws_heldIntS.l0 k ys x i) r ∧ r = x + 1 * (m : Int) := by
  intro m
  induction m with
  | zero =>
    intro i x l hi hl h0 hx
    exact ⟨x, l, Ev.step (fun k => laws_markIntS.l0.eq_2 l x i k) (ev_ite_neg (by omega) (Ev.now _)), rfl, rfl, Ev.step (fun k => laws_heldIntS.l0.eq_2 l x i k) (ev_ite_neg (by omega) (Ev.now _)), by omega⟩
  | succ m ih =>
    intro i x l hi hl h0 hx
    have hlt : i < l.length := by omega
    obtain ⟨r, ys, h1, h2, h3, h4, h5⟩ := ih (i + 1) (x + 1) (l.set i x) (by simp; omega) (by simpa using hl) (by omega) (by omega)
    have e4 : wrap64 ((i : Int) + 1) = ((i + 1 : Nat) : Int) := by rw [w64 (by omega) (by omega)]; omega
    have w0 : wrap64 (x + 1) = x + 1 := by first | exact w64 (by omega) (by omega) | (rw [w64 (by omega) (by omega)]; omega)
    have rs : ∀ a, rd (l.set i a) (i : Int) = a := by
      intro a
      unfold rd
      rw [Int.toNat_natCast, List.getD_eq_getElem?_getD, List.getElem?_set_self hlt]
      rfl
    have hy : rd ys (i : Int) = x := by
      have h6 : ys[i]? = some x := by
        have h7 := congrArg (fun z => z[i]?) h3
        simp only [List.getElem?_take_of_lt (Nat.lt_succ_self i)] at h7
        rw [h7, List.getElem?_set_self hlt]
      unfold rd
      rw [Int.toNat_natCast, List.getD_eq_getElem?_getD, h6]
      rfl
    refine ⟨r, ys, ?_, by simpa using h2, ?_, ?_, by omega⟩
    · refine Ev.step (fun k => laws_markIntS.l0.eq_2 l x i k) (ev_ite_pos (by omega) (ev_ite_pos (by omega) ?_))
      (try simp only [Option.bind_some])
      simp only [w0, e4, Int.toNat_natCast]
      (try simp only [rs, List.set_set])
      exact h1
    · have h8 := congrArg (List.take i) h3
      rw [List.take_take, List.take_take, Nat.min_eq_left (Nat.le_succ i)] at h8
      rw [h8, List.take_set_of_le (Nat.le_refl i)]
    · have h9 : ys.length = l.length := by simpa using h2
      refine Ev.step (fun k => laws_heldIntS.l0.eq_2 ys x i k) (ev_ite_pos (by omega) (ev_ite_pos (by omega) ?_))
      simp only [hy, w0, e4, if_true]
      exact h4
theorem x_markIntS (l : List (Int)) (hl : l.length ≤ 1099511627776) (a : Int) (h0 : 0 ≤ a) (h1 : a ≤ 1125899906842624) : ∃ r ys, (∃ k, laws_markIntS.f k l a = some (r, ys)) ∧ ys.length = l.length ∧ (∃ k, laws_heldIntS.f k ys a = some r) ∧ r = a + 1 * (l.length : Int) := by
  obtain ⟨r, ys, h2, h3, _, h4, h5⟩ := x_mhIntS l.length 0 a l (by omega) hl h0 (by omega)
  obtain ⟨k, hk⟩ := h2.rounds
  obtain ⟨k', hk'⟩ := h4.rounds
  exact ⟨r, ys, ⟨k, hk⟩, h3, ⟨k', hk'⟩, h5⟩

/-! ### laws_heldIntSS: function 41 -/
def laws_heldIntSS.l0 : Nat → List (List Int) → Int → Int → Option (Int)
  | 0, _, _, _ => none
  | k + 1, x0, x1, x5 => if x5 < (x0.length : Int) then (if 0 ≤ x5 then ((laws_heldIntS.f k (rd_L3 x0 x5) x1).bind fun t195 => (if t195 < 0 then (some (-1)) else (laws_heldIntSS.l0 k x0 t195 (wrap64 (x5 + 1))))) else (none)) else (some x1)
def laws_heldIntSS.f (k : Nat) (l0 : List (List Int)) (a1 : Int) : Option (Int) := laws_heldIntSS.l0 k l0 a1 0
theorem laws_heldIntSS.mono_l : ∀ k, (∀ y0 y1 y2, LeO (laws_heldIntSS.l0 k y0 y1 y2) (laws_heldIntSS.l0 (k + 1) y0 y1 y2))
  | 0 => fun _ _ _ r h => by simp [laws_heldIntSS.l0] at h
  | k + 1 => by
    have ih0 := laws_heldIntSS.mono_l k
    · intro y0 y1 y2
      unfold laws_heldIntSS.l0
      repeat' first
      | (with_reducible exact ih0 _ _ _)
      | (with_reducible exact laws_heldIntS.mono _ _ _)
      | (with_reducible exact LeO.refl _)
      | (with_reducible exact LeO.none _)
      | (with_reducible refine LeO.ite ?_ ?_)
      | (with_reducible refine LeO.bind ?_ (fun _ => ?_))
      | exact ih0 _ _ _
      | exact laws_heldIntS.mono _ _ _
      | exact LeO.none _
      | refine LeO.ite ?_ ?_
      | refine LeO.bind ?_ (fun _ => ?_)
theorem laws_heldIntSS.mono : ∀ a0 a1 k, LeO (laws_heldIntSS.f k a0 a1) (laws_heldIntSS.f (k + 1) a0 a1) := by
  intro a0 a1 k
  have ih0 := laws_heldIntSS.mono_l k
  unfold laws_heldIntSS.f
  repeat' first
      | (with_reducible exact ih0 _ _ _)
      | (with_reducible exact laws_heldIntS.mono _ _ _)
      | (with_reducible exact LeO.refl _)
      | (with_reducible exact LeO.none _)
      | (with_reducible refine LeO.ite ?_ ?_)
      | (with_reducible refine LeO.bind ?_ (fun _ => ?_))
      | exact ih0 _ _ _
      | exact laws_heldIntS.mono _ _ _
      | exact LeO.none _
      | refine LeO.ite ?_ ?_
      | refine LeO.bind ?_ (fun _ => ?_)
set_option maxHeartbeats 8000000 in
set_option maxRecDepth 100000 in
theorem laws_heldIntSS.calls (k : Nat) (A0 : Option Addr) (c0 : Nat) (l0 : List (List Int)) (a1 : Int) (r : Int) (w : World) (hr0 : Kd.C (Kd.slice 3 (Kd.int .i64)) w A0 l0.length l0) (hc0 : l0.length ≤ c0) (h : laws_heldIntSS.f k l0 a1 = some r) :
    Calls Try.prog 41 #[.slice A0 l0.length c0, .int .i64 a1] w fun e w' => e = .returned (.int .i64 r) ∧ Drawn0 w w' := by
  have HR0 := Aside0.mk hr0
  have HC0 := Aside0.mk hc0
  clear hr0 hc0
  have H : (laws_heldIntSS.l0 k l0 a1 0) = some r := h
  clear h
  have H' := Aside0.mk H
  clear H
  go_enter Try.func41, Try.ntmps41
  go_wp2
  go_loopg [1, 5] k (fun kq v1 v5 w' => ∃ (x1_1 : Int) (x5_1 : Int), v1 = .int .i64 x1_1 ∧ v5 = .int .i64 x5_1 ∧ Aside0 (laws_heldIntSS.l0 kq l0 x1_1 x5_1 = some r) ∧ Aside0 (kq ≤ k) ∧ Drawn0 w w')
  case atStart => exact ⟨(a1), (0), (by first | rfl | (simp; done) | (simp [*]; done)), (by first | rfl | (simp; done) | (simp [*]; done)), H', ⟨Nat.le_refl _⟩, by repeat (first | exact Drawn0.refl _ | apply Drawn0.step)⟩
  case round =>
    clear H'
    try clear p2
    obtain ⟨x1_1, x5_1, rfl, rfl, HA, HK1, ⟨m1, rfl⟩⟩ := hrel
    cases gk with
    | zero => exact absurd HA.out (by simp [laws_heldIntSS.l0])
    | succ k1 =>
      have H := HA.out
      clear HA
      simp only [laws_heldIntSS.l0] at H
      by_cases c3 : x5_1 < (l0.length : Int)
      · rw [if_pos c3] at H
        have c3b0 : decide (x5_1 < (l0.length : Int)) = true := decide_eq_true c3
        clear c3
        by_cases c4 : 0 ≤ x5_1
        · rw [if_pos c4] at H
          have c4b0 : decide (0 ≤ x5_1) = true := decide_eq_true c4
          clear c4
          replace H := Option.bind_eq_some_iff.mp H
          obtain ⟨t195, A50, H⟩ := H
          replace H : (if t195 < 0 then (some (-1)) else (laws_heldIntSS.l0 k1 l0 t195 (wrap64 (x5_1 + 1)))) = some r := H
          have A5 := Aside0.mk A50
          clear A50
          by_cases c6 : t195 < 0
          · rw [if_pos c6] at H
            have c6b0 : decide (t195 < 0) = true := decide_eq_true c6
            clear c6
            obtain rfl := Option.some.inj H
            have p194 : 0 ≤ (x5_1 : Int) := of_decide_eq_true (by first | (with_reducible assumption) | assumption)
            have q194 : x5_1 < (l0.length : Int) := of_decide_eq_true (by first | (with_reducible assumption) | assumption)
            obtain ⟨ad194, A194_0, c194_0, e194, hx194_0, hl194_0, hi194_0⟩ := at_L3 HR0.out x5_1 p194 q194
            cases e194
            have HR194_0 := Aside0.mk hi194_0
            have HC194_0 := Aside0.mk hl194_0
            clear hi194_0 hl194_0
            replace p194 := eq_true p194
            replace q194 := eq_true q194
            go_wp2_with (first | ((with_reducible refine gate_callee (f := 20) rfl ?_); refine goesL_ (some 17) rfl rfl Try.func20 (by kernel_rfl) rfl #[.slice A194_0 (rd_L3 l0 x5_1).length c194_0, .int .i64 x1_1] rfl (by (try simp only [List.map_toArray, List.map_cons, List.map_nil]); first | done | rfl | (simp only [List.length_drop, List.length_take]; rfl)) ?_; (with_reducible refine (laws_heldIntS.calls k1 _ _ (rd_L3 l0 x5_1) x1_1 t195 _ ?side1 ?side2 A5.out).mono ?_); (case side1 => repeat (first | exact HR194_0.out | (with_reducible refine Kd.C_alloc ?_ _) | (with_reducible refine Kd.C_drewN ?_ _) | (with_reducible refine Kd.C_drew ?_))); (case side2 => exact HC194_0.out); rintro e w' ⟨rfl, ⟨nd, rfl⟩⟩; refine ⟨_, rfl, ?_⟩))
            go_ret
            exact ⟨by first | rfl | (simp; done) | (simp [*]; done), by repeat (first | exact Drawn0.refl _ | apply Drawn0.step)⟩
          · rw [if_neg c6] at H
            have c6b0 : decide (t195 < 0) = false := decide_eq_false c6
            clear c6
            have H' := Aside0.mk H
            clear H
            have p194 : 0 ≤ (x5_1 : Int) := of_decide_eq_true (by first | (with_reducible assumption) | assumption)
            have q194 : x5_1 < (l0.length : Int) := of_decide_eq_true (by first | (with_reducible assumption) | assumption)
            obtain ⟨ad194, A194_0, c194_0, e194, hx194_0, hl194_0, hi194_0⟩ := at_L3 HR0.out x5_1 p194 q194
            cases e194
            have HR194_0 := Aside0.mk hi194_0
            have HC194_0 := Aside0.mk hl194_0
            clear hi194_0 hl194_0
            replace p194 := eq_true p194
            replace q194 := eq_true q194
            go_wp2_with (first | ((with_reducible refine gate_callee (f := 20) rfl ?_); refine goesL_ (some 17) rfl rfl Try.func20 (by kernel_rfl) rfl #[.slice A194_0 (rd_L3 l0 x5_1).length c194_0, .int .i64 x1_1] rfl (by (try simp only [List.map_toArray, List.map_cons, List.map_nil]); first | done | rfl | (simp only [List.length_drop, List.length_take]; rfl)) ?_; (with_reducible refine (laws_heldIntS.calls k1 _ _ (rd_L3 l0 x5_1) x1_1 t195 _ ?side1 ?side2 A5.out).mono ?_); (case side1 => repeat (first | exact HR194_0.out | (with_reducible refine Kd.C_alloc ?_ _) | (with_reducible refine Kd.C_drewN ?_ _) | (with_reducible refine Kd.C_drew ?_))); (case side2 => exact HC194_0.out); rintro e w' ⟨rfl, ⟨nd, rfl⟩⟩; refine ⟨_, rfl, ?_⟩))
            go_roundg k1
            case measure => have := HK1.out; omega
            case rel => exact ⟨(t195), (wrap64 (x5_1 + 1)), (by first | rfl | (simp; done) | (simp [*]; done)), (by first | rfl | (simp; done) | (simp [*]; done)), H', ⟨by have := HK1.out; omega⟩, by repeat (first | exact Drawn0.refl _ | apply Drawn0.step)⟩
        · rw [if_neg c4] at H
          exact absurd H (by simp)
      · rw [if_neg c3] at H
        have c3b0 : decide (x5_1 < (l0.length : Int)) = false := decide_eq_false c3
        clear c3
        obtain rfl := Option.some.inj H
        go_wp2
        go_ret
        exact ⟨by first | rfl | (simp; done) | (simp [*]; done), by repeat (first | exact Drawn0.refl _ | apply Drawn0.step)⟩

set_option maxHeartbeats 8000000 in
theorem x_mhIntSS : ∀ (m i : Nat) (x : Int) (l : List (List Int)), i + m = l.length → l.length ≤ 1099511627776 → 0 ≤ x → (l.drop i).flatten.length ≤ 1099511627776 → x + 1 * ((l.drop i).flatten.length : Int) ≤ 1152921504606846976 → ∃ r ys, Ev (fun k => laws_markIntSS.l0 k l x i) (r, ys) ∧ ys.length = l.length ∧ ys.take i = l.take i ∧ Ev (fun k => laws_heldIntSS.l0 k ys x i) r ∧ r = x + 1 * ((l.drop i).flatten.length : Int) := by
  intro m
  induction m with
  | zero =>
    intro i x l hi hl h0 hf hx
    have e : l.drop i = [] := List.drop_eq_nil_of_le (by omega)
    exact ⟨x, l, Ev.step (fun k => laws_markIntSS.l0.eq_2 l x i k) (ev_ite_neg (by omega) (Ev.now _)), rfl, rfl, Ev.step (fun k => laws_heldIntSS.l0.eq_2 l x i k) (ev_ite_neg (by omega) (Ev.now _)), by rw [e]; simp⟩
  | succ m ih =>
    intro i x l hi hl h0 hf hx
    have hlt : i < l.length := by omega
    have hsum : (l.drop i).flatten.length = l[i].length + (l.drop (i + 1)).flatten.length := by rw [drop_at l i hlt, List.flatten_cons, List.length_append]
    rw [hsum] at hf hx ⊢
    have c1 : (i : Int) < (l.length : Int) := Int.ofNat_lt.2 hlt
    have c2 : (0 : Int) ≤ (i : Int) := Int.natCast_nonneg i
    have e4 : wrap64 ((i : Int) + 1) = ((i + 1 : Nat) : Int) := by rw [w64 (by omega) (by omega)]; omega
    obtain ⟨r1, y1, a1, a2, a3, a4, a5⟩ := x_mhIntS l[i].length 0 x l[i] (by omega) (by omega) h0 (by omega)
    have c4 : ¬ r1 < 0 := by omega
    have c6 : 0 ≤ r1 := by omega
    have c7 : (i + 1) + m = (l.set i y1).length := by rw [List.length_set]; omega
    have c8 : r1 + 1 * ((l.drop (i + 1)).flatten.length : Int) ≤ 1152921504606846976 := by omega
    have c9 : (l.drop (i + 1)).flatten.length ≤ 1099511627776 := by omega
    have hd : (l.set i y1).drop (i + 1) = l.drop (i + 1) := List.drop_set_of_lt (by omega)
    obtain ⟨r, ys, h1, h2, h3, h4, h5⟩ := ih (i + 1) r1 (l.set i y1) c7 (by rw [List.length_set]; exact hl) c6 (by rw [hd]; exact c9) (by rw [hd]; exact c8)
    rw [hd] at h5
    have hin : rd_L3 l (i : Int) = l[i] := by
      unfold rd_L3
      rw [Int.toNat_natCast, List.getD_eq_getElem?_getD, List.getElem?_eq_getElem hlt]
      rfl
    have hy : rd_L3 ys (i : Int) = y1 := by
      have h6 : ys[i]? = some y1 := by
        have h7 := congrArg (fun z => z[i]?) h3
        simp only [List.getElem?_take_of_lt (Nat.lt_succ_self i)] at h7
        rw [h7, List.getElem?_set_self hlt]
      unfold rd_L3
      rw [Int.toNat_natCast, List.getD_eq_getElem?_getD, h6]
      rfl
    have h9 : ys.length = l.length := by rw [h2, List.length_set]
    have c3 : (i : Int) < (ys.length : Int) := by rw [h9]; exact c1
    have c5 : r = x + 1 * ((l[i].length + (l.drop (i + 1)).flatten.length : Nat) : Int) := by rw [h5, a5]; exact x_sum _ _ _ _
    refine ⟨r, ys, ?_, h9, ?_, ?_, c5⟩
    · refine Ev.step (fun k => laws_markIntSS.l0.eq_2 l x i k) (ev_ite_pos c1 (ev_ite_pos c2 ?_))
      rw [hin, e4, Int.toNat_natCast]
      exact ev_bind (show Ev (fun k => laws_markIntS.f k l[i] x) (r1, y1) from a1) h1
    · have h8 := congrArg (List.take i) h3
      rw [List.take_take, List.take_take, Nat.min_eq_left (Nat.le_succ i)] at h8
      rw [h8, List.take_set_of_le (Nat.le_refl i)]
    · refine Ev.step (fun k => laws_heldIntSS.l0.eq_2 ys x i k) (ev_ite_pos c3 (ev_ite_pos c2 ?_))
      rw [hy, e4]
      exact ev_bind (show Ev (fun k => laws_heldIntS.f k y1 x) r1 from a4) (ev_ite_neg c4 h4)
theorem x_markIntSS (l : List (List Int)) (hl : l.length ≤ 1099511627776 ∧ l.flatten.length ≤ 1099511627776) (a : Int) (h0 : 0 ≤ a) (h1 : a ≤ 1125899906842624) : ∃ r ys, (∃ k, laws_markIntSS.f k l a = some (r, ys)) ∧ ys.length = l.length ∧ (∃ k, laws_heldIntSS.f k ys a = some r) ∧ r = a + 1 * (l.flatten.length : Int) := by
  obtain ⟨r, ys, h2, h3, _, h4, h5⟩ := x_mhIntSS l.length 0 a l (by omega) hl.1 h0 hl.2 (by rw [List.drop_zero]; omega)
  obtain ⟨k, hk⟩ := h2.rounds
  obtain ⟨k', hk'⟩ := h4.rounds
  exact ⟨r, ys, ⟨k, hk⟩, h3, ⟨k', hk'⟩, h5⟩

/-! ### laws_FnExactReasonCounts: function 9 -/
/-- THE ONE PURE STATEMENT of laws_FnExactReasonCounts. -/
def laws_FnExactReasonCounts.Pure : Prop := ∀ (l0 : List (S94)) (a1 : Int) (a2 : Int), (okL ok94) l0 → (okI .i64) a1 → (okI .i64) a2 → l0.length ≤ 1000000 → ∃ (r1 : List (List Int)) (r2 : Bool), (∃ k, spec_ReasonCounts.f k l0 a1 a2 = some (r1, r2)) ∧ (∃ k, impl_ReasonCounts.f k l0 a1 a2 = some (r1, r2)) ∧ (r1.length ≤ 1099511627776 ∧ r1.flatten.length ≤ 1099511627776)
set_option maxHeartbeats 8000000 in
set_option maxRecDepth 100000 in
theorem laws_FnExactReasonCounts.walk (P : laws_FnExactReasonCounts.Pure) (A0 : Option Addr) (c0 : Nat) (l0 : List (S96)) (a1 : Int) (a2 : Int) (w : World) (hr0 : Kd.C k96 w A0 l0.length l0) (hc0 : l0.length ≤ c0) (z0 : (okL ok96) l0) (z1 : l0.length * 16 ≤ 140737488351232) (z2 : (okI .i64) a1) (z3 : (okI .i64) a2) :
    Calls Try.prog 9 #[.slice A0 l0.length c0, .int .i64 a1, .int .i64 a2] w fun e w' => e = .returned (.bool true) ∧ Below w.heap.size w w' := by
  have Z0 := Aside0.mk z0
  have Z1 := Aside0.mk z1
  have Z2 := Aside0.mk z2
  have Z3 := Aside0.mk z3
  have HR0 := Aside0.mk hr0
  have HC0 := Aside0.mk hc0
  clear hr0 hc0
  clear z0 z1 z2 z3
  have HB := Aside0.mk (Below.refl w.heap.size w)
  obtain ⟨s2, fs_, gs_⟩ := x_szNodeS l0 1000000 (by skip; omega) (by skip; omega) Z1.out
  have FSs2 := Aside0.mk fs_
  have GSs2 := Aside0.mk gs_
  clear fs_ gs_
  by_cases q3 : s2 < 0
  · have q3b : decide (s2 < 0) = true := decide_eq_true q3
    have Hq3 := Aside0.mk q3
    clear q3
    go_enter Try.func9, Try.ntmps9
    go_wp2_with (first | ((with_reducible refine gate_callee (f := 21) rfl ?_); refine goesL_ (some 20) rfl rfl Try.func21 (by kernel_rfl) rfl #[.slice A0 l0.length c0, .int .i64 1000000] rfl (by (try simp only [List.map_toArray, List.map_cons, List.map_nil]); first | done | rfl) ?_; (with_reducible refine (laws_szNodeS.calls A0 c0 l0 1000000 s2 _ ?side1 ?side2 FSs2.out).mono ?_); (case side1 => exact (Kd.C_below HR0.out HB.out)); (case side2 => exact HC0.out); rintro e w1 ⟨rfl, hd_⟩; have hb_ := hd_.below; refine ⟨_, rfl, ?_⟩; have nx_ := Aside0.mk (below_step HB.out hb_); clear HB; have HB := nx_; clear nx_; have HZw1 := Aside0.mk (Below.size hb_); clear hb_ hd_))
    go_ret
    exact ⟨rfl, HB.out⟩
  · have q3b : decide (s2 < 0) = false := decide_eq_false q3
    have Hq3 := Aside0.mk q3
    clear q3
    obtain ⟨g0, hg0⟩ : ∃ g, g = l0.map x_cvNodeS := ⟨_, rfl⟩
    have HL0 : Aside0 (l0.length ≤ 1000000) := ⟨by have h0_ := GSs2.out; have h1_ := Hq3.out; omega⟩
    have HG0 := Aside0.mk (show l0.length = g0.length by rw [hg0, List.length_map])
    have HM0 := Aside0.mk hg0
    clear hg0
    obtain ⟨f0f, ⟨kf0f, hf0f⟩, hn0f, hlt0f, hroom0f, hmx0f⟩ := x_fullNodeS l0 HL0.out false
    rw [← HM0.out] at hlt0f
    have FT0f := Aside0.mk hf0f
    have NE0f := Aside0.mk (show f0f = [] → l0.length = 0 from fun h => by rw [hn0f h]; rfl)
    have LA0f := Aside0.mk hlt0f.1
    have LB0f := Aside0.mk hlt0f.2
    have RO0f := Aside0.mk hroom0f
    have MX0f := Aside0.mk hmx0f
    clear hf0f hn0f hlt0f hroom0f hmx0f
    obtain ⟨r1, r2, ⟨ks, hs⟩, ⟨ki, hi⟩, hlr1⟩ := P g0 a1 a2 (x_okNodeS HM0.out Z0.out) Z2.out Z3.out (by have h0_ := GSs2.out; have h1_ := Hq3.out; have hg0_ := HG0.out; omega)
    have FS := Aside0.mk hs
    have FI := Aside0.mk hi
    clear hs hi
    have HLr1 := Aside0.mk hlr1
    clear hlr1
    obtain ⟨ker1, fe_⟩ := x_eqIntSS r1 HLr1.out
    have FEr1 := Aside0.mk fe_
    clear fe_
    have FR0 := Aside0.mk (x_roomeq g0.length)
    have FN0 : Aside0 ((g0.length : Int) + ((x_room g0.length : Nat) : Int) = ((f0f.length : Nat) : Int)) := ⟨by have h1_ := RO0f.out rfl; have h2_ := HG0.out; rw [h1_, h2_]; omega⟩
    obtain ⟨m27, ym27, ⟨kmm27, fm_⟩, fy_, fz_⟩ := x_mkNodeS g0 (by have h_ := HL0.out; have h2_ := HG0.out; omega) 101 (by skip; omega) (by have h0_ := HG0.out; have h1_ := HL0.out; omega)
    have FMm27 := Aside0.mk fm_
    have FYm27 := Aside0.mk fy_
    have FZm27 := Aside0.mk fz_
    clear fm_ fy_ fz_
    have hp28 : decide (m27 < 0) = false := decide_eq_false (by have h0_ := FZm27.out; omega)
    obtain ⟨m31, ym31, ⟨kmm31, fm_⟩, fy_, ⟨khm31, fh_⟩, fz_⟩ := x_markIntSS r1 HLr1.out 101 (by have h0_ := FZm27.out; omega) (by have h0_ := FZm27.out; have h1_ := HG0.out; have h2_ := HL0.out; omega)
    have FMm31 := Aside0.mk fm_
    have FYm31 := Aside0.mk fy_
    have FHm31 := Aside0.mk fh_
    have FZm31 := Aside0.mk fz_
    clear fm_ fy_ fh_ fz_
    have hp33 : decide (m31 < 0) = false := decide_eq_false (by have h0_ := FZm27.out; have h1_ := FZm31.out; omega)
    obtain ⟨f0t, ⟨kf0t, hf0t⟩, hn0t, hlt0t, hroom0t, hmx0t⟩ := x_fullNodeS l0 HL0.out true
    rw [← HM0.out] at hlt0t
    have FT0t := Aside0.mk hf0t
    have NE0t := Aside0.mk (show f0t = [] → l0.length = 0 from fun h => by rw [hn0t h]; rfl)
    have LA0t := Aside0.mk hlt0t.1
    have LB0t := Aside0.mk hlt0t.2
    have RO0t := Aside0.mk hroom0t
    have MX0t := Aside0.mk hmx0t
    clear hf0t hn0t hlt0t hroom0t hmx0t
    have hp44 : decide (m31 < 0) = false := decide_eq_false (by have h0_ := FZm27.out; have h1_ := FZm31.out; omega)
    go_enter Try.func9, Try.ntmps9
    go_wp2_with (first | ((with_reducible refine gate_callee (f := 21) rfl ?_); refine goesL_ (some 20) rfl rfl Try.func21 (by kernel_rfl) rfl #[.slice A0 l0.length c0, .int .i64 1000000] rfl (by (try simp only [List.map_toArray, List.map_cons, List.map_nil]); first | done | rfl) ?_; (with_reducible refine (laws_szNodeS.calls A0 c0 l0 1000000 s2 _ ?side1 ?side2 FSs2.out).mono ?_); (case side1 => exact (Kd.C_below HR0.out HB.out)); (case side2 => exact HC0.out); rintro e w1 ⟨rfl, hd_⟩; have hb_ := hd_.below; refine ⟨_, rfl, ?_⟩; have nx_ := Aside0.mk (below_step HB.out hb_); clear HB; have HB := nx_; clear nx_; have HZw1 := Aside0.mk (Below.size hb_); clear hb_ hd_) | ((with_reducible refine gate_callee (f := 23) rfl ?_); refine goesL_ (some 25) rfl rfl Try.func23 (by kernel_rfl) rfl #[.slice A0 l0.length c0, .bool false] rfl (by (try simp only [List.map_toArray, List.map_cons, List.map_nil]); first | done | rfl) ?_; (with_reducible refine (laws_toNodeS.calls kf0f A0 c0 l0 false f0f _ ?side1 ?side2 FT0f.out).mono ?_); (case side1 => exact (Kd.C_below HR0.out HB.out)); (case side2 => exact HC0.out); rintro e w4 ⟨v0_, v1_, rfl, hv_, ho_, hb_⟩; refine ⟨_, rfl, ?_⟩; obtain ⟨A6, c7, rfl, ho2_⟩ := x_to hv_ ho_ HG0.out NE0f.out; have nx_ := Aside0.mk (below_step HB.out hb_); clear HB; have HB := nx_; clear nx_; have HZw4 := Aside0.mk (Below.size hb_); have HO5 := Aside0.mk (x_iv ho2_); clear hb_ ho_ hv_ ho2_) | ((with_reducible refine gate_callee (f := 37) rfl ?_); refine goesL_ (some 28) rfl rfl Try.func37 (by kernel_rfl) rfl #[.slice A6 g0.length c7, .int .i64 a1, .int .i64 a2] rfl (by (try simp only [List.map_toArray, List.map_cons, List.map_nil]); first | done | rfl) ?_; (with_reducible refine (spec_ReasonCounts.calls ks A6 c7 g0 a1 a2 r1 r2 _ ?side1 ?side2 FS.out).mono ?_); (case side1 => exact (x_rd HO5.out LA0f.out LB0f.out)); (case side2 => exact (x_rc HO5.out LA0f.out)); rintro e w8 ⟨v0_, rfl, ho0_, hb_⟩; refine ⟨_, rfl, ?_⟩; obtain ⟨A10, c11, rfl⟩ := Kd.R_slice (Kd.S_R ho0_); have nx_ := Aside0.mk (below_step HB.out hb_); clear HB; have HB := nx_; clear nx_; have HZw8 := Aside0.mk (Below.size hb_); have nx_ := Aside0.mk (Kd.R_below HO5.out hb_); clear HO5; have HO5 := nx_; clear nx_; have HO9 := Aside0.mk (x_ivS ho0_); clear hb_ ho0_) | ((with_reducible refine gate_callee (f := 23) rfl ?_); refine goesL_ (some 32) rfl rfl Try.func23 (by kernel_rfl) rfl #[.slice A0 l0.length c0, .bool false] rfl (by (try simp only [List.map_toArray, List.map_cons, List.map_nil]); first | done | rfl) ?_; (with_reducible refine (laws_toNodeS.calls kf0f A0 c0 l0 false f0f _ ?side1 ?side2 FT0f.out).mono ?_); (case side1 => exact (Kd.C_below HR0.out HB.out)); (case side2 => exact HC0.out); rintro e w12 ⟨v0_, v1_, rfl, hv_, ho_, hb_⟩; refine ⟨_, rfl, ?_⟩; obtain ⟨A14, c15, rfl, ho2_⟩ := x_to hv_ ho_ HG0.out NE0f.out; have nx_ := Aside0.mk (below_step HB.out hb_); clear HB; have HB := nx_; clear nx_; have HZw12 := Aside0.mk (Below.size hb_); have nx_ := Aside0.mk (Kd.R_below HO5.out hb_); clear HO5; have HO5 := nx_; clear nx_; have nx_ := Aside0.mk (Kd.S_below HO9.out hb_); clear HO9; have HO9 := nx_; clear nx_; have HO13 := Aside0.mk (x_iv ho2_); clear hb_ ho_ hv_ ho2_) | ((with_reducible refine gate_callee (f := 38) rfl ?_); refine goesL_ (some 37) rfl rfl Try.func38 (by kernel_rfl) rfl #[.slice A14 g0.length c15, .int .i64 a1, .int .i64 a2] rfl (by (try simp only [List.map_toArray, List.map_cons, List.map_nil]); first | done | rfl) ?_; (with_reducible refine (impl_ReasonCounts.calls ki A14 c15 g0 a1 a2 r1 r2 _ ?side1 ?side2 FI.out).mono ?_); (case side1 => exact (x_rd HO13.out LA0f.out LB0f.out)); (case side2 => exact (x_rc HO13.out LA0f.out)); rintro e w16 ⟨v0_, rfl, ho0_, hb_⟩; refine ⟨_, rfl, ?_⟩; obtain ⟨A18, c19, rfl⟩ := Kd.R_slice (Kd.S_R ho0_); have nx_ := Aside0.mk (below_step HB.out hb_); clear HB; have HB := nx_; clear nx_; have HZw16 := Aside0.mk (Below.size hb_); have nx_ := Aside0.mk (Kd.R_below HO5.out hb_); clear HO5; have HO5 := nx_; clear nx_; have nx_ := Aside0.mk (Kd.S_below HO9.out hb_); clear HO9; have HO9 := nx_; clear nx_; have nx_ := Aside0.mk (Kd.R_below HO13.out hb_); clear HO13; have HO13 := nx_; clear nx_; have HO17 := Aside0.mk (x_ivS ho0_); clear hb_ ho0_) | ((with_reducible refine gate_callee (f := 39) rfl ?_); refine goesL_ (some 42) rfl rfl Try.func39 (by kernel_rfl) rfl #[.slice A18 r1.length c19, .slice A10 r1.length c11] rfl (by (try simp only [List.map_toArray, List.map_cons, List.map_nil]); first | done | rfl) ?_; (with_reducible refine (laws_eqIntSS.calls ker1 A18 c19 r1 A10 c11 r1 true _ ?side1 ?side2 ?side3 ?side4 FEr1.out).mono ?_); (case side1 => exact (Kd.R_reads' (Kd.S_R HO17.out)).2.2); (case side2 => exact (Kd.R_reads' (Kd.S_R HO17.out)).2.1); (case side3 => exact (Kd.R_reads' (Kd.S_R HO9.out)).2.2); (case side4 => exact (Kd.R_reads' (Kd.S_R HO9.out)).2.1); rintro e w20 ⟨rfl, hd_⟩; have hb_ := hd_.below; refine ⟨_, rfl, ?_⟩; have nx_ := Aside0.mk (below_step HB.out hb_); clear HB; have HB := nx_; clear nx_; have HZw20 := Aside0.mk (Below.size hb_); have nx_ := Aside0.mk (Kd.R_below HO5.out hb_); clear HO5; have HO5 := nx_; clear nx_; have nx_ := Aside0.mk (Kd.S_below HO9.out hb_); clear HO9; have HO9 := nx_; clear nx_; have nx_ := Aside0.mk (Kd.R_below HO13.out hb_); clear HO13; have HO13 := nx_; clear nx_; have nx_ := Aside0.mk (Kd.S_below HO17.out hb_); clear HO17; have HO17 := nx_; clear nx_; clear hb_ hd_) | ((with_reducible refine gate_callee (f := 23) rfl ?_); refine goesL_ (some 51) rfl rfl Try.func23 (by kernel_rfl) rfl #[.slice A0 l0.length c0, .bool false] rfl (by (try simp only [List.map_toArray, List.map_cons, List.map_nil]); first | done | rfl) ?_; (with_reducible refine (laws_toNodeS.calls kf0f A0 c0 l0 false f0f _ ?side1 ?side2 FT0f.out).mono ?_); (case side1 => exact (Kd.C_below HR0.out HB.out)); (case side2 => exact HC0.out); rintro e w21 ⟨v0_, v1_, rfl, hv_, ho_, hb_⟩; refine ⟨_, rfl, ?_⟩; obtain ⟨A23, c24, rfl, ho2_⟩ := x_to hv_ ho_ HG0.out NE0f.out; have nx_ := Aside0.mk (below_step HB.out hb_); clear HB; have HB := nx_; clear nx_; have HZw21 := Aside0.mk (Below.size hb_); have nx_ := Aside0.mk (Kd.R_below HO5.out hb_); clear HO5; have HO5 := nx_; clear nx_; have nx_ := Aside0.mk (Kd.S_below HO9.out hb_); clear HO9; have HO9 := nx_; clear nx_; have nx_ := Aside0.mk (Kd.R_below HO13.out hb_); clear HO13; have HO13 := nx_; clear nx_; have nx_ := Aside0.mk (Kd.S_below HO17.out hb_); clear HO17; have HO17 := nx_; clear nx_; have HO22 := Aside0.mk (x_iv ho2_); clear hb_ ho_ hv_ ho2_) | ((with_reducible refine gate_callee (f := 26) rfl ?_); refine goesL_ (some 52) rfl rfl Try.func26 (by kernel_rfl) rfl #[.slice A14 g0.length c15, .slice A23 g0.length c24] rfl (by (try simp only [List.map_toArray, List.map_cons, List.map_nil]); first | done | rfl) ?_; (with_reducible refine (laws_intactNodeS.calls g0.length A14 c15 A23 c24 f0f _ _ ?side1 ?side2 ?side3 ?side4 FR0.out FN0.out (by have h_ := MX0f.out; omega)).mono ?_); (case side1 => exact (Kd.R_reads' HO13.out).2.2); (case side2 => exact (Kd.R_reads' HO13.out).2.1); (case side3 => exact (Kd.R_reads' HO22.out).2.2); (case side4 => exact (Kd.R_reads' HO22.out).2.1); rintro e w25 ⟨rfl, hd_⟩; have hb_ := hd_; refine ⟨_, rfl, ?_⟩; have nx_ := Aside0.mk (below_step HB.out hb_); clear HB; have HB := nx_; clear nx_; have HZw25 := Aside0.mk (Below.size hb_); have nx_ := Aside0.mk (Kd.R_below HO5.out hb_); clear HO5; have HO5 := nx_; clear nx_; have nx_ := Aside0.mk (Kd.S_below HO9.out hb_); clear HO9; have HO9 := nx_; clear nx_; have nx_ := Aside0.mk (Kd.R_below HO13.out hb_); clear HO13; have HO13 := nx_; clear nx_; have nx_ := Aside0.mk (Kd.S_below HO17.out hb_); clear HO17; have HO17 := nx_; clear nx_; have nx_ := Aside0.mk (Kd.R_below HO22.out hb_); clear HO22; have HO22 := nx_; clear nx_; clear hb_ hd_) | ((with_reducible refine gate_callee (f := 27) rfl ?_); refine goesL_ (some 56) rfl rfl Try.func27 (by kernel_rfl) rfl #[.slice A14 g0.length c15, .int .i64 101] rfl (by (try simp only [List.map_toArray, List.map_cons, List.map_nil]); first | done | rfl) ?_; (with_reducible refine (laws_markNodeS.calls kmm27 (fun k_ => w8.heap.size ≤ k_ ∧ k_ < w12.heap.size) (.slice A14 g0.length c15) g0 101 m27 ym27 w _ ?side1 ?side2 FMm27.out).mono ?_); (case side1 => exact HB.out); (case side2 => exact Kd.R_lower (x_rt HO13.out LA0f.out LB0f.out) (by have hw1_ := HZw1.out; have hw4_ := HZw4.out; have hw8_ := HZw8.out; omega)); rintro e w26 ⟨rfl, ho_, hb_, hk_⟩; refine ⟨_, rfl, ?_⟩; have nx_ := Aside0.mk (x_off HO5.out hk_ (.inl (by have hw8_ := HZw8.out; omega))); clear HO5; have HO5 := nx_; clear nx_; have nx_ := Aside0.mk (x_offS HO9.out hk_ (.inl (by omega))); clear HO9; have HO9 := nx_; clear nx_; have nx_ := Aside0.mk (x_offS HO17.out hk_ (.inr (by omega))); clear HO17; have HO17 := nx_; clear nx_; have nx_ := Aside0.mk (x_off HO22.out hk_ (.inr (by have hw16_ := HZw16.out; have hw20_ := HZw20.out; omega))); clear HO22; have HO22 := nx_; clear nx_; have nx_ := Aside0.mk (x_own rfl (x_rt HO13.out LA0f.out LB0f.out) ho_); clear HO13; have HO13 := nx_; clear nx_; clear HB; have HB := Aside0.mk hb_; have HZw26 := Aside0.mk hk_.1; clear hb_ ho_ hk_) | (go_at_call 39; (with_reducible refine (laws_eqIntSS.calls ker1 A18 c19 r1 A10 c11 r1 true _ ?side1 ?side2 ?side3 ?side4 FEr1.out).mono ?_); (case side1 => exact (Kd.R_reads' (Kd.S_R HO17.out)).2.2); (case side2 => exact (Kd.R_reads' (Kd.S_R HO17.out)).2.1); (case side3 => exact (Kd.R_reads' (Kd.S_R HO9.out)).2.2); (case side4 => exact (Kd.R_reads' (Kd.S_R HO9.out)).2.1); rintro e w29 ⟨rfl, hd_⟩; have hb_ := hd_.below; have nx_ := Aside0.mk (below_step HB.out hb_); clear HB; have HB := nx_; clear nx_; have HZw29 := Aside0.mk (Below.size hb_); have nx_ := Aside0.mk (Kd.R_below HO5.out hb_); clear HO5; have HO5 := nx_; clear nx_; have nx_ := Aside0.mk (Kd.S_below HO9.out hb_); clear HO9; have HO9 := nx_; clear nx_; have nx_ := Aside0.mk (Kd.R_below HO13.out hb_); clear HO13; have HO13 := nx_; clear nx_; have nx_ := Aside0.mk (Kd.S_below HO17.out hb_); clear HO17; have HO17 := nx_; clear nx_; have nx_ := Aside0.mk (Kd.R_below HO22.out hb_); clear HO22; have HO22 := nx_; clear nx_; clear hb_ hd_) | ((with_reducible refine gate_callee (f := 40) rfl ?_); refine goesL_ (some 72) rfl rfl Try.func40 (by kernel_rfl) rfl #[.slice A18 r1.length c19, .int .i64 101] rfl (by (try simp only [List.map_toArray, List.map_cons, List.map_nil]); first | done | rfl) ?_; (with_reducible refine (laws_markIntSS.calls kmm31 (fun k_ => w12.heap.size ≤ k_ ∧ k_ < w16.heap.size) (.slice A18 r1.length c19) r1 101 m31 ym31 w _ ?side1 ?side2 FMm31.out).mono ?_); (case side1 => exact HB.out); (case side2 => exact Kd.S_lower HO17.out (by have hw1_ := HZw1.out; have hw4_ := HZw4.out; have hw8_ := HZw8.out; have hw12_ := HZw12.out; omega)); rintro e w30 ⟨rfl, ho_, hb_, hk_⟩; refine ⟨_, rfl, ?_⟩; have nx_ := Aside0.mk (x_off HO5.out hk_ (.inl (by have hw8_ := HZw8.out; have hw12_ := HZw12.out; omega))); clear HO5; have HO5 := nx_; clear nx_; have nx_ := Aside0.mk (x_offS HO9.out hk_ (.inl (by have hw12_ := HZw12.out; omega))); clear HO9; have HO9 := nx_; clear nx_; have nx_ := Aside0.mk (x_off HO13.out hk_ (.inl (by omega))); clear HO13; have HO13 := nx_; clear nx_; have nx_ := Aside0.mk (x_off HO22.out hk_ (.inr (by have hw20_ := HZw20.out; omega))); clear HO22; have HO22 := nx_; clear nx_; have nx_ := Aside0.mk ho_; clear HO17; have HO17 := nx_; clear nx_; clear HB; have HB := Aside0.mk hb_; have HZw30 := Aside0.mk hk_.1; clear hb_ ho_ hk_) | ((with_reducible refine gate_callee (f := 41) rfl ?_); refine goesL_ (some 75) rfl rfl Try.func41 (by kernel_rfl) rfl #[.slice A18 ym31.length c19, .int .i64 101] rfl (by (try simp only [List.map_toArray, List.map_cons, List.map_nil]); first | done | (rw [FYm31.out] <;> rfl) | rfl) ?_; (with_reducible refine (laws_heldIntSS.calls khm31 A18 c19 ym31 101 m31 _ ?side1 ?side2 FHm31.out).mono ?_); (case side1 => exact (x_rdw (Kd.S_R HO17.out))); (case side2 => exact (x_rcw (Kd.S_R HO17.out) FYm31.out)); rintro e w32 ⟨rfl, hd_⟩; have hb_ := hd_.below; refine ⟨_, rfl, ?_⟩; have nx_ := Aside0.mk (below_step HB.out hb_); clear HB; have HB := nx_; clear nx_; have HZw32 := Aside0.mk (Below.size hb_); have nx_ := Aside0.mk (Kd.R_below HO5.out hb_); clear HO5; have HO5 := nx_; clear nx_; have nx_ := Aside0.mk (Kd.S_below HO9.out hb_); clear HO9; have HO9 := nx_; clear nx_; have nx_ := Aside0.mk (Kd.R_below HO13.out hb_); clear HO13; have HO13 := nx_; clear nx_; have nx_ := Aside0.mk (Kd.S_below HO17.out hb_); clear HO17; have HO17 := nx_; clear nx_; have nx_ := Aside0.mk (Kd.R_below HO22.out hb_); clear HO22; have HO22 := nx_; clear nx_; clear hb_ hd_) | ((with_reducible refine gate_callee (f := 23) rfl ?_); refine goesL_ (some 83) rfl rfl Try.func23 (by kernel_rfl) rfl #[.slice A0 l0.length c0, .bool true] rfl (by (try simp only [List.map_toArray, List.map_cons, List.map_nil]); first | done | rfl) ?_; (with_reducible refine (laws_toNodeS.calls kf0t A0 c0 l0 true f0t _ ?side1 ?side2 FT0t.out).mono ?_); (case side1 => exact (Kd.C_below HR0.out HB.out)); (case side2 => exact HC0.out); rintro e w34 ⟨v0_, v1_, rfl, hv_, ho_, hb_⟩; refine ⟨_, rfl, ?_⟩; obtain ⟨A36, c37, rfl, ho2_⟩ := x_to hv_ ho_ HG0.out NE0t.out; have nx_ := Aside0.mk (below_step HB.out hb_); clear HB; have HB := nx_; clear nx_; have HZw34 := Aside0.mk (Below.size hb_); have nx_ := Aside0.mk (Kd.R_below HO5.out hb_); clear HO5; have HO5 := nx_; clear nx_; have nx_ := Aside0.mk (Kd.S_below HO9.out hb_); clear HO9; have HO9 := nx_; clear nx_; have nx_ := Aside0.mk (Kd.R_below HO13.out hb_); clear HO13; have HO13 := nx_; clear nx_; have nx_ := Aside0.mk (Kd.S_below HO17.out hb_); clear HO17; have HO17 := nx_; clear nx_; have nx_ := Aside0.mk (Kd.R_below HO22.out hb_); clear HO22; have HO22 := nx_; clear nx_; have HO35 := Aside0.mk (x_iv ho2_); clear hb_ ho_ hv_ ho2_) | ((with_reducible refine gate_callee (f := 38) rfl ?_); refine goesL_ (some 86) rfl rfl Try.func38 (by kernel_rfl) rfl #[.slice A36 g0.length c37, .int .i64 a1, .int .i64 a2] rfl (by (try simp only [List.map_toArray, List.map_cons, List.map_nil]); first | done | rfl) ?_; (with_reducible refine (impl_ReasonCounts.calls ki A36 c37 g0 a1 a2 r1 r2 _ ?side1 ?side2 FI.out).mono ?_); (case side1 => exact (x_rd HO35.out LA0t.out LB0t.out)); (case side2 => exact (x_rc HO35.out LA0t.out)); rintro e w38 ⟨v0_, rfl, ho0_, hb_⟩; refine ⟨_, rfl, ?_⟩; obtain ⟨A40, c41, rfl⟩ := Kd.R_slice (Kd.S_R ho0_); have nx_ := Aside0.mk (below_step HB.out hb_); clear HB; have HB := nx_; clear nx_; have HZw38 := Aside0.mk (Below.size hb_); have nx_ := Aside0.mk (Kd.R_below HO5.out hb_); clear HO5; have HO5 := nx_; clear nx_; have nx_ := Aside0.mk (Kd.S_below HO9.out hb_); clear HO9; have HO9 := nx_; clear nx_; have nx_ := Aside0.mk (Kd.R_below HO13.out hb_); clear HO13; have HO13 := nx_; clear nx_; have nx_ := Aside0.mk (Kd.S_below HO17.out hb_); clear HO17; have HO17 := nx_; clear nx_; have nx_ := Aside0.mk (Kd.R_below HO22.out hb_); clear HO22; have HO22 := nx_; clear nx_; have nx_ := Aside0.mk (Kd.R_below HO35.out hb_); clear HO35; have HO35 := nx_; clear nx_; have HO39 := Aside0.mk (x_ivS ho0_); clear hb_ ho0_) | ((with_reducible refine gate_callee (f := 39) rfl ?_); refine goesL_ (some 91) rfl rfl Try.func39 (by kernel_rfl) rfl #[.slice A40 r1.length c41, .slice A10 r1.length c11] rfl (by (try simp only [List.map_toArray, List.map_cons, List.map_nil]); first | done | rfl) ?_; (with_reducible refine (laws_eqIntSS.calls ker1 A40 c41 r1 A10 c11 r1 true _ ?side1 ?side2 ?side3 ?side4 FEr1.out).mono ?_); (case side1 => exact (Kd.R_reads' (Kd.S_R HO39.out)).2.2); (case side2 => exact (Kd.R_reads' (Kd.S_R HO39.out)).2.1); (case side3 => exact (Kd.R_reads' (Kd.S_R HO9.out)).2.2); (case side4 => exact (Kd.R_reads' (Kd.S_R HO9.out)).2.1); rintro e w42 ⟨rfl, hd_⟩; have hb_ := hd_.below; refine ⟨_, rfl, ?_⟩; have nx_ := Aside0.mk (below_step HB.out hb_); clear HB; have HB := nx_; clear nx_; have HZw42 := Aside0.mk (Below.size hb_); have nx_ := Aside0.mk (Kd.R_below HO5.out hb_); clear HO5; have HO5 := nx_; clear nx_; have nx_ := Aside0.mk (Kd.S_below HO9.out hb_); clear HO9; have HO9 := nx_; clear nx_; have nx_ := Aside0.mk (Kd.R_below HO13.out hb_); clear HO13; have HO13 := nx_; clear nx_; have nx_ := Aside0.mk (Kd.S_below HO17.out hb_); clear HO17; have HO17 := nx_; clear nx_; have nx_ := Aside0.mk (Kd.R_below HO22.out hb_); clear HO22; have HO22 := nx_; clear nx_; have nx_ := Aside0.mk (Kd.R_below HO35.out hb_); clear HO35; have HO35 := nx_; clear nx_; have nx_ := Aside0.mk (Kd.S_below HO39.out hb_); clear HO39; have HO39 := nx_; clear nx_; clear hb_ hd_) | ((with_reducible refine gate_callee (f := 41) rfl ?_); refine goesL_ (some 100) rfl rfl Try.func41 (by kernel_rfl) rfl #[.slice A18 ym31.length c19, .int .i64 101] rfl (by (try simp only [List.map_toArray, List.map_cons, List.map_nil]); first | done | (rw [FYm31.out] <;> rfl) | rfl) ?_; (with_reducible refine (laws_heldIntSS.calls khm31 A18 c19 ym31 101 m31 _ ?side1 ?side2 FHm31.out).mono ?_); (case side1 => exact (x_rdw (Kd.S_R HO17.out))); (case side2 => exact (x_rcw (Kd.S_R HO17.out) FYm31.out)); rintro e w43 ⟨rfl, hd_⟩; have hb_ := hd_.below; refine ⟨_, rfl, ?_⟩; have nx_ := Aside0.mk (below_step HB.out hb_); clear HB; have HB := nx_; clear nx_; have HZw43 := Aside0.mk (Below.size hb_); have nx_ := Aside0.mk (Kd.R_below HO5.out hb_); clear HO5; have HO5 := nx_; clear nx_; have nx_ := Aside0.mk (Kd.S_below HO9.out hb_); clear HO9; have HO9 := nx_; clear nx_; have nx_ := Aside0.mk (Kd.R_below HO13.out hb_); clear HO13; have HO13 := nx_; clear nx_; have nx_ := Aside0.mk (Kd.S_below HO17.out hb_); clear HO17; have HO17 := nx_; clear nx_; have nx_ := Aside0.mk (Kd.R_below HO22.out hb_); clear HO22; have HO22 := nx_; clear nx_; have nx_ := Aside0.mk (Kd.R_below HO35.out hb_); clear HO35; have HO35 := nx_; clear nx_; have nx_ := Aside0.mk (Kd.S_below HO39.out hb_); clear HO39; have HO39 := nx_; clear nx_; clear hb_ hd_))
    go_ret
    exact ⟨rfl, HB.out⟩

end Go.Proofs.Ytnndolcjljhhcaa.PFnExactReasonCounts
