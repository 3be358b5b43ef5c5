-- Written by a program of the session (wip/xprint) for this claim.
import Derived.Test.YtnndolcjljhhcaaPFnExactCountLeavesx0
import Derived.Test.YtnndolcjljhhcaaPFnExactCountLeavesx1
import Derived.Test.YtnndolcjljhhcaaPFnExactCountLeavesx2
import Derived.Test.YtnndolcjljhhcaaPFnExactCountLeavesx3
import Derived.Test.YtnndolcjljhhcaaPFnExactCountLeavesx4
namespace Go.Proofs.Ytnndolcjljhhcaa.PFnExactCountLeaves
open Go.RowKit Go.Proofs.YtnndolcjljhhcaaW.PrintWords Go.Proofs.YtnndolcjljhhcaaW.PrintLast Go.Proofs.YtnndolcjljhhcaaW.PrintMore Go.Proofs.YtnndolcjljhhcaaX
attribute [local go_sem] max2_int min2_int max_two min_two max_three min_three max_four min_four   -- for this text's walks alone
set_option linter.unusedVariables false
set_option linter.unusedSimpArgs false

/-! ### impl_isTree: function 73 -/
mutual
def impl_isTree.j0 : Nat → List (S94) → Int → Bool → Option (Bool)
  | 0, _, _, _ => none
  | k + 1, x0, x1, x21 => if x21 = true then (some false) else ((impl_pathsOf.f k x0).bind fun t175 => (impl_isTree.l0 k x0 x1 t175 (t175.length : Int) 0))
def impl_isTree.l0 : Nat → List (S94) → Int → List ByteArray → Int → Int → Option (Bool)
  | 0, _, _, _, _, _ => none
  | k + 1, x0, x1, x23, x24, x25 => if x25 < x24 then (if 0 ≤ x25 then (if x25 < (x23.length : Int) then (if x25 < (x0.length : Int) then ((impl_isNode.f k ((rd_T94 x0 x25).f0) ((rd_T94 x0 x25).f1) x1).bind fun t180 => (if t180 = true then (if ((rdOf ByteArray.empty x23 x25).size : Int) > 20 then (some false) else (impl_isTree.l0 k x0 x1 x23 x24 (wrap64 (x25 + 1)))) else (some false))) else (none)) else (none)) else (none)) else (some true)
end
def impl_isTree.f (k : Nat) (l0 : List (S94)) (a1 : Int) : Option (Bool) := (impl_inside.f a1 1 3).bind fun t173 => (if t173 = true then (if (l0.length : Int) > 200 then (impl_isTree.j0 k l0 a1 true) else ((impl_treeEnd.f k l0 0).bind fun t174 => (impl_isTree.j0 k l0 a1 (t174 != (l0.length : Int))))) else (impl_isTree.j0 k l0 a1 true))
theorem impl_isTree.mono_l : ∀ k, (∀ y0 y1 y2, LeO (impl_isTree.j0 k y0 y1 y2) (impl_isTree.j0 (k + 1) y0 y1 y2)) ∧ (∀ y0 y1 y2 y3 y4, LeO (impl_isTree.l0 k y0 y1 y2 y3 y4) (impl_isTree.l0 (k + 1) y0 y1 y2 y3 y4))
  | 0 => ⟨fun _ _ _ r h => by simp [impl_isTree.j0] at h, fun _ _ _ _ _ r h => by simp [impl_isTree.l0] at h⟩
  | k + 1 => by
    obtain ⟨ih0, ih1⟩ := impl_isTree.mono_l k
    refine ⟨?_, ?_⟩
    · intro y0 y1 y2
      unfold impl_isTree.j0
      repeat' first
      | (with_reducible exact ih0 _ _ _)
      | (with_reducible exact ih1 _ _ _ _ _)
      | (with_reducible exact impl_isNode.mono _ _ _ _)
      | (with_reducible exact impl_pathsOf.mono _ _)
      | (with_reducible exact impl_treeEnd.mono _ _ _)
      | (with_reducible exact LeO.refl _)
      | (with_reducible exact LeO.none _)
      | (with_reducible refine LeO.ite ?_ ?_)
      | (with_reducible refine LeO.bind ?_ (fun _ => ?_))
      | exact ih0 _ _ _
      | exact ih1 _ _ _ _ _
      | exact impl_isNode.mono _ _ _ _
      | exact impl_pathsOf.mono _ _
      | exact impl_treeEnd.mono _ _ _
      | exact LeO.none _
      | refine LeO.ite ?_ ?_
      | refine LeO.bind ?_ (fun _ => ?_)
    · intro y0 y1 y2 y3 y4
      unfold impl_isTree.l0
      repeat' first
      | (with_reducible exact ih0 _ _ _)
      | (with_reducible exact ih1 _ _ _ _ _)
      | (with_reducible exact impl_isNode.mono _ _ _ _)
      | (with_reducible exact impl_pathsOf.mono _ _)
      | (with_reducible exact impl_treeEnd.mono _ _ _)
      | (with_reducible exact LeO.refl _)
      | (with_reducible exact LeO.none _)
      | (with_reducible refine LeO.ite ?_ ?_)
      | (with_reducible refine LeO.bind ?_ (fun _ => ?_))
      | exact ih0 _ _ _
      | exact ih1 _ _ _ _ _
      | exact impl_isNode.mono _ _ _ _
      | exact impl_pathsOf.mono _ _
      | exact impl_treeEnd.mono _ _ _
      | exact LeO.none _
      | refine LeO.ite ?_ ?_
      | refine LeO.bind ?_ (fun _ => ?_)
theorem impl_isTree.mono : ∀ a0 a1 k, LeO (impl_isTree.f k a0 a1) (impl_isTree.f (k + 1) a0 a1) := by
  intro a0 a1 k
  obtain ⟨ih0, ih1⟩ := impl_isTree.mono_l k
  unfold impl_isTree.f
  repeat' first
      | (with_reducible exact ih0 _ _ _)
      | (with_reducible exact ih1 _ _ _ _ _)
      | (with_reducible exact impl_isNode.mono _ _ _ _)
      | (with_reducible exact impl_pathsOf.mono _ _)
      | (with_reducible exact impl_treeEnd.mono _ _ _)
      | (with_reducible exact LeO.refl _)
      | (with_reducible exact LeO.none _)
      | (with_reducible refine LeO.ite ?_ ?_)
      | (with_reducible refine LeO.bind ?_ (fun _ => ?_))
      | exact ih0 _ _ _
      | exact ih1 _ _ _ _ _
      | exact impl_isNode.mono _ _ _ _
      | exact impl_pathsOf.mono _ _
      | exact impl_treeEnd.mono _ _ _
      | exact LeO.none _
      | refine LeO.ite ?_ ?_
      | refine LeO.bind ?_ (fun _ => ?_)
set_option maxHeartbeats 8000000 in
set_option maxRecDepth 100000 in
theorem impl_isTree.calls (k : Nat) (A0 : Option Addr) (c0 : Nat) (l0 : List (S94)) (a1 : Int) (r : Bool) (w : World) (hr0 : Kd.C k94 w A0 l0.length l0) (hc0 : l0.length ≤ c0) (h : impl_isTree.f k l0 a1 = some r) :
    Calls Try.prog 73 #[.slice A0 l0.length c0, .int .i64 a1] w fun e w' => e = .returned (.bool r) ∧ Below w.heap.size w w' := by
  have hu94 := Try.underlying94
  have HR0 := Aside0.mk hr0
  have HC0 := Aside0.mk hc0
  clear hr0 hc0
  have HB := Aside0.mk (Below.refl w.heap.size w)
  have H : ((impl_inside.f a1 1 3).bind fun t173 => (if t173 = true then (if (l0.length : Int) > 200 then (impl_isTree.j0 k l0 a1 true) else ((impl_treeEnd.f k l0 0).bind fun t174 => (impl_isTree.j0 k l0 a1 (t174 != (l0.length : Int))))) else (impl_isTree.j0 k l0 a1 true))) = some r := h
  clear h
  have HC3 := Aside0.mk H
  clear H
  go_enter Try.func73, Try.ntmps73
  go_upto_region 1 with (fail)
  go_cut [21] (fun v21 wc => ∃ (kq : Nat) (x21_2 : Bool), v21 = .bool x21_2 ∧ Aside0 (impl_isTree.j0 kq l0 a1 x21_2 = some r) ∧ Aside0 (kq ≤ k) ∧ Aside0 (Below w.heap.size w wc))
  case first =>
    have H := HC3.out
    clear HC3
    replace H := Option.bind_eq_some_iff.mp H
    obtain ⟨t173, A40, H⟩ := H
    replace H : (if t173 = true then (if (l0.length : Int) > 200 then (impl_isTree.j0 k l0 a1 true) else ((impl_treeEnd.f k l0 0).bind fun t174 => (impl_isTree.j0 k l0 a1 (t174 != (l0.length : Int))))) else (impl_isTree.j0 k l0 a1 true)) = some r := H
    have A4 := Aside0.mk A40
    clear A40
    by_cases c5 : t173 = true
    · subst c5
      have H1 : (if (l0.length : Int) > 200 then (impl_isTree.j0 k l0 a1 true) else ((impl_treeEnd.f k l0 0).bind fun t174 => (impl_isTree.j0 k l0 a1 (t174 != (l0.length : Int))))) = some r := by rw [if_pos rfl] at H; exact H
      clear H
      have H := H1
      clear H1
      by_cases c6 : (l0.length : Int) > 200
      · rw [if_pos c6] at H
        have c6b0 : decide (200 < (l0.length : Int)) = true := decide_eq_true c6
        have c6b1 : decide (200 < l0.length) = true := decide_eq_true (by omega)
        clear c6
        (first | rw [c6b0] | (simp only [i64_w, i32_w]; rw [c6b0]) | skip)
        have H' := Aside0.mk H
        clear H
        go_wp2_with (first | ((with_reducible refine gate_callee (f := 74) rfl ?_); refine goesL_ (some 8) rfl rfl Try.func74 (by kernel_rfl) rfl #[.int .i64 a1, .int .i64 1, .int .i64 3] rfl (by (try simp only [List.map_toArray, List.map_cons, List.map_nil]); first | done | rfl | (simp only [List.length_drop, List.length_take]; rfl)) ?_; (with_reducible refine (impl_inside.calls a1 1 3 true _ A4.out).mono ?_); rintro e w' ⟨rfl, ⟨nd, rfl⟩⟩; refine ⟨_, rfl, ?_⟩))
        go_meet
        case rel => exact ⟨_, (true), (by first | rfl | (simp; done) | (simp [*]; done)), H', ⟨by first | omega | exact Nat.le_refl _⟩, ⟨by repeat (first | (with_reducible first | exact HB.out | apply below_alloc | apply pw_below_drewN | apply below_drew1) | exact HB.out)⟩⟩
      · rw [if_neg c6] at H
        have c6b0 : decide (200 < (l0.length : Int)) = false := decide_eq_false c6
        have c6b1 : decide (200 < l0.length) = false := decide_eq_false (by omega)
        clear c6
        (first | rw [c6b0] | (simp only [i64_w, i32_w]; rw [c6b0]) | skip)
        replace H := Option.bind_eq_some_iff.mp H
        obtain ⟨t174, A70, H⟩ := H
        replace H : (impl_isTree.j0 k l0 a1 (t174 != (l0.length : Int))) = some r := H
        have A7 := Aside0.mk A70
        clear A70
        have H' := Aside0.mk H
        clear H
        go_wp2_with (first | ((with_reducible refine gate_callee (f := 74) rfl ?_); refine goesL_ (some 8) rfl rfl Try.func74 (by kernel_rfl) rfl #[.int .i64 a1, .int .i64 1, .int .i64 3] rfl (by (try simp only [List.map_toArray, List.map_cons, List.map_nil]); first | done | rfl | (simp only [List.length_drop, List.length_take]; rfl)) ?_; (with_reducible refine (impl_inside.calls a1 1 3 true _ A4.out).mono ?_); rintro e w' ⟨rfl, ⟨nd, rfl⟩⟩; refine ⟨_, rfl, ?_⟩) | (go_at_call 76; (with_reducible refine (impl_treeEnd.calls k _ _ l0 0 t174 _ ?side1 ?side2 A7.out).mono ?_); (case side1 => repeat (first | exact (Kd.C_below HR0.out (by repeat (first | (with_reducible first | exact HB.out | apply below_alloc | apply pw_below_drewN | apply below_drew1) | exact HB.out))) | (with_reducible refine Kd.C_alloc ?_ _) | (with_reducible refine Kd.C_drewN ?_ _) | (with_reducible refine Kd.C_drew ?_))); (case side2 => exact HC0.out); rintro e w' ⟨rfl, ⟨nd, rfl⟩⟩))
        go_meet
        case rel => exact ⟨_, ((t174 != (l0.length : Int))), (by first | rfl | (simp; done) | (simp [*]; done)), H', ⟨by first | omega | exact Nat.le_refl _⟩, ⟨by repeat (first | (with_reducible first | exact HB.out | apply below_alloc | apply pw_below_drewN | apply below_drew1) | exact HB.out)⟩⟩
    · replace c5 := Bool.eq_false_iff.mpr c5
      subst c5
      have H1 : (impl_isTree.j0 k l0 a1 true) = some r := by rw [if_neg (show ¬ (false = true) by decide)] at H; exact H
      clear H
      have H := H1
      clear H1
      have H' := Aside0.mk H
      clear H
      go_wp2_with (first | ((with_reducible refine gate_callee (f := 74) rfl ?_); refine goesL_ (some 8) rfl rfl Try.func74 (by kernel_rfl) rfl #[.int .i64 a1, .int .i64 1, .int .i64 3] rfl (by (try simp only [List.map_toArray, List.map_cons, List.map_nil]); first | done | rfl | (simp only [List.length_drop, List.length_take]; rfl)) ?_; (with_reducible refine (impl_inside.calls a1 1 3 false _ A4.out).mono ?_); rintro e w' ⟨rfl, ⟨nd, rfl⟩⟩; refine ⟨_, rfl, ?_⟩))
      go_meet
      case rel => exact ⟨_, (true), (by first | rfl | (simp; done) | (simp [*]; done)), H', ⟨by first | omega | exact Nat.le_refl _⟩, ⟨by repeat (first | (with_reducible first | exact HB.out | apply below_alloc | apply pw_below_drewN | apply below_drew1) | exact HB.out)⟩⟩
  case rest =>
    clear HC3
    try clear p2
    try clear c5
    try clear c6
    try clear c6b0
    try clear c6b1
    try clear c7
    obtain ⟨kq, x21_2, rfl, HA, HJ2, HB⟩ := hcut
    cases kq with
    | zero => exact absurd HA.out (by simp [impl_isTree.j0])
    | succ kj2 =>
      have H := HA.out
      clear HA
      simp only [impl_isTree.j0] at H
      by_cases c8 : x21_2 = true
      · subst c8
        have H1 : (some false) = some r := by rw [if_pos rfl] at H; exact H
        clear H
        have H := H1
        clear H1
        obtain rfl := Option.some.inj H
        go_wp2
        go_ret
        exact ⟨by first | rfl | (simp [errW_none, errW_some] <;> rfl) | (simp [*, errW_none, errW_some] <;> rfl), by repeat (first | (with_reducible first | exact HB.out | apply below_alloc | apply pw_below_drewN | apply below_drew1) | exact HB.out)⟩
      · replace c8 := Bool.eq_false_iff.mpr c8
        subst c8
        have H1 : ((impl_pathsOf.f kj2 l0).bind fun t175 => (impl_isTree.l0 kj2 l0 a1 t175 (t175.length : Int) 0)) = some r := by rw [if_neg (show ¬ (false = true) by decide)] at H; exact H
        clear H
        have H := H1
        clear H1
        replace H := Option.bind_eq_some_iff.mp H
        obtain ⟨t175, A90, H⟩ := H
        replace H : (impl_isTree.l0 kj2 l0 a1 t175 (t175.length : Int) 0) = some r := H
        have A9 := Aside0.mk A90
        clear A90
        have H' := Aside0.mk H
        clear H
        go_wp2_with (first | ((with_reducible refine gate_callee (f := 112) rfl ?_); refine goesL_ (some 23) rfl rfl Try.func112 (by kernel_rfl) rfl #[.slice A0 l0.length c0] rfl (by (try simp only [List.map_toArray, List.map_cons, List.map_nil]); first | done | rfl | (simp only [List.length_drop, List.length_take]; rfl)) ?_; (with_reducible refine (impl_pathsOf.calls kj2 _ _ l0 t175 _ ?side1 ?side2 A9.out).mono ?_); (case side1 => repeat (first | exact (Kd.C_below HR0.out HB.out) | (with_reducible refine Kd.C_alloc ?_ _) | (with_reducible refine Kd.C_drewN ?_ _) | (with_reducible refine Kd.C_drew ?_))); (case side2 => exact HC0.out); rintro e w10 ⟨v176, rfl, ho0, hb⟩; refine ⟨_, rfl, ?_⟩; have n0_ := Aside0.mk (Kd.R_lower ho0 (below_size (by repeat (first | (with_reducible first | exact HB.out | apply below_alloc | apply pw_below_drewN | apply below_drew1) | exact HB.out)))); have n1_ := Aside0.mk (below_step (by repeat (first | (with_reducible first | exact HB.out | apply below_alloc | apply pw_below_drewN | apply below_drew1) | exact HB.out)) hb); clear HB; have HO177 := n0_; have HB := n1_; clear n0_ n1_; (try clear hb); (try clear hb2); (try clear hk); (try clear hi); (try clear ho0); obtain ⟨Ao11, co11, eo11⟩ := Kd.R_slice HO177.out; subst eo11))
        go_loopg [25] kj2 (fun kq v25 w' => ∃ (x25_2 : Int), v25 = .int .i64 x25_2 ∧ Aside0 (impl_isTree.l0 kq l0 a1 t175 (t175.length : Int) x25_2 = some r) ∧ Aside0 (kq ≤ kj2) ∧ Aside0 (Kd.R Kd.string 9 w' w.heap.size (fun _ => True) (.slice Ao11 t175.length co11) t175) ∧ Aside0 (Below w.heap.size w w'))
        case atStart => exact ⟨(0), (by first | rfl | (simp; done) | (simp [*]; done)), H', ⟨Nat.le_refl _⟩, ⟨by (with_reducible repeat (first | apply Kd.R_alloc | apply Kd.R_drewN | apply Kd.R_drew)); exact HO177.out⟩, ⟨by repeat (first | (with_reducible first | exact HB.out | apply below_alloc | apply pw_below_drewN | apply below_drew1) | exact HB.out)⟩⟩
        case round =>
          clear H'
          try clear c1
          try clear p2
          try clear c5
          try clear c6
          try clear c6b0
          try clear c6b1
          try clear c7
          try clear c8
          try clear c11
          try clear p2
          obtain ⟨x25_2, rfl, HA, HK2, HO_23, HB⟩ := hrel
          cases gk with
          | zero => exact absurd HA.out (by simp [impl_isTree.l0])
          | succ k2 =>
            have H := HA.out
            clear HA
            simp only [impl_isTree.l0] at H
            by_cases c12 : x25_2 < (t175.length : Int)
            · rw [if_pos c12] at H
              have c12b0 : decide (x25_2 < (t175.length : Int)) = true := decide_eq_true c12
              clear c12
              by_cases c13 : 0 ≤ x25_2
              · rw [if_pos c13] at H
                have c13b0 : decide (0 ≤ x25_2) = true := decide_eq_true c13
                clear c13
                by_cases c14 : x25_2 < (t175.length : Int)
                · rw [if_pos c14] at H
                  have c14b0 : decide (x25_2 < (t175.length : Int)) = true := decide_eq_true c14
                  clear c14
                  by_cases c15 : x25_2 < (l0.length : Int)
                  · rw [if_pos c15] at H
                    have c15b0 : decide (x25_2 < (l0.length : Int)) = true := decide_eq_true c15
                    clear c15
                    replace H := Option.bind_eq_some_iff.mp H
                    obtain ⟨t180, A160, H⟩ := H
                    replace H : (if t180 = true then (if ((rdOf ByteArray.empty t175 x25_2).size : Int) > 20 then (some false) else (impl_isTree.l0 k2 l0 a1 t175 (t175.length : Int) (wrap64 (x25_2 + 1)))) else (some false)) = some r := H
                    have A16 := Aside0.mk A160
                    clear A160
                    by_cases c17 : t180 = true
                    · subst c17
                      have H1 : (if ((rdOf ByteArray.empty t175 x25_2).size : Int) > 20 then (some false) else (impl_isTree.l0 k2 l0 a1 t175 (t175.length : Int) (wrap64 (x25_2 + 1)))) = some r := by rw [if_pos rfl] at H; exact H
                      clear H
                      have H := H1
                      clear H1
                      by_cases c18 : ((rdOf ByteArray.empty t175 x25_2).size : Int) > 20
                      · rw [if_pos c18] at H
                        have c18b0 : decide (20 < ((rdOf ByteArray.empty t175 x25_2).size : Int)) = true := decide_eq_true c18
                        have c18b1 : decide (20 < (rdOf ByteArray.empty t175 x25_2).size) = true := decide_eq_true (by omega)
                        clear c18
                        obtain rfl := Option.some.inj H
                        have p178 : 0 ≤ (x25_2 : Int) := of_decide_eq_true (by first | (with_reducible assumption) | assumption)
                        have q178 : x25_2 < (t175.length : Int) := of_decide_eq_true (by first | (with_reducible assumption) | assumption)
                        obtain ⟨ad178, e178, hx178_0⟩ := Kd.at_string (Kd.R_reads' HO_23.out).2.2 x25_2 p178 q178
                        cases e178
                        replace p178 := eq_true p178
                        replace q178 := eq_true q178
                        have p179 : 0 ≤ (x25_2 : Int) := of_decide_eq_true (by first | (with_reducible assumption) | assumption)
                        have q179 : x25_2 < (l0.length : Int) := of_decide_eq_true (by first | (with_reducible assumption) | assumption)
                        obtain ⟨ad179, e179, hx179_0, hx179_1⟩ := at_T94 HR0.out x25_2 p179 q179
                        cases e179
                        replace hx179_0 := (HB.out.cell (World.block_lt_of_cell? w _ hx179_0)).trans hx179_0
                        replace hx179_1 := (HB.out.cell (World.block_lt_of_cell? w _ hx179_1)).trans hx179_1
                        replace p179 := eq_true p179
                        replace q179 := eq_true q179
                        go_wp2_with (first | ((with_reducible refine gate_callee (f := 113) rfl ?_); refine goesL_ (some 35) rfl rfl Try.func113 (by kernel_rfl) rfl #[.agg #[.int .i64 ((rd_T94 l0 x25_2).f0), .int .i64 ((rd_T94 l0 x25_2).f1)], .int .i64 a1] rfl (by (try simp only [List.map_toArray, List.map_cons, List.map_nil]); first | done | rfl | (simp only [List.length_drop, List.length_take]; rfl)) ?_; (with_reducible refine (impl_isNode.calls k2 ((rd_T94 l0 x25_2).f0) ((rd_T94 l0 x25_2).f1) a1 true _ A16.out).mono ?_); rintro e w19 ⟨rfl, hb⟩; refine ⟨_, rfl, ?_⟩; have n0_ := Aside0.mk (Kd.R_below (by (with_reducible repeat (first | apply Kd.R_alloc | apply Kd.R_drewN | apply Kd.R_drew)); exact HO_23.out) hb); have n1_ := Aside0.mk (below_step (by repeat (first | (with_reducible first | exact HB.out | apply below_alloc | apply pw_below_drewN | apply below_drew1) | exact HB.out)) hb); clear HO_23; clear HB; have HO_23 := n0_; have HB := n1_; clear n0_ n1_; (try clear hb); (try clear hb2); (try clear hk); (try clear hi)))
                        go_ret
                        exact ⟨by first | rfl | (simp [errW_none, errW_some] <;> rfl) | (simp [*, errW_none, errW_some] <;> rfl), by repeat (first | (with_reducible first | exact HB.out | apply below_alloc | apply pw_below_drewN | apply below_drew1) | exact HB.out)⟩
                      · rw [if_neg c18] at H
                        have c18b0 : decide (20 < ((rdOf ByteArray.empty t175 x25_2).size : Int)) = false := decide_eq_false c18
                        have c18b1 : decide (20 < (rdOf ByteArray.empty t175 x25_2).size) = false := decide_eq_false (by omega)
                        clear c18
                        have H' := Aside0.mk H
                        clear H
                        have p178 : 0 ≤ (x25_2 : Int) := of_decide_eq_true (by first | (with_reducible assumption) | assumption)
                        have q178 : x25_2 < (t175.length : Int) := of_decide_eq_true (by first | (with_reducible assumption) | assumption)
                        obtain ⟨ad178, e178, hx178_0⟩ := Kd.at_string (Kd.R_reads' HO_23.out).2.2 x25_2 p178 q178
                        cases e178
                        replace p178 := eq_true p178
                        replace q178 := eq_true q178
                        have p179 : 0 ≤ (x25_2 : Int) := of_decide_eq_true (by first | (with_reducible assumption) | assumption)
                        have q179 : x25_2 < (l0.length : Int) := of_decide_eq_true (by first | (with_reducible assumption) | assumption)
                        obtain ⟨ad179, e179, hx179_0, hx179_1⟩ := at_T94 HR0.out x25_2 p179 q179
                        cases e179
                        replace hx179_0 := (HB.out.cell (World.block_lt_of_cell? w _ hx179_0)).trans hx179_0
                        replace hx179_1 := (HB.out.cell (World.block_lt_of_cell? w _ hx179_1)).trans hx179_1
                        replace p179 := eq_true p179
                        replace q179 := eq_true q179
                        go_wp2_with (first | ((with_reducible refine gate_callee (f := 113) rfl ?_); refine goesL_ (some 35) rfl rfl Try.func113 (by kernel_rfl) rfl #[.agg #[.int .i64 ((rd_T94 l0 x25_2).f0), .int .i64 ((rd_T94 l0 x25_2).f1)], .int .i64 a1] rfl (by (try simp only [List.map_toArray, List.map_cons, List.map_nil]); first | done | rfl | (simp only [List.length_drop, List.length_take]; rfl)) ?_; (with_reducible refine (impl_isNode.calls k2 ((rd_T94 l0 x25_2).f0) ((rd_T94 l0 x25_2).f1) a1 true _ A16.out).mono ?_); rintro e w20 ⟨rfl, hb⟩; refine ⟨_, rfl, ?_⟩; have n0_ := Aside0.mk (Kd.R_below (by (with_reducible repeat (first | apply Kd.R_alloc | apply Kd.R_drewN | apply Kd.R_drew)); exact HO_23.out) hb); have n1_ := Aside0.mk (below_step (by repeat (first | (with_reducible first | exact HB.out | apply below_alloc | apply pw_below_drewN | apply below_drew1) | exact HB.out)) hb); clear HO_23; clear HB; have HO_23 := n0_; have HB := n1_; clear n0_ n1_; (try clear hb); (try clear hb2); (try clear hk); (try clear hi)))
                        go_roundg k2
                        case measure => have := HJ2.out; have := HK2.out; omega
                        case rel => exact ⟨(wrap64 (x25_2 + 1)), (by first | rfl | (simp; done) | (simp [*]; done)), H', ⟨by have := HJ2.out; have := HK2.out; omega⟩, ⟨by (with_reducible repeat (first | apply Kd.R_alloc | apply Kd.R_drewN | apply Kd.R_drew)); exact HO_23.out⟩, ⟨by repeat (first | (with_reducible first | exact HB.out | apply below_alloc | apply pw_below_drewN | apply below_drew1) | exact HB.out)⟩⟩
                    · replace c17 := Bool.eq_false_iff.mpr c17
                      subst c17
                      have H1 : (some false) = some r := by rw [if_neg (show ¬ (false = true) by decide)] at H; exact H
                      clear H
                      have H := H1
                      clear H1
                      obtain rfl := Option.some.inj H
                      have p178 : 0 ≤ (x25_2 : Int) := of_decide_eq_true (by first | (with_reducible assumption) | assumption)
                      have q178 : x25_2 < (t175.length : Int) := of_decide_eq_true (by first | (with_reducible assumption) | assumption)
                      obtain ⟨ad178, e178, hx178_0⟩ := Kd.at_string (Kd.R_reads' HO_23.out).2.2 x25_2 p178 q178
                      cases e178
                      replace p178 := eq_true p178
                      replace q178 := eq_true q178
                      have p179 : 0 ≤ (x25_2 : Int) := of_decide_eq_true (by first | (with_reducible assumption) | assumption)
                      have q179 : x25_2 < (l0.length : Int) := of_decide_eq_true (by first | (with_reducible assumption) | assumption)
                      obtain ⟨ad179, e179, hx179_0, hx179_1⟩ := at_T94 HR0.out x25_2 p179 q179
                      cases e179
                      replace hx179_0 := (HB.out.cell (World.block_lt_of_cell? w _ hx179_0)).trans hx179_0
                      replace hx179_1 := (HB.out.cell (World.block_lt_of_cell? w _ hx179_1)).trans hx179_1
                      replace p179 := eq_true p179
                      replace q179 := eq_true q179
                      go_wp2_with (first | ((with_reducible refine gate_callee (f := 113) rfl ?_); refine goesL_ (some 35) rfl rfl Try.func113 (by kernel_rfl) rfl #[.agg #[.int .i64 ((rd_T94 l0 x25_2).f0), .int .i64 ((rd_T94 l0 x25_2).f1)], .int .i64 a1] rfl (by (try simp only [List.map_toArray, List.map_cons, List.map_nil]); first | done | rfl | (simp only [List.length_drop, List.length_take]; rfl)) ?_; (with_reducible refine (impl_isNode.calls k2 ((rd_T94 l0 x25_2).f0) ((rd_T94 l0 x25_2).f1) a1 false _ A16.out).mono ?_); rintro e w21 ⟨rfl, hb⟩; refine ⟨_, rfl, ?_⟩; have n0_ := Aside0.mk (Kd.R_below (by (with_reducible repeat (first | apply Kd.R_alloc | apply Kd.R_drewN | apply Kd.R_drew)); exact HO_23.out) hb); have n1_ := Aside0.mk (below_step (by repeat (first | (with_reducible first | exact HB.out | apply below_alloc | apply pw_below_drewN | apply below_drew1) | exact HB.out)) hb); clear HO_23; clear HB; have HO_23 := n0_; have HB := n1_; clear n0_ n1_; (try clear hb); (try clear hb2); (try clear hk); (try clear hi)))
                      go_ret
                      exact ⟨by first | rfl | (simp [errW_none, errW_some] <;> rfl) | (simp [*, errW_none, errW_some] <;> rfl), by repeat (first | (with_reducible first | exact HB.out | apply below_alloc | apply pw_below_drewN | apply below_drew1) | exact HB.out)⟩
                  · rw [if_neg c15] at H
                    exact absurd H (by simp)
                · rw [if_neg c14] at H
                  exact absurd H (by simp)
              · rw [if_neg c13] at H
                exact absurd H (by simp)
            · rw [if_neg c12] at H
              have c12b0 : decide (x25_2 < (t175.length : Int)) = false := decide_eq_false c12
              clear c12
              obtain rfl := Option.some.inj H
              go_wp2
              go_ret
              exact ⟨by first | rfl | (simp [errW_none, errW_some] <;> rfl) | (simp [*, errW_none, errW_some] <;> rfl), by repeat (first | (with_reducible first | exact HB.out | apply below_alloc | apply pw_below_drewN | apply below_drew1) | exact HB.out)⟩

/-! ### impl_CountLeaves: function 30 -/
def impl_CountLeaves.l0 : Nat → List Int → List (S94) → Int → Int → Option (List Int × Bool)
  | 0, _, _, _, _ => none
  | k + 1, x6, x14, x15, x16 => if x16 < x15 then (if 0 ≤ x16 then (if x16 < (x14.length : Int) then (if ((rd_T94 x14 x16).f0) = 0 then (impl_CountLeaves.l0 k x6 x14 x15 (wrap64 (x16 + 1))) else (if 0 ≤ (wrap64 (((rd_T94 x14 x16).f0) - 1)) then (if (wrap64 (((rd_T94 x14 x16).f0) - 1)) < (x6.length : Int) then (impl_CountLeaves.l0 k (x6.set ((wrap64 (((rd_T94 x14 x16).f0) - 1)) : Int).toNat (wrap64 ((rd x6 (wrap64 (((rd_T94 x14 x16).f0) - 1))) + 1))) x14 x15 (wrap64 (x16 + 1))) else (none)) else (none))) else (none)) else (none)) else (some (x6, true))
def impl_CountLeaves.f (k : Nat) (l0 : List (S94)) (a1 : Int) : Option (List Int × Bool) := (impl_isTree.f k l0 a1).bind fun t181 => (if t181 = true then (if 3 ≤ 35184372088832 then (impl_CountLeaves.l0 k (List.replicate 3 0) l0 (l0.length : Int) 0) else (none)) else (some (([] : List Int), false)))
theorem impl_CountLeaves.mono_l : ∀ k, (∀ y0 y1 y2 y3, LeO (impl_CountLeaves.l0 k y0 y1 y2 y3) (impl_CountLeaves.l0 (k + 1) y0 y1 y2 y3))
  | 0 => fun _ _ _ _ r h => by simp [impl_CountLeaves.l0] at h
  | k + 1 => by
    have ih0 := impl_CountLeaves.mono_l k
    · intro y0 y1 y2 y3
      unfold impl_CountLeaves.l0
      repeat' first
      | (with_reducible exact ih0 _ _ _ _)
      | (with_reducible exact impl_isTree.mono _ _ _)
      | (with_reducible exact LeO.refl _)
      | (with_reducible exact LeO.none _)
      | (with_reducible refine LeO.ite ?_ ?_)
      | (with_reducible refine LeO.bind ?_ (fun _ => ?_))
      | exact ih0 _ _ _ _
      | exact impl_isTree.mono _ _ _
      | exact LeO.none _
      | refine LeO.ite ?_ ?_
      | refine LeO.bind ?_ (fun _ => ?_)
theorem impl_CountLeaves.mono : ∀ a0 a1 k, LeO (impl_CountLeaves.f k a0 a1) (impl_CountLeaves.f (k + 1) a0 a1) := by
  intro a0 a1 k
  have ih0 := impl_CountLeaves.mono_l k
  unfold impl_CountLeaves.f
  repeat' first
      | (with_reducible exact ih0 _ _ _ _)
      | (with_reducible exact impl_isTree.mono _ _ _)
      | (with_reducible exact LeO.refl _)
      | (with_reducible exact LeO.none _)
      | (with_reducible refine LeO.ite ?_ ?_)
      | (with_reducible refine LeO.bind ?_ (fun _ => ?_))
      | exact ih0 _ _ _ _
      | exact impl_isTree.mono _ _ _
      | exact LeO.none _
      | refine LeO.ite ?_ ?_
      | refine LeO.bind ?_ (fun _ => ?_)
set_option maxHeartbeats 8000000 in
set_option maxRecDepth 100000 in
theorem impl_CountLeaves.calls (k : Nat) (A0 : Option Addr) (c0 : Nat) (l0 : List (S94)) (a1 : Int) (r1 : List Int) (r2 : Bool) (w : World) (hr0 : Kd.C k94 w A0 l0.length l0) (hc0 : l0.length ≤ c0) (h : impl_CountLeaves.f k l0 a1 = some (r1, r2)) :
    Calls Try.prog 30 #[.slice A0 l0.length c0, .int .i64 a1] w fun e w' => ∃ v0_ : Value, e = .returned (.tuple #[v0_, .bool r2]) ∧ Kd.R (Kd.int .i64) 3 w' w.heap.size (fun _ => True) v0_ r1 ∧ Below w.heap.size w w' := by
  have hu94 := Try.underlying94
  have HR0 := Aside0.mk hr0
  have HC0 := Aside0.mk hc0
  clear hr0 hc0
  have HB := Aside0.mk (Below.refl w.heap.size w)
  have H : ((impl_isTree.f k l0 a1).bind fun t181 => (if t181 = true then (if 3 ≤ 35184372088832 then (impl_CountLeaves.l0 k (List.replicate 3 0) l0 (l0.length : Int) 0) else (none)) else (some (([] : List Int), false)))) = some (r1, r2) := h
  clear h
  replace H := Option.bind_eq_some_iff.mp H
  obtain ⟨t181, A30, H⟩ := H
  replace H : (if t181 = true then (if 3 ≤ 35184372088832 then (impl_CountLeaves.l0 k (List.replicate 3 0) l0 (l0.length : Int) 0) else (none)) else (some (([] : List Int), false))) = some (r1, r2) := H
  have A3 := Aside0.mk A30
  clear A30
  by_cases c4 : t181 = true
  · subst c4
    have H1 : (if 3 ≤ 35184372088832 then (impl_CountLeaves.l0 k (List.replicate 3 0) l0 (l0.length : Int) 0) else (none)) = some (r1, r2) := by rw [if_pos rfl] at H; exact H
    clear H
    have H := H1
    clear H1
    by_cases c5 : 3 ≤ 35184372088832
    · rw [if_pos c5] at H
      have c5b0 := eq_true c5
      have c5b1 : decide (3 ≤ 35184372088832) = true := decide_eq_true c5
      clear c5
      obtain ⟨y182, hy182⟩ : ∃ y_ : List Int, y_ = (List.replicate 3 0) := ⟨_, rfl⟩
      replace H : (impl_CountLeaves.l0 k y182 l0 (l0.length : Int) 0) = some (r1, r2) := by first | (rw [hy182]; with_reducible exact H) | (have H2_ := (Option.bind_some _ _).symm.trans H; rw [hy182]; with_reducible exact H2_) | (have H2_ := (Option.bind_some _ _).symm.trans H; with_reducible exact H2_) | with_reducible exact H | (rw [hy182]; exact H) | exact H
      have Ny182 := Aside0.mk hy182
      clear hy182
      have H' := Aside0.mk H
      clear H
      go_enter Try.func30, Try.ntmps30
      go_wp2_with (first | ((with_reducible refine gate_callee (f := 73) rfl ?_); refine goesL_ (some 11) rfl rfl Try.func73 (by kernel_rfl) rfl #[.slice A0 l0.length c0, .int .i64 a1] rfl (by (try simp only [List.map_toArray, List.map_cons, List.map_nil]); first | done | rfl | (simp only [List.length_drop, List.length_take]; rfl)) ?_; (with_reducible refine (impl_isTree.calls k _ _ l0 a1 true _ ?side1 ?side2 A3.out).mono ?_); (case side1 => repeat (first | exact HR0.out | (with_reducible refine Kd.C_alloc ?_ _) | (with_reducible refine Kd.C_drewN ?_ _) | (with_reducible refine Kd.C_drew ?_))); (case side2 => exact HC0.out); rintro e w6 ⟨rfl, hb⟩; refine ⟨_, rfl, ?_⟩; have n0_ := Aside0.mk (below_step (by repeat (first | (with_reducible first | exact HB.out | apply below_alloc | apply pw_below_drewN | apply below_drew1) | exact HB.out)) hb); clear HB; have HB := n0_; clear n0_; (try clear hb); (try clear hb2); (try clear hk); (try clear hi)) | ((with_reducible refine gate_dst (N := 13) rfl ?_); refine Kd.R_make (Kd.int .i64) _ 3 rfl (N := 13) rfl 22 _ _ rfl 3 rfl rfl Try.underlying22 (.int .i64 0) 8 info3 rfl (by decide) (by omega) 0 (ok := fun _ => True) (okp := fun _ => True) rfl (fun _ hk => hk) trivial (by omega) (by omega) (Below.refl _ _) (Nat.le_refl _) ?_; intro v183 w7 ho8 hb hg_ hnew_; clear hg_ hnew_; (first | rw [← Ny182.out] at ho8 | (simp only [Int.reduceToNat] at ho8; rw [← Ny182.out] at ho8)); have n0_ := Aside0.mk (Kd.R_lower ho8 (below_size (by repeat (first | (with_reducible first | exact HB.out | apply below_alloc | apply pw_below_drewN | apply below_drew1) | exact HB.out)))); have n1_ := Aside0.mk (below_step (by repeat (first | (with_reducible first | exact HB.out | apply below_alloc | apply pw_below_drewN | apply below_drew1) | exact HB.out)) hb); clear HB; have HO184 := n0_; have HB := n1_; clear n0_ n1_; clear hb ho8))
      go_loopg [16] k (fun kq v16 w' => ∃ (x6_1 : List Int) (x16_1 : Int), v16 = .int .i64 x16_1 ∧ Aside0 (impl_CountLeaves.l0 kq x6_1 l0 (l0.length : Int) x16_1 = some (r1, r2)) ∧ Aside0 (kq ≤ k) ∧ Aside0 (Kd.R (Kd.int .i64) 3 w' w.heap.size (fun _ => True) v183 x6_1) ∧ Aside0 (Below w.heap.size w w'))
      case atStart => exact ⟨(y182), (0), (by first | rfl | (simp; done) | (simp [*]; done)), H', ⟨Nat.le_refl _⟩, ⟨by (with_reducible repeat (first | apply Kd.R_alloc | apply Kd.R_drewN | apply Kd.R_drew)); exact HO184.out⟩, ⟨by repeat (first | (with_reducible first | exact HB.out | apply below_alloc | apply pw_below_drewN | apply below_drew1) | exact HB.out)⟩⟩
      case round =>
        clear H'
        try clear p2
        try clear c3
        try clear c4
        try clear c5
        try clear c5b0
        try clear c5b1
        try clear c7
        obtain ⟨x6_1, x16_1, rfl, HA, HK1, HO_6, HB⟩ := hrel
        cases gk with
        | zero => exact absurd HA.out (by simp [impl_CountLeaves.l0])
        | succ k1 =>
          have H := HA.out
          clear HA
          simp only [impl_CountLeaves.l0] at H
          by_cases c9 : x16_1 < (l0.length : Int)
          · rw [if_pos c9] at H
            have c9b0 : decide (x16_1 < (l0.length : Int)) = true := decide_eq_true c9
            clear c9
            by_cases c10 : 0 ≤ x16_1
            · rw [if_pos c10] at H
              have c10b0 : decide (0 ≤ x16_1) = true := decide_eq_true c10
              clear c10
              by_cases c11 : x16_1 < (l0.length : Int)
              · rw [if_pos c11] at H
                have c11b0 : decide (x16_1 < (l0.length : Int)) = true := decide_eq_true c11
                clear c11
                by_cases c12 : ((rd_T94 l0 x16_1).f0) = 0
                · rw [if_pos c12] at H
                  have c12b0 : (((rd_T94 l0 x16_1).f0) == 0) = true := beq_iff_eq.mpr c12
                  have c12b1 : (((rd_T94 l0 x16_1).f0) != 0) = false := bne_eq_false_iff_eq.mpr c12
                  clear c12
                  have H' := Aside0.mk H
                  clear H
                  have p185 : 0 ≤ (x16_1 : Int) := of_decide_eq_true (by first | (with_reducible assumption) | assumption)
                  have q185 : x16_1 < (l0.length : Int) := of_decide_eq_true (by first | (with_reducible assumption) | assumption)
                  obtain ⟨ad185, e185, hx185_0, hx185_1⟩ := at_T94 HR0.out x16_1 p185 q185
                  cases e185
                  replace hx185_0 := (HB.out.cell (World.block_lt_of_cell? w _ hx185_0)).trans hx185_0
                  replace hx185_1 := (HB.out.cell (World.block_lt_of_cell? w _ hx185_1)).trans hx185_1
                  replace p185 := eq_true p185
                  replace q185 := eq_true q185
                  go_wp2_with (first | ((with_reducible refine gate_dst (N := 8) rfl ?_); refine box_event ?hg (N := 8) ?hd (cs := #[.int .i64 0, .int .i64 0]) (t := 94) ?hr ?_; (case hd => rfl); (case hg => rfl); (case hr => first | (go_simp; done) | (go_simp; rfl)); intro gb186 hg w13 hbox hb; have n0_ := Aside0.mk (Kd.R_below (by (with_reducible repeat (first | apply Kd.R_alloc | apply Kd.R_drewN | apply Kd.R_drew)); exact HO_6.out) hb); have n1_ := Aside0.mk (below_step (by repeat (first | (with_reducible first | exact HB.out | apply below_alloc | apply pw_below_drewN | apply below_drew1) | exact HB.out)) hb); have n2_ := Aside0.mk (hbox); have n3_ := Aside0.mk ((by rw [hg]; exact (below_size (by repeat (first | (with_reducible first | exact HB.out | apply below_alloc | apply pw_below_drewN | apply below_drew1) | exact HB.out))) : w.heap.size ≤ gb186)); have n4_ := Aside0.mk ((by rw [hg]; exact (below_size (by repeat (first | (with_reducible first | exact HB.out | apply below_alloc | apply pw_below_drewN | apply below_drew1) | exact HB.out))) : w.heap.size ≤ gb186)); clear HO_6; clear HB; have HO_6 := n0_; have HB := n1_; have BK186 := n2_; have GW186 := n3_; have GE186 := n4_; clear n0_ n1_ n2_ n3_ n4_; clear hb hbox hg; have hcz14_0 : w13.cell? ⟨gb186, 0, none⟩ = some (.int .i64 0) := (blk_cell BK186.out 0).trans rfl; have hcz14_1 : w13.cell? ⟨gb186, 1, none⟩ = some (.int .i64 0) := (blk_cell BK186.out 1).trans rfl; have hfz14_0 := blk_frozen BK186.out 0; have hfz14_1 := blk_frozen BK186.out 1))
                  go_roundg k1
                  case measure => have := HK1.out; omega
                  case rel => exact ⟨(x6_1), (wrap64 (x16_1 + 1)), (by first | rfl | (simp; done) | (simp [*]; done)), H', ⟨by have := HK1.out; omega⟩, ⟨by (with_reducible repeat (first | apply Kd.R_alloc | apply Kd.R_drewN | apply Kd.R_drew)); exact Kd.R_mono (Kd.R_far (p := ⟨gb186, 1, none⟩) (Kd.R_far (p := ⟨gb186, 0, none⟩) (Kd.R_types HO_6.out BK186.out (by decide)) (fun _ hk => hk.2) (.int .i64 ((rd_T94 l0 x16_1).f0))) (fun _ hk => hk.2) (.int .i64 ((rd_T94 l0 x16_1).f1))) (fun _ hk => trivial)⟩, ⟨by repeat (first | (with_reducible first | exact HB.out | apply below_alloc | apply pw_below_drewN | apply below_drew1 | refine below_set ?_ GE186.out) | exact HB.out)⟩⟩
                · rw [if_neg c12] at H
                  have c12b0 : (((rd_T94 l0 x16_1).f0) == 0) = false := beq_eq_false_iff_ne.mpr c12
                  have c12b1 : (((rd_T94 l0 x16_1).f0) != 0) = true := bne_iff_ne.mpr c12
                  obtain ⟨ji15, hji15⟩ : ∃ j_ : Int, (wrap64 (((rd_T94 l0 x16_1).f0) - 1)) = j_ := ⟨_, rfl⟩
                  replace H : (if 0 ≤ (ji15) then (if (ji15) < (x6_1.length : Int) then (impl_CountLeaves.l0 k1 (x6_1.set ((ji15) : Int).toNat (wrap64 ((rd x6_1 (ji15)) + 1))) l0 (l0.length : Int) (wrap64 (x16_1 + 1))) else (none)) else (none)) = some (r1, r2) := by first | (rw [hji15] at H; exact H) | (simp only [hji15] at H ⊢; exact H)
                  have hji15w : (IntKind.i64.wrap (((rd_T94 l0 x16_1).f0) - 1)) = ji15 := (i64_w _).trans hji15
                  by_cases c16 : 0 ≤ (ji15)
                  · rw [if_pos c16] at H
                    have c16b0 : decide (0 ≤ (ji15)) = true := decide_eq_true c16
                    clear c16
                    by_cases c17 : (ji15) < (x6_1.length : Int)
                    · rw [if_pos c17] at H
                      have c17b0 : decide ((ji15) < (x6_1.length : Int)) = true := decide_eq_true c17
                      clear c17
                      obtain ⟨y188, hy188⟩ : ∃ y_ : List Int, y_ = (x6_1.set ((ji15) : Int).toNat (wrap64 ((rd x6_1 (ji15)) + 1))) := ⟨_, rfl⟩
                      replace H : (impl_CountLeaves.l0 k1 y188 l0 (l0.length : Int) (wrap64 (x16_1 + 1))) = some (r1, r2) := by first | (rw [hy188]; with_reducible exact H) | (have H2_ := (Option.bind_some _ _).symm.trans H; rw [hy188]; with_reducible exact H2_) | (have H2_ := (Option.bind_some _ _).symm.trans H; with_reducible exact H2_) | with_reducible exact H | (rw [hy188]; exact H) | exact H
                      have Ny188 := Aside0.mk hy188
                      clear hy188
                      have H' := Aside0.mk H
                      clear H
                      have p185 : 0 ≤ (x16_1 : Int) := of_decide_eq_true (by first | (with_reducible assumption) | assumption)
                      have q185 : x16_1 < (l0.length : Int) := of_decide_eq_true (by first | (with_reducible assumption) | assumption)
                      obtain ⟨ad185, e185, hx185_0, hx185_1⟩ := at_T94 HR0.out x16_1 p185 q185
                      cases e185
                      replace hx185_0 := (HB.out.cell (World.block_lt_of_cell? w _ hx185_0)).trans hx185_0
                      replace hx185_1 := (HB.out.cell (World.block_lt_of_cell? w _ hx185_1)).trans hx185_1
                      replace p185 := eq_true p185
                      replace q185 := eq_true q185
                      go_wp2_with (first | ((with_reducible refine gate_dst (N := 8) rfl ?_); refine box_event ?hg (N := 8) ?hd (cs := #[.int .i64 0, .int .i64 0]) (t := 94) ?hr ?_; (case hd => rfl); (case hg => rfl); (case hr => first | (go_simp; done) | (go_simp; rfl)); intro gb186 hg w19 hbox hb; have n0_ := Aside0.mk (Kd.R_below (by (with_reducible repeat (first | apply Kd.R_alloc | apply Kd.R_drewN | apply Kd.R_drew)); exact HO_6.out) hb); have n1_ := Aside0.mk (below_step (by repeat (first | (with_reducible first | exact HB.out | apply below_alloc | apply pw_below_drewN | apply below_drew1) | exact HB.out)) hb); have n2_ := Aside0.mk (hbox); have n3_ := Aside0.mk ((by rw [hg]; exact (below_size (by repeat (first | (with_reducible first | exact HB.out | apply below_alloc | apply pw_below_drewN | apply below_drew1) | exact HB.out))) : w.heap.size ≤ gb186)); have n4_ := Aside0.mk ((by rw [hg]; exact (below_size (by repeat (first | (with_reducible first | exact HB.out | apply below_alloc | apply pw_below_drewN | apply below_drew1) | exact HB.out))) : w.heap.size ≤ gb186)); clear HO_6; clear HB; have HO_6 := n0_; have HB := n1_; have BK186 := n2_; have GW186 := n3_; have GE186 := n4_; clear n0_ n1_ n2_ n3_ n4_; clear hb hbox hg; have hcz20_0 : w19.cell? ⟨gb186, 0, none⟩ = some (.int .i64 0) := (blk_cell BK186.out 0).trans rfl; have hcz20_1 : w19.cell? ⟨gb186, 1, none⟩ = some (.int .i64 0) := (blk_cell BK186.out 1).trans rfl; have hfz20_0 := blk_frozen BK186.out 0; have hfz20_1 := blk_frozen BK186.out 1) | ((with_reducible refine gate_store (t := 94) (p := 8) rfl ?_); refine store_event (t := 94) (p := 8) (v := ?vo_w21) (w1 := ((w19.setCell ⟨gb186, 0, none⟩ (.int .i64 ((rd_T94 l0 x16_1).f0))).setCell ⟨gb186, 1, none⟩ (.int .i64 ((rd_T94 l0 x16_1).f1)))) ?hg ?ho ?hn ?hr ?_; (case ho => rfl); (case hg => rfl); (case hn => rfl); (case hr => first | (go_simp; done) | (go_simp; rfl)); intro w21 hw; have n0_ : Aside0 (Kd.R (Kd.int .i64) 3 w21 w.heap.size (fun _ => True) v183 x6_1) := ⟨(by rw [hw]; exact (by (with_reducible repeat (first | apply Kd.R_alloc | apply Kd.R_drewN | apply Kd.R_drew)); exact Kd.R_mono (Kd.R_far (p := ⟨gb186, 1, none⟩) (Kd.R_far (p := ⟨gb186, 0, none⟩) (Kd.R_types HO_6.out BK186.out (by decide)) (fun _ hk => hk.2) (.int .i64 ((rd_T94 l0 x16_1).f0))) (fun _ hk => hk.2) (.int .i64 ((rd_T94 l0 x16_1).f1))) (fun _ hk => trivial)))⟩; have n1_ : Aside0 (w21.heap[gb186]? = some (.cells #[.int .i64 ((rd_T94 l0 x16_1).f0), .int .i64 ((rd_T94 l0 x16_1).f1)] 94 (0, 0))) := ⟨(by rw [hw]; exact (by (with_reducible repeat (first | refine blk_drewN ?_ _ | refine blk_drew ?_ | refine blk_alloc ?_ _)); refine blk_put (cs := #[.int .i64 ((rd_T94 l0 x16_1).f0), .int .i64 0]) ?_ 1 _ rfl; (with_reducible repeat (first | refine blk_drewN ?_ _ | refine blk_drew ?_ | refine blk_alloc ?_ _)); refine blk_put (cs := #[.int .i64 0, .int .i64 0]) ?_ 0 _ rfl; (with_reducible repeat (first | refine blk_drewN ?_ _ | refine blk_drew ?_ | refine blk_alloc ?_ _)); exact BK186.out))⟩; have n2_ : Aside0 (Below w.heap.size w w21) := ⟨(by rw [hw]; exact (by repeat (first | (with_reducible first | exact HB.out | apply below_alloc | apply pw_below_drewN | apply below_drew1 | refine below_set ?_ GE186.out) | exact HB.out)))⟩; clear hw; clear HO_6; clear BK186; clear HB; have HO_6 := n0_; have BK186 := n1_; have HB := n2_; clear n0_ n1_ n2_; have hcz22_0 : w21.cell? ⟨gb186, 0, none⟩ = some (.int .i64 ((rd_T94 l0 x16_1).f0)) := (blk_cell BK186.out 0).trans rfl; have hcz22_1 : w21.cell? ⟨gb186, 1, none⟩ = some (.int .i64 ((rd_T94 l0 x16_1).f1)) := (blk_cell BK186.out 1).trans rfl; have hfz22_0 := blk_frozen BK186.out 0; have hfz22_1 := blk_frozen BK186.out 1; obtain ⟨Ao23, co23, eo23⟩ := Kd.R_slice HO_6.out; subst eo23; have p187 : 0 ≤ ((ji15) : Int) := of_decide_eq_true (by first | (with_reducible assumption) | assumption); have q187 : (ji15) < (x6_1.length : Int) := of_decide_eq_true (by first | (with_reducible assumption) | assumption); obtain ⟨ad187, e187, hx187_0⟩ := Kd.at_int (Kd.R_reads' HO_6.out).2.2 (ji15) p187 q187; cases e187; replace p187 := eq_true p187; replace q187 := eq_true q187; have p18 : 0 ≤ ((ji15) : Int) := of_decide_eq_true (by first | (with_reducible assumption) | assumption); have q18 : ((ji15) : Int) < ((x6_1.length : Int) : Int) := of_decide_eq_true (by first | (with_reducible assumption) | assumption); obtain ⟨go18, co18, eo18, gb18, gl18, cl18, HG18⟩ := Kd.R_form HO_6.out (by omega); (first | cases eo18 | (injection eo18 with ea_ en_ ec_; (first | subst ea_ | (injection ea_ with ea_; subst ea_)); subst ec_; clear en_)); have GB18 := Aside0.mk gb18; have GG18 := Aside0.mk HG18; clear gb18 gl18 HG18; (first | simp only [add_plain] at hx187_0 | skip); obtain ⟨hx18_0, hf18_0⟩ := Kd.R_celln 0 HO_6.out ((ji15) : Int) p18 q18; replace p18 := eq_true p18; replace q18 := eq_true q18; obtain ⟨hy24_, hz24_⟩ := Kd.R_celln 0 HO_6.out ((ji15) : Int) (of_decide_eq_true (by first | (with_reducible assumption) | assumption)) (of_decide_eq_true (by first | (with_reducible assumption) | assumption)); have HP24 := Kd.R_putg HO_6.out ((ji15) : Int) (wrap64 ((rd x6_1 (ji15)) + 1))) | ((with_reducible refine gate_store (t := 3) (p := 30) rfl ?_); refine store_event (t := 3) (p := 30) (v := ?vo_w25) (w1 := (w21.setCell ⟨go18, ((ji15) : Int).toNat, none⟩ (.int .i64 (wrap64 ((rd x6_1 (ji15)) + 1))))) ?hg ?ho ?hn ?hr ?_; (case ho => rfl); (case hg => rfl); (case hn => rfl); (case hr => first | (go_simp; done) | (go_simp; rfl)); intro w25 hw; have hg : w21.grownBy w25 (some go18) := (by rw [hw]; exact HP24.2); have hp_ : Kd.R (Kd.int .i64) 3 w25 w.heap.size (fun _ => True) (.slice (some ⟨go18, 0, none⟩) x6_1.length co23) y188 := (by rw [hw, Ny188.out]; exact HP24.1); clear HP24; have n0_ := Aside0.mk (hp_); have n1_ := Aside0.mk (blk_grown (g := gb186) (o := .cells #[.int .i64 ((rd_T94 l0 x16_1).f0), .int .i64 ((rd_T94 l0 x16_1).f1)] 94 (0, 0)) (by (with_reducible repeat (first | refine blk_drewN ?_ _ | refine blk_drew ?_ | refine blk_alloc ?_ _)); exact BK186.out) hg (Kd.R_ne HO_6.out BK186.out (by decide))); have n2_ := Aside0.mk ((by rw [hw]; exact below_set (HB.out) GB18.out : Below w.heap.size w w25)); clear HO_6; clear BK186; clear HB; have HO_6 := n0_; have BK186 := n1_; have HB := n2_; clear n0_ n1_ n2_; clear hg hw hp_))
                      go_roundg k1
                      case measure => have := HK1.out; omega
                      case rel => exact ⟨(y188), (wrap64 (x16_1 + 1)), (by first | rfl | (simp; done) | (simp [*]; done)), H', ⟨by have := HK1.out; omega⟩, ⟨by (with_reducible repeat (first | apply Kd.R_alloc | apply Kd.R_drewN | apply Kd.R_drew)); exact HO_6.out⟩, ⟨by repeat (first | (with_reducible first | exact HB.out | apply below_alloc | apply pw_below_drewN | apply below_drew1 | refine below_set ?_ GE186.out) | exact HB.out)⟩⟩
                    · rw [if_neg c17] at H
                      exact absurd H (by simp)
                  · rw [if_neg c16] at H
                    exact absurd H (by simp)
              · rw [if_neg c11] at H
                exact absurd H (by simp)
            · rw [if_neg c10] at H
              exact absurd H (by simp)
          · rw [if_neg c9] at H
            have c9b0 : decide (x16_1 < (l0.length : Int)) = false := decide_eq_false c9
            clear c9
            simp only [Option.some.injEq, Prod.mk.injEq] at H
            obtain ⟨rfl, rfl⟩ := H
            go_wp2
            go_ret2
            exact ⟨_, by first | rfl | (simp [errW_none, errW_some] <;> rfl) | (simp [*, errW_none, errW_some] <;> rfl), by (with_reducible repeat (first | apply Kd.R_alloc | apply Kd.R_drewN | apply Kd.R_drew)); exact HO_6.out, by repeat (first | (with_reducible first | exact HB.out | apply below_alloc | apply pw_below_drewN | apply below_drew1) | exact HB.out)⟩
    · rw [if_neg c5] at H
      exact absurd H (by simp)
  · replace c4 := Bool.eq_false_iff.mpr c4
    subst c4
    have H1 : (some (([] : List Int), false)) = some (r1, r2) := by rw [if_neg (show ¬ (false = true) by decide)] at H; exact H
    clear H
    have H := H1
    clear H1
    simp only [Option.some.injEq, Prod.mk.injEq] at H
    obtain ⟨rfl, rfl⟩ := H
    go_enter Try.func30, Try.ntmps30
    go_wp2_with (first | ((with_reducible refine gate_callee (f := 73) rfl ?_); refine goesL_ (some 11) rfl rfl Try.func73 (by kernel_rfl) rfl #[.slice A0 l0.length c0, .int .i64 a1] rfl (by (try simp only [List.map_toArray, List.map_cons, List.map_nil]); first | done | rfl | (simp only [List.length_drop, List.length_take]; rfl)) ?_; (with_reducible refine (impl_isTree.calls k _ _ l0 a1 false _ ?side1 ?side2 A3.out).mono ?_); (case side1 => repeat (first | exact HR0.out | (with_reducible refine Kd.C_alloc ?_ _) | (with_reducible refine Kd.C_drewN ?_ _) | (with_reducible refine Kd.C_drew ?_))); (case side2 => exact HC0.out); rintro e w26 ⟨rfl, hb⟩; refine ⟨_, rfl, ?_⟩; have n0_ := Aside0.mk (below_step (by repeat (first | (with_reducible first | exact HB.out | apply below_alloc | apply pw_below_drewN | apply below_drew1) | exact HB.out)) hb); clear HB; have HB := n0_; clear n0_; (try clear hb); (try clear hb2); (try clear hk); (try clear hi)))
    go_ret2
    exact ⟨_, by first | rfl | (simp [errW_none, errW_some] <;> rfl) | (simp [*, errW_none, errW_some] <;> rfl), by first | exact Kd.R_nil _ _ _ _ _ | exact Kd.N_nil _ _ _ _ _ | exact Kd.V_nil _ _ _ _ _ | exact Kd.Q_nil _ _ _ _ _ | exact Kd.S_nil _ _ _ _ _, by repeat (first | (with_reducible first | exact HB.out | apply below_alloc | apply pw_below_drewN | apply below_drew1) | exact HB.out)⟩

/-! ### laws_FnExactCountLeaves: function 5 -/
/-- THE ONE PURE STATEMENT of laws_FnExactCountLeaves. -/
def laws_FnExactCountLeaves.Pure : Prop := ∀ (l0 : List (S94)) (a1 : Int), (okL ok94) l0 → (okI .i64) a1 → l0.length ≤ 1000000 → ∃ (r1 : List Int) (r2 : Bool), (∃ k, spec_CountLeaves.f k l0 a1 = some (r1, r2)) ∧ (∃ k, impl_CountLeaves.f k l0 a1 = some (r1, r2)) ∧ r1.length ≤ 1099511627776
set_option maxHeartbeats 8000000 in
set_option maxRecDepth 100000 in
theorem laws_FnExactCountLeaves.walk (P : laws_FnExactCountLeaves.Pure) (A0 : Option Addr) (c0 : Nat) (l0 : List (S96)) (a1 : Int) (w : World) (hr0 : Kd.C k96 w A0 l0.length l0) (hc0 : l0.length ≤ c0) (z0 : (okL ok96) l0) (z1 : l0.length * 16 ≤ 140737488351232) (z2 : (okI .i64) a1) :
    Calls Try.prog 5 #[.slice A0 l0.length c0, .int .i64 a1] w fun e w' => e = .returned (.bool true) ∧ Below w.heap.size w w' := by
  have Z0 := Aside0.mk z0
  have Z1 := Aside0.mk z1
  have Z2 := Aside0.mk z2
  have HR0 := Aside0.mk hr0
  have HC0 := Aside0.mk hc0
  clear hr0 hc0
  clear z0 z1 z2
  have HB := Aside0.mk (Below.refl w.heap.size w)
  obtain ⟨s2, fs_, gs_⟩ := x_szNodeS l0 1000000 (by skip; omega) (by skip; omega) Z1.out
  have FSs2 := Aside0.mk fs_
  have GSs2 := Aside0.mk gs_
  clear fs_ gs_
  by_cases q3 : s2 < 0
  · have q3b : decide (s2 < 0) = true := decide_eq_true q3
    have Hq3 := Aside0.mk q3
    clear q3
    go_enter Try.func5, Try.ntmps5
    go_wp2_with (first | ((with_reducible refine gate_callee (f := 21) rfl ?_); refine goesL_ (some 18) rfl rfl Try.func21 (by kernel_rfl) rfl #[.slice A0 l0.length c0, .int .i64 1000000] rfl (by (try simp only [List.map_toArray, List.map_cons, List.map_nil]); first | done | rfl) ?_; (with_reducible refine (laws_szNodeS.calls A0 c0 l0 1000000 s2 _ ?side1 ?side2 FSs2.out).mono ?_); (case side1 => exact (Kd.C_below HR0.out HB.out)); (case side2 => exact HC0.out); rintro e w1 ⟨rfl, hd_⟩; have hb_ := hd_.below; refine ⟨_, rfl, ?_⟩; have nx_ := Aside0.mk (below_step HB.out hb_); clear HB; have HB := nx_; clear nx_; have HZw1 := Aside0.mk (Below.size hb_); clear hb_ hd_))
    go_ret
    exact ⟨rfl, HB.out⟩
  · have q3b : decide (s2 < 0) = false := decide_eq_false q3
    have Hq3 := Aside0.mk q3
    clear q3
    obtain ⟨g0, hg0⟩ : ∃ g, g = l0.map x_cvNodeS := ⟨_, rfl⟩
    have HL0 : Aside0 (l0.length ≤ 1000000) := ⟨by have h0_ := GSs2.out; have h1_ := Hq3.out; omega⟩
    have HG0 := Aside0.mk (show l0.length = g0.length by rw [hg0, List.length_map])
    have HM0 := Aside0.mk hg0
    clear hg0
    obtain ⟨f0f, ⟨kf0f, hf0f⟩, hn0f, hlt0f, hroom0f, hmx0f⟩ := x_fullNodeS l0 HL0.out false
    rw [← HM0.out] at hlt0f
    have FT0f := Aside0.mk hf0f
    have NE0f := Aside0.mk (show f0f = [] → l0.length = 0 from fun h => by rw [hn0f h]; rfl)
    have LA0f := Aside0.mk hlt0f.1
    have LB0f := Aside0.mk hlt0f.2
    have RO0f := Aside0.mk hroom0f
    have MX0f := Aside0.mk hmx0f
    clear hf0f hn0f hlt0f hroom0f hmx0f
    obtain ⟨r1, r2, ⟨ks, hs⟩, ⟨ki, hi⟩, hlr1⟩ := P g0 a1 (x_okNodeS HM0.out Z0.out) Z2.out (by have h0_ := GSs2.out; have h1_ := Hq3.out; have hg0_ := HG0.out; omega)
    have FS := Aside0.mk hs
    have FI := Aside0.mk hi
    clear hs hi
    have HLr1 := Aside0.mk hlr1
    clear hlr1
    obtain ⟨ker1, fe_⟩ := x_eqIntS r1 HLr1.out
    have FEr1 := Aside0.mk fe_
    clear fe_
    have FR0 := Aside0.mk (x_roomeq g0.length)
    have FN0 : Aside0 ((g0.length : Int) + ((x_room g0.length : Nat) : Int) = ((f0f.length : Nat) : Int)) := ⟨by have h1_ := RO0f.out rfl; have h2_ := HG0.out; rw [h1_, h2_]; omega⟩
    obtain ⟨m27, ym27, ⟨kmm27, fm_⟩, fy_, fz_⟩ := x_mkNodeS g0 (by have h_ := HL0.out; have h2_ := HG0.out; omega) 101 (by skip; omega) (by have h0_ := HG0.out; have h1_ := HL0.out; omega)
    have FMm27 := Aside0.mk fm_
    have FYm27 := Aside0.mk fy_
    have FZm27 := Aside0.mk fz_
    clear fm_ fy_ fz_
    have hp28 : decide (m27 < 0) = false := decide_eq_false (by have h0_ := FZm27.out; omega)
    obtain ⟨m31, ym31, ⟨kmm31, fm_⟩, fy_, ⟨khm31, fh_⟩, fz_⟩ := x_markIntS r1 HLr1.out 101 (by have h0_ := FZm27.out; omega) (by have h0_ := FZm27.out; have h1_ := HG0.out; have h2_ := HL0.out; omega)
    have FMm31 := Aside0.mk fm_
    have FYm31 := Aside0.mk fy_
    have FHm31 := Aside0.mk fh_
    have FZm31 := Aside0.mk fz_
    clear fm_ fy_ fh_ fz_
    have hp33 : decide (m31 < 0) = false := decide_eq_false (by have h0_ := FZm27.out; have h1_ := FZm31.out; omega)
    obtain ⟨f0t, ⟨kf0t, hf0t⟩, hn0t, hlt0t, hroom0t, hmx0t⟩ := x_fullNodeS l0 HL0.out true
    rw [← HM0.out] at hlt0t
    have FT0t := Aside0.mk hf0t
    have NE0t := Aside0.mk (show f0t = [] → l0.length = 0 from fun h => by rw [hn0t h]; rfl)
    have LA0t := Aside0.mk hlt0t.1
    have LB0t := Aside0.mk hlt0t.2
    have RO0t := Aside0.mk hroom0t
    have MX0t := Aside0.mk hmx0t
    clear hf0t hn0t hlt0t hroom0t hmx0t
    have hp44 : decide (m31 < 0) = false := decide_eq_false (by have h0_ := FZm27.out; have h1_ := FZm31.out; omega)
    go_enter Try.func5, Try.ntmps5
    go_wp2_with (first | ((with_reducible refine gate_callee (f := 21) rfl ?_); refine goesL_ (some 18) rfl rfl Try.func21 (by kernel_rfl) rfl #[.slice A0 l0.length c0, .int .i64 1000000] rfl (by (try simp only [List.map_toArray, List.map_cons, List.map_nil]); first | done | rfl) ?_; (with_reducible refine (laws_szNodeS.calls A0 c0 l0 1000000 s2 _ ?side1 ?side2 FSs2.out).mono ?_); (case side1 => exact (Kd.C_below HR0.out HB.out)); (case side2 => exact HC0.out); rintro e w1 ⟨rfl, hd_⟩; have hb_ := hd_.below; refine ⟨_, rfl, ?_⟩; have nx_ := Aside0.mk (below_step HB.out hb_); clear HB; have HB := nx_; clear nx_; have HZw1 := Aside0.mk (Below.size hb_); clear hb_ hd_) | ((with_reducible refine gate_callee (f := 23) rfl ?_); refine goesL_ (some 23) rfl rfl Try.func23 (by kernel_rfl) rfl #[.slice A0 l0.length c0, .bool false] rfl (by (try simp only [List.map_toArray, List.map_cons, List.map_nil]); first | done | rfl) ?_; (with_reducible refine (laws_toNodeS.calls kf0f A0 c0 l0 false f0f _ ?side1 ?side2 FT0f.out).mono ?_); (case side1 => exact (Kd.C_below HR0.out HB.out)); (case side2 => exact HC0.out); rintro e w4 ⟨v0_, v1_, rfl, hv_, ho_, hb_⟩; refine ⟨_, rfl, ?_⟩; obtain ⟨A6, c7, rfl, ho2_⟩ := x_to hv_ ho_ HG0.out NE0f.out; have nx_ := Aside0.mk (below_step HB.out hb_); clear HB; have HB := nx_; clear nx_; have HZw4 := Aside0.mk (Below.size hb_); have HO5 := Aside0.mk (x_iv ho2_); clear hb_ ho_ hv_ ho2_) | ((with_reducible refine gate_callee (f := 29) rfl ?_); refine goesL_ (some 25) rfl rfl Try.func29 (by kernel_rfl) rfl #[.slice A6 g0.length c7, .int .i64 a1] rfl (by (try simp only [List.map_toArray, List.map_cons, List.map_nil]); first | done | rfl) ?_; (with_reducible refine (spec_CountLeaves.calls ks A6 c7 g0 a1 r1 r2 _ ?side1 ?side2 FS.out).mono ?_); (case side1 => exact (x_rd HO5.out LA0f.out LB0f.out)); (case side2 => exact (x_rc HO5.out LA0f.out)); rintro e w8 ⟨v0_, rfl, ho0_, hb_⟩; refine ⟨_, rfl, ?_⟩; obtain ⟨A10, c11, rfl⟩ := Kd.R_slice ho0_; have nx_ := Aside0.mk (below_step HB.out hb_); clear HB; have HB := nx_; clear nx_; have HZw8 := Aside0.mk (Below.size hb_); have nx_ := Aside0.mk (Kd.R_below HO5.out hb_); clear HO5; have HO5 := nx_; clear nx_; have HO9 := Aside0.mk (x_iv ho0_); clear hb_ ho0_) | ((with_reducible refine gate_callee (f := 23) rfl ?_); refine goesL_ (some 29) rfl rfl Try.func23 (by kernel_rfl) rfl #[.slice A0 l0.length c0, .bool false] rfl (by (try simp only [List.map_toArray, List.map_cons, List.map_nil]); first | done | rfl) ?_; (with_reducible refine (laws_toNodeS.calls kf0f A0 c0 l0 false f0f _ ?side1 ?side2 FT0f.out).mono ?_); (case side1 => exact (Kd.C_below HR0.out HB.out)); (case side2 => exact HC0.out); rintro e w12 ⟨v0_, v1_, rfl, hv_, ho_, hb_⟩; refine ⟨_, rfl, ?_⟩; obtain ⟨A14, c15, rfl, ho2_⟩ := x_to hv_ ho_ HG0.out NE0f.out; have nx_ := Aside0.mk (below_step HB.out hb_); clear HB; have HB := nx_; clear nx_; have HZw12 := Aside0.mk (Below.size hb_); have nx_ := Aside0.mk (Kd.R_below HO5.out hb_); clear HO5; have HO5 := nx_; clear nx_; have nx_ := Aside0.mk (Kd.R_below HO9.out hb_); clear HO9; have HO9 := nx_; clear nx_; have HO13 := Aside0.mk (x_iv ho2_); clear hb_ ho_ hv_ ho2_) | ((with_reducible refine gate_callee (f := 30) rfl ?_); refine goesL_ (some 33) rfl rfl Try.func30 (by kernel_rfl) rfl #[.slice A14 g0.length c15, .int .i64 a1] rfl (by (try simp only [List.map_toArray, List.map_cons, List.map_nil]); first | done | rfl) ?_; (with_reducible refine (impl_CountLeaves.calls ki A14 c15 g0 a1 r1 r2 _ ?side1 ?side2 FI.out).mono ?_); (case side1 => exact (x_rd HO13.out LA0f.out LB0f.out)); (case side2 => exact (x_rc HO13.out LA0f.out)); rintro e w16 ⟨v0_, rfl, ho0_, hb_⟩; refine ⟨_, rfl, ?_⟩; obtain ⟨A18, c19, rfl⟩ := Kd.R_slice ho0_; have nx_ := Aside0.mk (below_step HB.out hb_); clear HB; have HB := nx_; clear nx_; have HZw16 := Aside0.mk (Below.size hb_); have nx_ := Aside0.mk (Kd.R_below HO5.out hb_); clear HO5; have HO5 := nx_; clear nx_; have nx_ := Aside0.mk (Kd.R_below HO9.out hb_); clear HO9; have HO9 := nx_; clear nx_; have nx_ := Aside0.mk (Kd.R_below HO13.out hb_); clear HO13; have HO13 := nx_; clear nx_; have HO17 := Aside0.mk (x_iv ho0_); clear hb_ ho0_) | ((with_reducible refine gate_callee (f := 17) rfl ?_); refine goesL_ (some 38) rfl rfl Try.func17 (by kernel_rfl) rfl #[.slice A18 r1.length c19, .slice A10 r1.length c11] rfl (by (try simp only [List.map_toArray, List.map_cons, List.map_nil]); first | done | rfl) ?_; (with_reducible refine (laws_eqIntS.calls ker1 A18 c19 r1 A10 c11 r1 true _ ?side1 ?side2 ?side3 ?side4 FEr1.out).mono ?_); (case side1 => exact (Kd.R_reads' HO17.out).2.2); (case side2 => exact (Kd.R_reads' HO17.out).2.1); (case side3 => exact (Kd.R_reads' HO9.out).2.2); (case side4 => exact (Kd.R_reads' HO9.out).2.1); rintro e w20 ⟨rfl, hd_⟩; have hb_ := hd_.below; refine ⟨_, rfl, ?_⟩; have nx_ := Aside0.mk (below_step HB.out hb_); clear HB; have HB := nx_; clear nx_; have HZw20 := Aside0.mk (Below.size hb_); have nx_ := Aside0.mk (Kd.R_below HO5.out hb_); clear HO5; have HO5 := nx_; clear nx_; have nx_ := Aside0.mk (Kd.R_below HO9.out hb_); clear HO9; have HO9 := nx_; clear nx_; have nx_ := Aside0.mk (Kd.R_below HO13.out hb_); clear HO13; have HO13 := nx_; clear nx_; have nx_ := Aside0.mk (Kd.R_below HO17.out hb_); clear HO17; have HO17 := nx_; clear nx_; clear hb_ hd_) | ((with_reducible refine gate_callee (f := 23) rfl ?_); refine goesL_ (some 47) rfl rfl Try.func23 (by kernel_rfl) rfl #[.slice A0 l0.length c0, .bool false] rfl (by (try simp only [List.map_toArray, List.map_cons, List.map_nil]); first | done | rfl) ?_; (with_reducible refine (laws_toNodeS.calls kf0f A0 c0 l0 false f0f _ ?side1 ?side2 FT0f.out).mono ?_); (case side1 => exact (Kd.C_below HR0.out HB.out)); (case side2 => exact HC0.out); rintro e w21 ⟨v0_, v1_, rfl, hv_, ho_, hb_⟩; refine ⟨_, rfl, ?_⟩; obtain ⟨A23, c24, rfl, ho2_⟩ := x_to hv_ ho_ HG0.out NE0f.out; have nx_ := Aside0.mk (below_step HB.out hb_); clear HB; have HB := nx_; clear nx_; have HZw21 := Aside0.mk (Below.size hb_); have nx_ := Aside0.mk (Kd.R_below HO5.out hb_); clear HO5; have HO5 := nx_; clear nx_; have nx_ := Aside0.mk (Kd.R_below HO9.out hb_); clear HO9; have HO9 := nx_; clear nx_; have nx_ := Aside0.mk (Kd.R_below HO13.out hb_); clear HO13; have HO13 := nx_; clear nx_; have nx_ := Aside0.mk (Kd.R_below HO17.out hb_); clear HO17; have HO17 := nx_; clear nx_; have HO22 := Aside0.mk (x_iv ho2_); clear hb_ ho_ hv_ ho2_) | ((with_reducible refine gate_callee (f := 26) rfl ?_); refine goesL_ (some 48) rfl rfl Try.func26 (by kernel_rfl) rfl #[.slice A14 g0.length c15, .slice A23 g0.length c24] rfl (by (try simp only [List.map_toArray, List.map_cons, List.map_nil]); first | done | rfl) ?_; (with_reducible refine (laws_intactNodeS.calls g0.length A14 c15 A23 c24 f0f _ _ ?side1 ?side2 ?side3 ?side4 FR0.out FN0.out (by have h_ := MX0f.out; omega)).mono ?_); (case side1 => exact (Kd.R_reads' HO13.out).2.2); (case side2 => exact (Kd.R_reads' HO13.out).2.1); (case side3 => exact (Kd.R_reads' HO22.out).2.2); (case side4 => exact (Kd.R_reads' HO22.out).2.1); rintro e w25 ⟨rfl, hd_⟩; have hb_ := hd_; refine ⟨_, rfl, ?_⟩; have nx_ := Aside0.mk (below_step HB.out hb_); clear HB; have HB := nx_; clear nx_; have HZw25 := Aside0.mk (Below.size hb_); have nx_ := Aside0.mk (Kd.R_below HO5.out hb_); clear HO5; have HO5 := nx_; clear nx_; have nx_ := Aside0.mk (Kd.R_below HO9.out hb_); clear HO9; have HO9 := nx_; clear nx_; have nx_ := Aside0.mk (Kd.R_below HO13.out hb_); clear HO13; have HO13 := nx_; clear nx_; have nx_ := Aside0.mk (Kd.R_below HO17.out hb_); clear HO17; have HO17 := nx_; clear nx_; have nx_ := Aside0.mk (Kd.R_below HO22.out hb_); clear HO22; have HO22 := nx_; clear nx_; clear hb_ hd_) | ((with_reducible refine gate_callee (f := 27) rfl ?_); refine goesL_ (some 52) rfl rfl Try.func27 (by kernel_rfl) rfl #[.slice A14 g0.length c15, .int .i64 101] rfl (by (try simp only [List.map_toArray, List.map_cons, List.map_nil]); first | done | rfl) ?_; (with_reducible refine (laws_markNodeS.calls kmm27 (fun k_ => w8.heap.size ≤ k_ ∧ k_ < w12.heap.size) (.slice A14 g0.length c15) g0 101 m27 ym27 w _ ?side1 ?side2 FMm27.out).mono ?_); (case side1 => exact HB.out); (case side2 => exact Kd.R_lower (x_rt HO13.out LA0f.out LB0f.out) (by have hw1_ := HZw1.out; have hw4_ := HZw4.out; have hw8_ := HZw8.out; omega)); rintro e w26 ⟨rfl, ho_, hb_, hk_⟩; refine ⟨_, rfl, ?_⟩; have nx_ := Aside0.mk (x_off HO5.out hk_ (.inl (by have hw8_ := HZw8.out; omega))); clear HO5; have HO5 := nx_; clear nx_; have nx_ := Aside0.mk (x_off HO9.out hk_ (.inl (by omega))); clear HO9; have HO9 := nx_; clear nx_; have nx_ := Aside0.mk (x_off HO17.out hk_ (.inr (by omega))); clear HO17; have HO17 := nx_; clear nx_; have nx_ := Aside0.mk (x_off HO22.out hk_ (.inr (by have hw16_ := HZw16.out; have hw20_ := HZw20.out; omega))); clear HO22; have HO22 := nx_; clear nx_; have nx_ := Aside0.mk (x_own rfl (x_rt HO13.out LA0f.out LB0f.out) ho_); clear HO13; have HO13 := nx_; clear nx_; clear HB; have HB := Aside0.mk hb_; have HZw26 := Aside0.mk hk_.1; clear hb_ ho_ hk_) | (go_at_call 17; (with_reducible refine (laws_eqIntS.calls ker1 A18 c19 r1 A10 c11 r1 true _ ?side1 ?side2 ?side3 ?side4 FEr1.out).mono ?_); (case side1 => exact (Kd.R_reads' HO17.out).2.2); (case side2 => exact (Kd.R_reads' HO17.out).2.1); (case side3 => exact (Kd.R_reads' HO9.out).2.2); (case side4 => exact (Kd.R_reads' HO9.out).2.1); rintro e w29 ⟨rfl, hd_⟩; have hb_ := hd_.below; have nx_ := Aside0.mk (below_step HB.out hb_); clear HB; have HB := nx_; clear nx_; have HZw29 := Aside0.mk (Below.size hb_); have nx_ := Aside0.mk (Kd.R_below HO5.out hb_); clear HO5; have HO5 := nx_; clear nx_; have nx_ := Aside0.mk (Kd.R_below HO9.out hb_); clear HO9; have HO9 := nx_; clear nx_; have nx_ := Aside0.mk (Kd.R_below HO13.out hb_); clear HO13; have HO13 := nx_; clear nx_; have nx_ := Aside0.mk (Kd.R_below HO17.out hb_); clear HO17; have HO17 := nx_; clear nx_; have nx_ := Aside0.mk (Kd.R_below HO22.out hb_); clear HO22; have HO22 := nx_; clear nx_; clear hb_ hd_) | ((with_reducible refine gate_callee (f := 19) rfl ?_); refine goesL_ (some 68) rfl rfl Try.func19 (by kernel_rfl) rfl #[.slice A18 r1.length c19, .int .i64 101] rfl (by (try simp only [List.map_toArray, List.map_cons, List.map_nil]); first | done | rfl) ?_; (with_reducible refine (laws_markIntS.calls kmm31 (fun k_ => w12.heap.size ≤ k_ ∧ k_ < w16.heap.size) (.slice A18 r1.length c19) r1 101 m31 ym31 w _ ?side1 ?side2 FMm31.out).mono ?_); (case side1 => exact HB.out); (case side2 => exact Kd.R_lower HO17.out (by have hw1_ := HZw1.out; have hw4_ := HZw4.out; have hw8_ := HZw8.out; have hw12_ := HZw12.out; omega)); rintro e w30 ⟨rfl, ho_, hb_, hk_⟩; refine ⟨_, rfl, ?_⟩; have nx_ := Aside0.mk (x_off HO5.out hk_ (.inl (by have hw8_ := HZw8.out; have hw12_ := HZw12.out; omega))); clear HO5; have HO5 := nx_; clear nx_; have nx_ := Aside0.mk (x_off HO9.out hk_ (.inl (by have hw12_ := HZw12.out; omega))); clear HO9; have HO9 := nx_; clear nx_; have nx_ := Aside0.mk (x_off HO13.out hk_ (.inl (by omega))); clear HO13; have HO13 := nx_; clear nx_; have nx_ := Aside0.mk (x_off HO22.out hk_ (.inr (by have hw20_ := HZw20.out; omega))); clear HO22; have HO22 := nx_; clear nx_; have nx_ := Aside0.mk (x_own rfl HO17.out ho_); clear HO17; have HO17 := nx_; clear nx_; clear HB; have HB := Aside0.mk hb_; have HZw30 := Aside0.mk hk_.1; clear hb_ ho_ hk_) | ((with_reducible refine gate_callee (f := 20) rfl ?_); refine goesL_ (some 71) rfl rfl Try.func20 (by kernel_rfl) rfl #[.slice A18 ym31.length c19, .int .i64 101] rfl (by (try simp only [List.map_toArray, List.map_cons, List.map_nil]); first | done | (rw [FYm31.out] <;> rfl) | rfl) ?_; (with_reducible refine (laws_heldIntS.calls khm31 A18 c19 ym31 101 m31 _ ?side1 ?side2 FHm31.out).mono ?_); (case side1 => exact (x_rdw HO17.out)); (case side2 => exact (x_rcw HO17.out FYm31.out)); rintro e w32 ⟨rfl, hd_⟩; have hb_ := hd_.below; refine ⟨_, rfl, ?_⟩; have nx_ := Aside0.mk (below_step HB.out hb_); clear HB; have HB := nx_; clear nx_; have HZw32 := Aside0.mk (Below.size hb_); have nx_ := Aside0.mk (Kd.R_below HO5.out hb_); clear HO5; have HO5 := nx_; clear nx_; have nx_ := Aside0.mk (Kd.R_below HO9.out hb_); clear HO9; have HO9 := nx_; clear nx_; have nx_ := Aside0.mk (Kd.R_below HO13.out hb_); clear HO13; have HO13 := nx_; clear nx_; have nx_ := Aside0.mk (Kd.R_below HO17.out hb_); clear HO17; have HO17 := nx_; clear nx_; have nx_ := Aside0.mk (Kd.R_below HO22.out hb_); clear HO22; have HO22 := nx_; clear nx_; clear hb_ hd_) | ((with_reducible refine gate_callee (f := 23) rfl ?_); refine goesL_ (some 79) rfl rfl Try.func23 (by kernel_rfl) rfl #[.slice A0 l0.length c0, .bool true] rfl (by (try simp only [List.map_toArray, List.map_cons, List.map_nil]); first | done | rfl) ?_; (with_reducible refine (laws_toNodeS.calls kf0t A0 c0 l0 true f0t _ ?side1 ?side2 FT0t.out).mono ?_); (case side1 => exact (Kd.C_below HR0.out HB.out)); (case side2 => exact HC0.out); rintro e w34 ⟨v0_, v1_, rfl, hv_, ho_, hb_⟩; refine ⟨_, rfl, ?_⟩; obtain ⟨A36, c37, rfl, ho2_⟩ := x_to hv_ ho_ HG0.out NE0t.out; have nx_ := Aside0.mk (below_step HB.out hb_); clear HB; have HB := nx_; clear nx_; have HZw34 := Aside0.mk (Below.size hb_); have nx_ := Aside0.mk (Kd.R_below HO5.out hb_); clear HO5; have HO5 := nx_; clear nx_; have nx_ := Aside0.mk (Kd.R_below HO9.out hb_); clear HO9; have HO9 := nx_; clear nx_; have nx_ := Aside0.mk (Kd.R_below HO13.out hb_); clear HO13; have HO13 := nx_; clear nx_; have nx_ := Aside0.mk (Kd.R_below HO17.out hb_); clear HO17; have HO17 := nx_; clear nx_; have nx_ := Aside0.mk (Kd.R_below HO22.out hb_); clear HO22; have HO22 := nx_; clear nx_; have HO35 := Aside0.mk (x_iv ho2_); clear hb_ ho_ hv_ ho2_) | ((with_reducible refine gate_callee (f := 30) rfl ?_); refine goesL_ (some 81) rfl rfl Try.func30 (by kernel_rfl) rfl #[.slice A36 g0.length c37, .int .i64 a1] rfl (by (try simp only [List.map_toArray, List.map_cons, List.map_nil]); first | done | rfl) ?_; (with_reducible refine (impl_CountLeaves.calls ki A36 c37 g0 a1 r1 r2 _ ?side1 ?side2 FI.out).mono ?_); (case side1 => exact (x_rd HO35.out LA0t.out LB0t.out)); (case side2 => exact (x_rc HO35.out LA0t.out)); rintro e w38 ⟨v0_, rfl, ho0_, hb_⟩; refine ⟨_, rfl, ?_⟩; obtain ⟨A40, c41, rfl⟩ := Kd.R_slice ho0_; have nx_ := Aside0.mk (below_step HB.out hb_); clear HB; have HB := nx_; clear nx_; have HZw38 := Aside0.mk (Below.size hb_); have nx_ := Aside0.mk (Kd.R_below HO5.out hb_); clear HO5; have HO5 := nx_; clear nx_; have nx_ := Aside0.mk (Kd.R_below HO9.out hb_); clear HO9; have HO9 := nx_; clear nx_; have nx_ := Aside0.mk (Kd.R_below HO13.out hb_); clear HO13; have HO13 := nx_; clear nx_; have nx_ := Aside0.mk (Kd.R_below HO17.out hb_); clear HO17; have HO17 := nx_; clear nx_; have nx_ := Aside0.mk (Kd.R_below HO22.out hb_); clear HO22; have HO22 := nx_; clear nx_; have nx_ := Aside0.mk (Kd.R_below HO35.out hb_); clear HO35; have HO35 := nx_; clear nx_; have HO39 := Aside0.mk (x_iv ho0_); clear hb_ ho0_) | ((with_reducible refine gate_callee (f := 17) rfl ?_); refine goesL_ (some 86) rfl rfl Try.func17 (by kernel_rfl) rfl #[.slice A40 r1.length c41, .slice A10 r1.length c11] rfl (by (try simp only [List.map_toArray, List.map_cons, List.map_nil]); first | done | rfl) ?_; (with_reducible refine (laws_eqIntS.calls ker1 A40 c41 r1 A10 c11 r1 true _ ?side1 ?side2 ?side3 ?side4 FEr1.out).mono ?_); (case side1 => exact (Kd.R_reads' HO39.out).2.2); (case side2 => exact (Kd.R_reads' HO39.out).2.1); (case side3 => exact (Kd.R_reads' HO9.out).2.2); (case side4 => exact (Kd.R_reads' HO9.out).2.1); rintro e w42 ⟨rfl, hd_⟩; have hb_ := hd_.below; refine ⟨_, rfl, ?_⟩; have nx_ := Aside0.mk (below_step HB.out hb_); clear HB; have HB := nx_; clear nx_; have HZw42 := Aside0.mk (Below.size hb_); have nx_ := Aside0.mk (Kd.R_below HO5.out hb_); clear HO5; have HO5 := nx_; clear nx_; have nx_ := Aside0.mk (Kd.R_below HO9.out hb_); clear HO9; have HO9 := nx_; clear nx_; have nx_ := Aside0.mk (Kd.R_below HO13.out hb_); clear HO13; have HO13 := nx_; clear nx_; have nx_ := Aside0.mk (Kd.R_below HO17.out hb_); clear HO17; have HO17 := nx_; clear nx_; have nx_ := Aside0.mk (Kd.R_below HO22.out hb_); clear HO22; have HO22 := nx_; clear nx_; have nx_ := Aside0.mk (Kd.R_below HO35.out hb_); clear HO35; have HO35 := nx_; clear nx_; have nx_ := Aside0.mk (Kd.R_below HO39.out hb_); clear HO39; have HO39 := nx_; clear nx_; clear hb_ hd_) | ((with_reducible refine gate_callee (f := 20) rfl ?_); refine goesL_ (some 95) rfl rfl Try.func20 (by kernel_rfl) rfl #[.slice A18 ym31.length c19, .int .i64 101] rfl (by (try simp only [List.map_toArray, List.map_cons, List.map_nil]); first | done | (rw [FYm31.out] <;> rfl) | rfl) ?_; (with_reducible refine (laws_heldIntS.calls khm31 A18 c19 ym31 101 m31 _ ?side1 ?side2 FHm31.out).mono ?_); (case side1 => exact (x_rdw HO17.out)); (case side2 => exact (x_rcw HO17.out FYm31.out)); rintro e w43 ⟨rfl, hd_⟩; have hb_ := hd_.below; refine ⟨_, rfl, ?_⟩; have nx_ := Aside0.mk (below_step HB.out hb_); clear HB; have HB := nx_; clear nx_; have HZw43 := Aside0.mk (Below.size hb_); have nx_ := Aside0.mk (Kd.R_below HO5.out hb_); clear HO5; have HO5 := nx_; clear nx_; have nx_ := Aside0.mk (Kd.R_below HO9.out hb_); clear HO9; have HO9 := nx_; clear nx_; have nx_ := Aside0.mk (Kd.R_below HO13.out hb_); clear HO13; have HO13 := nx_; clear nx_; have nx_ := Aside0.mk (Kd.R_below HO17.out hb_); clear HO17; have HO17 := nx_; clear nx_; have nx_ := Aside0.mk (Kd.R_below HO22.out hb_); clear HO22; have HO22 := nx_; clear nx_; have nx_ := Aside0.mk (Kd.R_below HO35.out hb_); clear HO35; have HO35 := nx_; clear nx_; have nx_ := Aside0.mk (Kd.R_below HO39.out hb_); clear HO39; have HO39 := nx_; clear nx_; clear hb_ hd_))
    go_ret
    exact ⟨rfl, HB.out⟩

end Go.Proofs.Ytnndolcjljhhcaa.PFnExactCountLeaves
