-- Written by a program of the session (wip/xprint) for this claim.
import Derived.Test.YtnndolcjljhhcaaPFnExactReplaceLeafx0
import Derived.Test.YtnndolcjljhhcaaPFnExactReplaceLeafx1
import Derived.Test.YtnndolcjljhhcaaPFnExactReplaceLeafx2
import Derived.Test.YtnndolcjljhhcaaPFnExactReplaceLeafx4
import Derived.Test.YtnndolcjljhhcaaPFnExactReplaceLeafx5
namespace Go.Proofs.Ytnndolcjljhhcaa.PFnExactReplaceLeaf
open Go.RowKit Go.Proofs.YtnndolcjljhhcaaW.PrintWords Go.Proofs.YtnndolcjljhhcaaW.PrintLast Go.Proofs.YtnndolcjljhhcaaW.PrintMore Go.Proofs.YtnndolcjljhhcaaX
attribute [local go_sem] max2_int min2_int max_two min_two max_three min_three max_four min_four   -- for this text's walks alone
set_option linter.unusedVariables false
set_option linter.unusedSimpArgs false

/-! ### impl_ReplaceLeaf: function 34 -/
def impl_ReplaceLeaf.j0 : Nat → List (S94) → Int → Int → List (S94) → Bool → Option ((List (S94)) × Bool)
  | 0, _, _, _, _, _ => none
  | k + 1, x0, x1, x2, x3, x36 => if x36 = true then (some (([] : List (S94)), false)) else (if 0 ≤ x2 then (if x2 ≤ (x0.length : Int) then (if 0 ≤ (wrap64 (x2 + 1)) then (if (wrap64 (x2 + 1)) ≤ (x0.length : Int) then ((slices_Concat_limpl_Node.f k (([(x0.take (x2 : Int).toNat), x3, (x0.drop ((wrap64 (x2 + 1)) : Int).toNat)] : List (List (S94))))).bind fun t224 => ((impl_isTree.f k t224 x1).bind fun t227 => (if t227 = true then (some (t224, true)) else (some (([] : List (S94)), false))))) else (none)) else (none)) else (none)) else (none))
def impl_ReplaceLeaf.f (k : Nat) (l0 : List (S94)) (a1 : Int) (a2 : Int) (l3 : List (S94)) : Option ((List (S94)) × Bool) := (impl_isTree.f k l0 a1).bind fun t207 => (if t207 = true then ((impl_isTree.f k l3 a1).bind fun t208 => (if t208 = true then ((impl_inside.f a2 0 (wrap64 ((l0.length : Int) - 1))).bind fun t209 => (if t209 = true then (if 0 ≤ a2 then (if a2 < (l0.length : Int) then (impl_ReplaceLeaf.j0 k l0 a1 a2 l3 (((rd_T94 l0 a2).f0) == 0)) else (none)) else (none)) else (impl_ReplaceLeaf.j0 k l0 a1 a2 l3 true))) else (impl_ReplaceLeaf.j0 k l0 a1 a2 l3 true))) else (impl_ReplaceLeaf.j0 k l0 a1 a2 l3 true))
theorem impl_ReplaceLeaf.mono_l : ∀ k, (∀ y0 y1 y2 y3 y4, LeO (impl_ReplaceLeaf.j0 k y0 y1 y2 y3 y4) (impl_ReplaceLeaf.j0 (k + 1) y0 y1 y2 y3 y4))
  | 0 => fun _ _ _ _ _ r h => by simp [impl_ReplaceLeaf.j0] at h
  | k + 1 => by
    have ih0 := impl_ReplaceLeaf.mono_l k
    · intro y0 y1 y2 y3 y4
      unfold impl_ReplaceLeaf.j0
      repeat' first
      | (with_reducible exact ih0 _ _ _ _ _)
      | (with_reducible exact impl_isTree.mono _ _ _)
      | (with_reducible exact slices_Concat_limpl_Node.mono _ _)
      | (with_reducible exact LeO.refl _)
      | (with_reducible exact LeO.none _)
      | (with_reducible refine LeO.ite ?_ ?_)
      | (with_reducible refine LeO.bind ?_ (fun _ => ?_))
      | exact ih0 _ _ _ _ _
      | exact impl_isTree.mono _ _ _
      | exact slices_Concat_limpl_Node.mono _ _
      | exact LeO.none _
      | refine LeO.ite ?_ ?_
      | refine LeO.bind ?_ (fun _ => ?_)
theorem impl_ReplaceLeaf.mono : ∀ a0 a1 a2 a3 k, LeO (impl_ReplaceLeaf.f k a0 a1 a2 a3) (impl_ReplaceLeaf.f (k + 1) a0 a1 a2 a3) := by
  intro a0 a1 a2 a3 k
  have ih0 := impl_ReplaceLeaf.mono_l k
  unfold impl_ReplaceLeaf.f
  repeat' first
      | (with_reducible exact ih0 _ _ _ _ _)
      | (with_reducible exact impl_isTree.mono _ _ _)
      | (with_reducible exact slices_Concat_limpl_Node.mono _ _)
      | (with_reducible exact LeO.refl _)
      | (with_reducible exact LeO.none _)
      | (with_reducible refine LeO.ite ?_ ?_)
      | (with_reducible refine LeO.bind ?_ (fun _ => ?_))
      | exact ih0 _ _ _ _ _
      | exact impl_isTree.mono _ _ _
      | exact slices_Concat_limpl_Node.mono _ _
      | exact LeO.none _
      | refine LeO.ite ?_ ?_
      | refine LeO.bind ?_ (fun _ => ?_)
def impl_ReplaceLeaf.T3 : Bool × List (List Nat × List Nat) := (true, [([], []), ([], []), ([0, 1], [0, 1]), ([], []), ([], []), ([], []), ([5], [5]), ([4, 6], [4, 6]), ([2, 3, 7], [2, 3, 7]), ([8], [8]), ([9, 9, 0, 1, 2, 3, 4, 5, 6, 7, 8, 9], [9])])
def impl_ReplaceLeaf.B3 : List Nat := [0, 0, 3, 0, 0, 0, 32, 112, 255, 511, 1023]
theorem impl_ReplaceLeaf.tab3 : rtab .any (opsOf Try.f34 3) = impl_ReplaceLeaf.T3 := by kernel_rfl
theorem impl_ReplaceLeaf.bits3 : waitsOk impl_ReplaceLeaf.T3.2 impl_ReplaceLeaf.B3 = true := by kernel_rfl
set_option maxHeartbeats 8000000 in
set_option maxRecDepth 100000 in
theorem impl_ReplaceLeaf.calls (k : Nat) (P0_ : Nat → Prop) (A0 : Option Addr) (c0 : Nat) (l0 : List (S94)) (a1 : Int) (a2 : Int) (P3_ : Nat → Prop) (A3 : Option Addr) (c3 : Nat) (l3 : List (S94)) (r1 : List (S94)) (r2 : Bool) (w : World) (hs0 : Kd.V k94 94 w w.heap.size (fun k_ => P0_ k_) (.slice A0 l0.length c0) l0) (hs3 : Kd.V k94 94 w w.heap.size (fun k_ => P3_ k_) (.slice A3 l3.length c3) l3) (h : impl_ReplaceLeaf.f k l0 a1 a2 l3 = some (r1, r2)) :
    Calls Try.prog 34 #[.slice A0 l0.length c0, .int .i64 a1, .int .i64 a2, .slice A3 l3.length c3] w fun e w' => ∃ v0_ : Value, e = .returned (.tuple #[v0_, .bool r2]) ∧ Kd.R k94 94 w' w.heap.size (fun k_ => (w.heap.size ≤ k_)) v0_ r1 ∧ Below w.heap.size w w' := by
  have HO0 := Aside0.mk (show Kd.V k94 94 w w.heap.size (fun k_ => ((P0_ k_ ∨ P3_ k_) ∨ w.heap.size ≤ k_)) (.slice A0 l0.length c0) l0 from Kd.V_mono hs0 (fun k_ hk => .inl (.inl hk)))
  have HO3 := Aside0.mk (show Kd.V k94 94 w w.heap.size (fun k_ => ((P0_ k_ ∨ P3_ k_) ∨ w.heap.size ≤ k_)) (.slice A3 l3.length c3) l3 from Kd.V_mono hs3 (fun k_ hk => .inl (.inr hk)))
  have HB := Aside0.mk (Below.refl w.heap.size w)
  have H : ((impl_isTree.f k l0 a1).bind fun t207 => (if t207 = true then ((impl_isTree.f k l3 a1).bind fun t208 => (if t208 = true then ((impl_inside.f a2 0 (wrap64 ((l0.length : Int) - 1))).bind fun t209 => (if t209 = true then (if 0 ≤ a2 then (if a2 < (l0.length : Int) then (impl_ReplaceLeaf.j0 k l0 a1 a2 l3 (((rd_T94 l0 a2).f0) == 0)) else (none)) else (none)) else (impl_ReplaceLeaf.j0 k l0 a1 a2 l3 true))) else (impl_ReplaceLeaf.j0 k l0 a1 a2 l3 true))) else (impl_ReplaceLeaf.j0 k l0 a1 a2 l3 true))) = some (r1, r2) := h
  clear h
  have HC5 := Aside0.mk H
  clear H
  go_enter Try.func34, Try.ntmps34
  go_upto_region 1 with (fail)
  go_cut [36] (fun v36 wc => ∃ (kq : Nat) (x36_4 : Bool), v36 = .bool x36_4 ∧ Aside0 (impl_ReplaceLeaf.j0 kq l0 a1 a2 l3 x36_4 = some (r1, r2)) ∧ Aside0 (kq ≤ k) ∧ Aside0 (Kd.V k94 94 wc w.heap.size (fun k_ => ((P0_ k_ ∨ P3_ k_) ∨ w.heap.size ≤ k_)) (.slice A0 l0.length c0) l0) ∧ Aside0 (Kd.V k94 94 wc w.heap.size (fun k_ => ((P0_ k_ ∨ P3_ k_) ∨ w.heap.size ≤ k_)) (.slice A3 l3.length c3) l3) ∧ Aside0 (Below w.heap.size w wc))
  case first =>
    have H := HC5.out
    clear HC5
    replace H := Option.bind_eq_some_iff.mp H
    obtain ⟨t207, A60, H⟩ := H
    replace H : (if t207 = true then ((impl_isTree.f k l3 a1).bind fun t208 => (if t208 = true then ((impl_inside.f a2 0 (wrap64 ((l0.length : Int) - 1))).bind fun t209 => (if t209 = true then (if 0 ≤ a2 then (if a2 < (l0.length : Int) then (impl_ReplaceLeaf.j0 k l0 a1 a2 l3 (((rd_T94 l0 a2).f0) == 0)) else (none)) else (none)) else (impl_ReplaceLeaf.j0 k l0 a1 a2 l3 true))) else (impl_ReplaceLeaf.j0 k l0 a1 a2 l3 true))) else (impl_ReplaceLeaf.j0 k l0 a1 a2 l3 true)) = some (r1, r2) := H
    have A6 := Aside0.mk A60
    clear A60
    by_cases c7 : t207 = true
    · subst c7
      have H1 : ((impl_isTree.f k l3 a1).bind fun t208 => (if t208 = true then ((impl_inside.f a2 0 (wrap64 ((l0.length : Int) - 1))).bind fun t209 => (if t209 = true then (if 0 ≤ a2 then (if a2 < (l0.length : Int) then (impl_ReplaceLeaf.j0 k l0 a1 a2 l3 (((rd_T94 l0 a2).f0) == 0)) else (none)) else (none)) else (impl_ReplaceLeaf.j0 k l0 a1 a2 l3 true))) else (impl_ReplaceLeaf.j0 k l0 a1 a2 l3 true))) = some (r1, r2) := by rw [if_pos rfl] at H; exact H
      clear H
      have H := H1
      clear H1
      replace H := Option.bind_eq_some_iff.mp H
      obtain ⟨t208, A80, H⟩ := H
      replace H : (if t208 = true then ((impl_inside.f a2 0 (wrap64 ((l0.length : Int) - 1))).bind fun t209 => (if t209 = true then (if 0 ≤ a2 then (if a2 < (l0.length : Int) then (impl_ReplaceLeaf.j0 k l0 a1 a2 l3 (((rd_T94 l0 a2).f0) == 0)) else (none)) else (none)) else (impl_ReplaceLeaf.j0 k l0 a1 a2 l3 true))) else (impl_ReplaceLeaf.j0 k l0 a1 a2 l3 true)) = some (r1, r2) := H
      have A8 := Aside0.mk A80
      clear A80
      by_cases c9 : t208 = true
      · subst c9
        have H1 : ((impl_inside.f a2 0 (wrap64 ((l0.length : Int) - 1))).bind fun t209 => (if t209 = true then (if 0 ≤ a2 then (if a2 < (l0.length : Int) then (impl_ReplaceLeaf.j0 k l0 a1 a2 l3 (((rd_T94 l0 a2).f0) == 0)) else (none)) else (none)) else (impl_ReplaceLeaf.j0 k l0 a1 a2 l3 true))) = some (r1, r2) := by rw [if_pos rfl] at H; exact H
        clear H
        have H := H1
        clear H1
        replace H := Option.bind_eq_some_iff.mp H
        obtain ⟨t209, A100, H⟩ := H
        replace H : (if t209 = true then (if 0 ≤ a2 then (if a2 < (l0.length : Int) then (impl_ReplaceLeaf.j0 k l0 a1 a2 l3 (((rd_T94 l0 a2).f0) == 0)) else (none)) else (none)) else (impl_ReplaceLeaf.j0 k l0 a1 a2 l3 true)) = some (r1, r2) := H
        have A10 := Aside0.mk A100
        clear A100
        by_cases c11 : t209 = true
        · subst c11
          have H1 : (if 0 ≤ a2 then (if a2 < (l0.length : Int) then (impl_ReplaceLeaf.j0 k l0 a1 a2 l3 (((rd_T94 l0 a2).f0) == 0)) else (none)) else (none)) = some (r1, r2) := by rw [if_pos rfl] at H; exact H
          clear H
          have H := H1
          clear H1
          by_cases c12 : 0 ≤ a2
          · rw [if_pos c12] at H
            have c12b0 : decide (0 ≤ a2) = true := decide_eq_true c12
            clear c12
            (first | rw [c12b0] | (simp only [i64_w, i32_w]; rw [c12b0]) | skip)
            by_cases c13 : a2 < (l0.length : Int)
            · rw [if_pos c13] at H
              have c13b0 : decide (a2 < (l0.length : Int)) = true := decide_eq_true c13
              clear c13
              have H' := Aside0.mk H
              clear H
              go_wp2_with (first | ((with_reducible refine gate_callee (f := 73) rfl ?_); refine goesL_ (some 13) rfl rfl Try.func73 (by kernel_rfl) rfl #[.slice A0 l0.length c0, .int .i64 a1] rfl (by (try simp only [List.map_toArray, List.map_cons, List.map_nil]); first | done | rfl | (simp only [List.length_drop, List.length_take]; rfl)) ?_; (with_reducible refine (impl_isTree.calls k _ _ l0 a1 true _ ?side1 ?side2 A6.out).mono ?_); (case side1 => repeat (first | exact (Kd.V_reads' HO0.out).2.2 | (with_reducible refine Kd.C_alloc ?_ _) | (with_reducible refine Kd.C_drewN ?_ _) | (with_reducible refine Kd.C_drew ?_))); (case side2 => exact (Kd.V_reads' HO0.out).2.1); rintro e w14 ⟨rfl, hb⟩; refine ⟨_, rfl, ?_⟩; have n0_ := Aside0.mk (Kd.V_below (by (with_reducible repeat (first | apply Kd.V_alloc | apply Kd.V_drewN | apply Kd.V_drew)); exact HO0.out) hb); have n1_ := Aside0.mk (Kd.V_below (by (with_reducible repeat (first | apply Kd.V_alloc | apply Kd.V_drewN | apply Kd.V_drew)); exact HO3.out) hb); have n2_ := Aside0.mk (below_step (by repeat (first | (with_reducible first | exact HB.out | apply below_alloc | apply pw_below_drewN | apply below_drew1) | exact HB.out)) hb); clear HO0; clear HO3; clear HB; have HO0 := n0_; have HO3 := n1_; have HB := n2_; clear n0_ n1_ n2_; (try clear hb); (try clear hb2); (try clear hk); (try clear hi)) | (go_at_call 73; (with_reducible refine (impl_isTree.calls k _ _ l3 a1 true _ ?side1 ?side2 A8.out).mono ?_); (case side1 => repeat (first | exact (Kd.V_reads' HO3.out).2.2 | (with_reducible refine Kd.C_alloc ?_ _) | (with_reducible refine Kd.C_drewN ?_ _) | (with_reducible refine Kd.C_drew ?_))); (case side2 => exact (Kd.V_reads' HO3.out).2.1); rintro e w15 ⟨rfl, hb⟩; have n0_ := Aside0.mk (Kd.V_below (by (with_reducible repeat (first | apply Kd.V_alloc | apply Kd.V_drewN | apply Kd.V_drew)); exact HO0.out) hb); have n1_ := Aside0.mk (Kd.V_below (by (with_reducible repeat (first | apply Kd.V_alloc | apply Kd.V_drewN | apply Kd.V_drew)); exact HO3.out) hb); have n2_ := Aside0.mk (below_step (by repeat (first | (with_reducible first | exact HB.out | apply below_alloc | apply pw_below_drewN | apply below_drew1) | exact HB.out)) hb); clear HO0; clear HO3; clear HB; have HO0 := n0_; have HO3 := n1_; have HB := n2_; clear n0_ n1_ n2_; (try clear hb); (try clear hb2); (try clear hk); (try clear hi)) | (go_at_call 74; (with_reducible refine (impl_inside.calls a2 0 (wrap64 ((l0.length : Int) - 1)) true _ A10.out).mono ?_); rintro e w' ⟨rfl, ⟨nd, rfl⟩⟩; have p210 : 0 ≤ (a2 : Int) := of_decide_eq_true (by first | (with_reducible assumption) | assumption); have q210 : a2 < (l0.length : Int) := of_decide_eq_true (by first | (with_reducible assumption) | assumption); obtain ⟨ad210, e210, hx210_0, hx210_1⟩ := at_T94 (Kd.V_reads' HO0.out).2.2 a2 p210 q210; cases e210; replace p210 := eq_true p210; replace q210 := eq_true q210))
              go_meet
              case rel => exact ⟨_, ((((rd_T94 l0 a2).f0) == 0)), (by first | rfl | (simp; done) | (simp [*]; done)), H', ⟨by first | omega | exact Nat.le_refl _⟩, ⟨by (with_reducible repeat (first | apply Kd.V_alloc | apply Kd.V_drewN | apply Kd.V_drew)); exact HO0.out⟩, ⟨by (with_reducible repeat (first | apply Kd.V_alloc | apply Kd.V_drewN | apply Kd.V_drew)); exact HO3.out⟩, ⟨by repeat (first | (with_reducible first | exact HB.out | apply below_alloc | apply pw_below_drewN | apply below_drew1) | exact HB.out)⟩⟩
            · rw [if_neg c13] at H
              exact absurd H (by simp)
          · rw [if_neg c12] at H
            exact absurd H (by simp)
        · replace c11 := Bool.eq_false_iff.mpr c11
          subst c11
          have H1 : (impl_ReplaceLeaf.j0 k l0 a1 a2 l3 true) = some (r1, r2) := by rw [if_neg (show ¬ (false = true) by decide)] at H; exact H
          clear H
          have H := H1
          clear H1
          have H' := Aside0.mk H
          clear H
          go_wp2_with (first | ((with_reducible refine gate_callee (f := 73) rfl ?_); refine goesL_ (some 13) rfl rfl Try.func73 (by kernel_rfl) rfl #[.slice A0 l0.length c0, .int .i64 a1] rfl (by (try simp only [List.map_toArray, List.map_cons, List.map_nil]); first | done | rfl | (simp only [List.length_drop, List.length_take]; rfl)) ?_; (with_reducible refine (impl_isTree.calls k _ _ l0 a1 true _ ?side1 ?side2 A6.out).mono ?_); (case side1 => repeat (first | exact (Kd.V_reads' HO0.out).2.2 | (with_reducible refine Kd.C_alloc ?_ _) | (with_reducible refine Kd.C_drewN ?_ _) | (with_reducible refine Kd.C_drew ?_))); (case side2 => exact (Kd.V_reads' HO0.out).2.1); rintro e w16 ⟨rfl, hb⟩; refine ⟨_, rfl, ?_⟩; have n0_ := Aside0.mk (Kd.V_below (by (with_reducible repeat (first | apply Kd.V_alloc | apply Kd.V_drewN | apply Kd.V_drew)); exact HO0.out) hb); have n1_ := Aside0.mk (Kd.V_below (by (with_reducible repeat (first | apply Kd.V_alloc | apply Kd.V_drewN | apply Kd.V_drew)); exact HO3.out) hb); have n2_ := Aside0.mk (below_step (by repeat (first | (with_reducible first | exact HB.out | apply below_alloc | apply pw_below_drewN | apply below_drew1) | exact HB.out)) hb); clear HO0; clear HO3; clear HB; have HO0 := n0_; have HO3 := n1_; have HB := n2_; clear n0_ n1_ n2_; (try clear hb); (try clear hb2); (try clear hk); (try clear hi)) | (go_at_call 73; (with_reducible refine (impl_isTree.calls k _ _ l3 a1 true _ ?side1 ?side2 A8.out).mono ?_); (case side1 => repeat (first | exact (Kd.V_reads' HO3.out).2.2 | (with_reducible refine Kd.C_alloc ?_ _) | (with_reducible refine Kd.C_drewN ?_ _) | (with_reducible refine Kd.C_drew ?_))); (case side2 => exact (Kd.V_reads' HO3.out).2.1); rintro e w17 ⟨rfl, hb⟩; have n0_ := Aside0.mk (Kd.V_below (by (with_reducible repeat (first | apply Kd.V_alloc | apply Kd.V_drewN | apply Kd.V_drew)); exact HO0.out) hb); have n1_ := Aside0.mk (Kd.V_below (by (with_reducible repeat (first | apply Kd.V_alloc | apply Kd.V_drewN | apply Kd.V_drew)); exact HO3.out) hb); have n2_ := Aside0.mk (below_step (by repeat (first | (with_reducible first | exact HB.out | apply below_alloc | apply pw_below_drewN | apply below_drew1) | exact HB.out)) hb); clear HO0; clear HO3; clear HB; have HO0 := n0_; have HO3 := n1_; have HB := n2_; clear n0_ n1_ n2_; (try clear hb); (try clear hb2); (try clear hk); (try clear hi)) | (go_at_call 74; (with_reducible refine (impl_inside.calls a2 0 (wrap64 ((l0.length : Int) - 1)) false _ A10.out).mono ?_); rintro e w' ⟨rfl, ⟨nd, rfl⟩⟩))
          go_meet
          case rel => exact ⟨_, (true), (by first | rfl | (simp; done) | (simp [*]; done)), H', ⟨by first | omega | exact Nat.le_refl _⟩, ⟨by (with_reducible repeat (first | apply Kd.V_alloc | apply Kd.V_drewN | apply Kd.V_drew)); exact HO0.out⟩, ⟨by (with_reducible repeat (first | apply Kd.V_alloc | apply Kd.V_drewN | apply Kd.V_drew)); exact HO3.out⟩, ⟨by repeat (first | (with_reducible first | exact HB.out | apply below_alloc | apply pw_below_drewN | apply below_drew1) | exact HB.out)⟩⟩
      · replace c9 := Bool.eq_false_iff.mpr c9
        subst c9
        have H1 : (impl_ReplaceLeaf.j0 k l0 a1 a2 l3 true) = some (r1, r2) := by rw [if_neg (show ¬ (false = true) by decide)] at H; exact H
        clear H
        have H := H1
        clear H1
        have H' := Aside0.mk H
        clear H
        go_wp2_with (first | ((with_reducible refine gate_callee (f := 73) rfl ?_); refine goesL_ (some 13) rfl rfl Try.func73 (by kernel_rfl) rfl #[.slice A0 l0.length c0, .int .i64 a1] rfl (by (try simp only [List.map_toArray, List.map_cons, List.map_nil]); first | done | rfl | (simp only [List.length_drop, List.length_take]; rfl)) ?_; (with_reducible refine (impl_isTree.calls k _ _ l0 a1 true _ ?side1 ?side2 A6.out).mono ?_); (case side1 => repeat (first | exact (Kd.V_reads' HO0.out).2.2 | (with_reducible refine Kd.C_alloc ?_ _) | (with_reducible refine Kd.C_drewN ?_ _) | (with_reducible refine Kd.C_drew ?_))); (case side2 => exact (Kd.V_reads' HO0.out).2.1); rintro e w18 ⟨rfl, hb⟩; refine ⟨_, rfl, ?_⟩; have n0_ := Aside0.mk (Kd.V_below (by (with_reducible repeat (first | apply Kd.V_alloc | apply Kd.V_drewN | apply Kd.V_drew)); exact HO0.out) hb); have n1_ := Aside0.mk (Kd.V_below (by (with_reducible repeat (first | apply Kd.V_alloc | apply Kd.V_drewN | apply Kd.V_drew)); exact HO3.out) hb); have n2_ := Aside0.mk (below_step (by repeat (first | (with_reducible first | exact HB.out | apply below_alloc | apply pw_below_drewN | apply below_drew1) | exact HB.out)) hb); clear HO0; clear HO3; clear HB; have HO0 := n0_; have HO3 := n1_; have HB := n2_; clear n0_ n1_ n2_; (try clear hb); (try clear hb2); (try clear hk); (try clear hi)) | (go_at_call 73; (with_reducible refine (impl_isTree.calls k _ _ l3 a1 false _ ?side1 ?side2 A8.out).mono ?_); (case side1 => repeat (first | exact (Kd.V_reads' HO3.out).2.2 | (with_reducible refine Kd.C_alloc ?_ _) | (with_reducible refine Kd.C_drewN ?_ _) | (with_reducible refine Kd.C_drew ?_))); (case side2 => exact (Kd.V_reads' HO3.out).2.1); rintro e w19 ⟨rfl, hb⟩; have n0_ := Aside0.mk (Kd.V_below (by (with_reducible repeat (first | apply Kd.V_alloc | apply Kd.V_drewN | apply Kd.V_drew)); exact HO0.out) hb); have n1_ := Aside0.mk (Kd.V_below (by (with_reducible repeat (first | apply Kd.V_alloc | apply Kd.V_drewN | apply Kd.V_drew)); exact HO3.out) hb); have n2_ := Aside0.mk (below_step (by repeat (first | (with_reducible first | exact HB.out | apply below_alloc | apply pw_below_drewN | apply below_drew1) | exact HB.out)) hb); clear HO0; clear HO3; clear HB; have HO0 := n0_; have HO3 := n1_; have HB := n2_; clear n0_ n1_ n2_; (try clear hb); (try clear hb2); (try clear hk); (try clear hi)))
        go_meet
        case rel => exact ⟨_, (true), (by first | rfl | (simp; done) | (simp [*]; done)), H', ⟨by first | omega | exact Nat.le_refl _⟩, ⟨by (with_reducible repeat (first | apply Kd.V_alloc | apply Kd.V_drewN | apply Kd.V_drew)); exact HO0.out⟩, ⟨by (with_reducible repeat (first | apply Kd.V_alloc | apply Kd.V_drewN | apply Kd.V_drew)); exact HO3.out⟩, ⟨by repeat (first | (with_reducible first | exact HB.out | apply below_alloc | apply pw_below_drewN | apply below_drew1) | exact HB.out)⟩⟩
    · replace c7 := Bool.eq_false_iff.mpr c7
      subst c7
      have H1 : (impl_ReplaceLeaf.j0 k l0 a1 a2 l3 true) = some (r1, r2) := by rw [if_neg (show ¬ (false = true) by decide)] at H; exact H
      clear H
      have H := H1
      clear H1
      have H' := Aside0.mk H
      clear H
      go_wp2_with (first | ((with_reducible refine gate_callee (f := 73) rfl ?_); refine goesL_ (some 13) rfl rfl Try.func73 (by kernel_rfl) rfl #[.slice A0 l0.length c0, .int .i64 a1] rfl (by (try simp only [List.map_toArray, List.map_cons, List.map_nil]); first | done | rfl | (simp only [List.length_drop, List.length_take]; rfl)) ?_; (with_reducible refine (impl_isTree.calls k _ _ l0 a1 false _ ?side1 ?side2 A6.out).mono ?_); (case side1 => repeat (first | exact (Kd.V_reads' HO0.out).2.2 | (with_reducible refine Kd.C_alloc ?_ _) | (with_reducible refine Kd.C_drewN ?_ _) | (with_reducible refine Kd.C_drew ?_))); (case side2 => exact (Kd.V_reads' HO0.out).2.1); rintro e w20 ⟨rfl, hb⟩; refine ⟨_, rfl, ?_⟩; have n0_ := Aside0.mk (Kd.V_below (by (with_reducible repeat (first | apply Kd.V_alloc | apply Kd.V_drewN | apply Kd.V_drew)); exact HO0.out) hb); have n1_ := Aside0.mk (Kd.V_below (by (with_reducible repeat (first | apply Kd.V_alloc | apply Kd.V_drewN | apply Kd.V_drew)); exact HO3.out) hb); have n2_ := Aside0.mk (below_step (by repeat (first | (with_reducible first | exact HB.out | apply below_alloc | apply pw_below_drewN | apply below_drew1) | exact HB.out)) hb); clear HO0; clear HO3; clear HB; have HO0 := n0_; have HO3 := n1_; have HB := n2_; clear n0_ n1_ n2_; (try clear hb); (try clear hb2); (try clear hk); (try clear hi)))
      go_meet
      case rel => exact ⟨_, (true), (by first | rfl | (simp; done) | (simp [*]; done)), H', ⟨by first | omega | exact Nat.le_refl _⟩, ⟨by (with_reducible repeat (first | apply Kd.V_alloc | apply Kd.V_drewN | apply Kd.V_drew)); exact HO0.out⟩, ⟨by (with_reducible repeat (first | apply Kd.V_alloc | apply Kd.V_drewN | apply Kd.V_drew)); exact HO3.out⟩, ⟨by repeat (first | (with_reducible first | exact HB.out | apply below_alloc | apply pw_below_drewN | apply below_drew1) | exact HB.out)⟩⟩
  case rest =>
    clear HC5
    try clear c1
    try clear p2
    try clear q2
    try clear hx2
    try clear c3
    try clear p6
    try clear c7
    try clear c9
    try clear c11
    try clear c12
    try clear c12b0
    try clear c13
    try clear c13b0
    try clear hx210_0
    try clear hx210_1
    try clear p210
    try clear q210
    obtain ⟨kq, x36_4, rfl, HA, HJ4, HO_0, HO_3, HB⟩ := hcut
    cases kq with
    | zero => exact absurd HA.out (by simp [impl_ReplaceLeaf.j0])
    | succ kj4 =>
      have H := HA.out
      clear HA
      simp only [impl_ReplaceLeaf.j0] at H
      by_cases c21 : x36_4 = true
      · subst c21
        have H1 : (some (([] : List (S94)), false)) = some (r1, r2) := by rw [if_pos rfl] at H; exact H
        clear H
        have H := H1
        clear H1
        simp only [Option.some.injEq, Prod.mk.injEq] at H
        obtain ⟨rfl, rfl⟩ := H
        go_wp2
        go_ret2
        exact ⟨_, by first | rfl | (simp [errW_none, errW_some] <;> rfl) | (simp [*, errW_none, errW_some] <;> rfl), by first | exact Kd.R_nil _ _ _ _ _ | exact Kd.N_nil _ _ _ _ _ | exact Kd.V_nil _ _ _ _ _ | exact Kd.Q_nil _ _ _ _ _ | exact Kd.S_nil _ _ _ _ _, by repeat (first | (with_reducible first | exact HB.out | apply below_alloc | apply pw_below_drewN | apply below_drew1) | exact HB.out)⟩
      · replace c21 := Bool.eq_false_iff.mpr c21
        subst c21
        have H1 : (if 0 ≤ a2 then (if a2 ≤ (l0.length : Int) then (if 0 ≤ (wrap64 (a2 + 1)) then (if (wrap64 (a2 + 1)) ≤ (l0.length : Int) then ((slices_Concat_limpl_Node.f kj4 (([(l0.take (a2 : Int).toNat), l3, (l0.drop ((wrap64 (a2 + 1)) : Int).toNat)] : List (List (S94))))).bind fun t224 => ((impl_isTree.f kj4 t224 a1).bind fun t227 => (if t227 = true then (some (t224, true)) else (some (([] : List (S94)), false))))) else (none)) else (none)) else (none)) else (none)) = some (r1, r2) := by rw [if_neg (show ¬ (false = true) by decide)] at H; exact H
        clear H
        have H := H1
        clear H1
        by_cases c22 : 0 ≤ a2
        · rw [if_pos c22] at H
          have c22b0 := eq_true c22
          have c22b1 : decide (0 ≤ a2) = true := decide_eq_true c22
          clear c22
          by_cases c23 : a2 ≤ (l0.length : Int)
          · rw [if_pos c23] at H
            have c23b0 := eq_true c23
            have c23b1 : decide (a2 ≤ (l0.length : Int)) = true := decide_eq_true c23
            clear c23
            obtain ⟨y211, hy211⟩ : ∃ y_ : List (S94), y_ = (l0.take (a2 : Int).toNat) := ⟨_, rfl⟩
            replace H : (if 0 ≤ (wrap64 (a2 + 1)) then (if (wrap64 (a2 + 1)) ≤ (l0.length : Int) then ((slices_Concat_limpl_Node.f kj4 (([y211, l3, (l0.drop ((wrap64 (a2 + 1)) : Int).toNat)] : List (List (S94))))).bind fun t224 => ((impl_isTree.f kj4 t224 a1).bind fun t227 => (if t227 = true then (some (t224, true)) else (some (([] : List (S94)), false))))) else (none)) else (none)) = some (r1, r2) := by first | (rw [hy211]; with_reducible exact H) | (have H2_ := (Option.bind_some _ _).symm.trans H; rw [hy211]; with_reducible exact H2_) | (have H2_ := (Option.bind_some _ _).symm.trans H; with_reducible exact H2_) | with_reducible exact H | (rw [hy211]; exact H) | exact H
            have Ny211 := Aside0.mk hy211
            clear hy211
            obtain ⟨ji24, hji24⟩ : ∃ j_ : Int, (wrap64 (a2 + 1)) = j_ := ⟨_, rfl⟩
            replace H : (if 0 ≤ (ji24) then (if (ji24) ≤ (l0.length : Int) then ((slices_Concat_limpl_Node.f kj4 (([y211, l3, (l0.drop ((ji24) : Int).toNat)] : List (List (S94))))).bind fun t224 => ((impl_isTree.f kj4 t224 a1).bind fun t227 => (if t227 = true then (some (t224, true)) else (some (([] : List (S94)), false))))) else (none)) else (none)) = some (r1, r2) := by first | (rw [hji24] at H; exact H) | (simp only [hji24] at H ⊢; exact H)
            have hji24w : (IntKind.i64.wrap (a2 + 1)) = ji24 := (i64_w _).trans hji24
            by_cases c25 : 0 ≤ (ji24)
            · rw [if_pos c25] at H
              have c25b0 := eq_true c25
              have c25b1 : decide (0 ≤ (ji24)) = true := decide_eq_true c25
              clear c25
              by_cases c26 : (ji24) ≤ (l0.length : Int)
              · rw [if_pos c26] at H
                have c26b0 := eq_true c26
                have c26b1 : decide ((ji24) ≤ (l0.length : Int)) = true := decide_eq_true c26
                clear c26
                obtain ⟨y216, hy216⟩ : ∃ y_ : List (S94), y_ = (l0.drop ((ji24) : Int).toNat) := ⟨_, rfl⟩
                replace H : ((slices_Concat_limpl_Node.f kj4 (([y211, l3, y216] : List (List (S94))))).bind fun t224 => ((impl_isTree.f kj4 t224 a1).bind fun t227 => (if t227 = true then (some (t224, true)) else (some (([] : List (S94)), false))))) = some (r1, r2) := by first | (rw [hy216]; with_reducible exact H) | (have H2_ := (Option.bind_some _ _).symm.trans H; rw [hy216]; with_reducible exact H2_) | (have H2_ := (Option.bind_some _ _).symm.trans H; with_reducible exact H2_) | with_reducible exact H | (rw [hy216]; exact H) | exact H
                have Ny216 := Aside0.mk hy216
                clear hy216
                obtain ⟨y221, hy221⟩ : ∃ y_ : List (List (S94)), y_ = (([y211, l3, y216] : List (List (S94)))) := ⟨_, rfl⟩
                replace H : ((slices_Concat_limpl_Node.f kj4 y221).bind fun t224 => ((impl_isTree.f kj4 t224 a1).bind fun t227 => (if t227 = true then (some (t224, true)) else (some (([] : List (S94)), false))))) = some (r1, r2) := by first | (rw [hy221]; with_reducible exact H) | (have H2_ := (Option.bind_some _ _).symm.trans H; rw [hy221]; with_reducible exact H2_) | (have H2_ := (Option.bind_some _ _).symm.trans H; with_reducible exact H2_) | with_reducible exact H | (rw [hy221]; exact H) | exact H
                have Ny221 := Aside0.mk hy221
                clear hy221
                replace H := Option.bind_eq_some_iff.mp H
                obtain ⟨t224, A270, H⟩ := H
                replace H : ((impl_isTree.f kj4 t224 a1).bind fun t227 => (if t227 = true then (some (t224, true)) else (some (([] : List (S94)), false)))) = some (r1, r2) := H
                have A27 := Aside0.mk A270
                clear A270
                replace H := Option.bind_eq_some_iff.mp H
                obtain ⟨t227, A280, H⟩ := H
                replace H : (if t227 = true then (some (t224, true)) else (some (([] : List (S94)), false))) = some (r1, r2) := H
                have A28 := Aside0.mk A280
                clear A280
                by_cases c29 : t227 = true
                · subst c29
                  have H1 : (some (t224, true)) = some (r1, r2) := by rw [if_pos rfl] at H; exact H
                  clear H
                  have H := H1
                  clear H1
                  simp only [Option.some.injEq, Prod.mk.injEq] at H
                  obtain ⟨rfl, rfl⟩ := H
                  try go_wp2
                  have n0_ := Aside0.mk (Kd.V_drew HO_0.out)
                  have n1_ := Aside0.mk (Kd.V_drew HO_3.out)
                  have n2_ := Aside0.mk (below_drew1 HB.out)
                  clear HO_0
                  clear HO_3
                  clear HB
                  have HO_0 := n0_
                  have HO_3 := n1_
                  have HB := n2_
                  clear n0_ n1_ n2_
                  have q31 : (a2 : Int) ≤ ((l0.length : Int) : Int) := of_decide_eq_true (by first | (with_reducible assumption) | assumption)
                  obtain ⟨i031, hi031, _, hsz31, _⟩ := info_parts info94
                  have hroom31 : l0.length ≤ c0 := (Kd.V_reads' HO_0.out).2.1
                  have hC31 : Kd.F k94 _ _ A0 l0.length l0 := (Kd.V_at (base := w.heap.size) HO_0.out).2.2
                  have hcut31 := cut_to (P := Try.prog) 31 94 .i64 Try.underlying31 hi031 A0 l0.length c0 a2 (of_decide_eq_true (by first | (with_reducible assumption) | assumption)) q31 hroom31
                  have hr31 := Kd.F_take (m := (a2 : Int).toNat) hC31 (by omega)
                  have hy31 : y211.length = (a2 : Int).toNat := (by rw [Ny211.out, List.length_take]; omega)
                  rw [← Ny211.out] at hr31
                  rw [← hy31] at hcut31
                  have HO215 := Aside0.mk (show Kd.V k94 94 _ w.heap.size _ (.slice A0 y211.length c0) y211 from Kd.V_mk (by omega) hr31)
                  have HC215 := Aside0.mk (show y211.length ≤ c0 from by omega)
                  clear hr31 hC31 hroom31 hi031 hsz31
                  have KY31 := Aside0.mk hy31
                  clear hy31
                  replace q31 := eq_true q31
                  have q32 : ((ji24) : Int) ≤ ((l0.length : Int) : Int) := of_decide_eq_true (by first | (with_reducible assumption) | assumption)
                  obtain ⟨i032, hi032, _, hsz32, _⟩ := info_parts info94
                  have hroom32 : l0.length ≤ c0 := (Kd.V_reads' HO_0.out).2.1
                  have hC32 : Kd.F k94 _ _ A0 l0.length l0 := (Kd.V_at (base := w.heap.size) HO_0.out).2.2
                  have q032 : (0 : Int) ≤ ((ji24) : Int) := of_decide_eq_true (by first | (with_reducible assumption) | assumption)
                  have hcut32 := cut_from (P := Try.prog) 31 94 .i64 Try.underlying31 hi032 2 hsz32 A0 l0.length c0 (ji24) q032 q32
                  have hr32 := Kd.F_cut (m := ((ji24) : Int).toNat) (c := c0) hC32 (by omega) hroom32
                  obtain ⟨A32, hA32⟩ : ∃ A1, A1 = (if c0 = ((ji24) : Int).toNat then A0 else (A0 : Option Addr).map (·.add (((ji24) : Int).toNat * 2))) := ⟨_, rfl⟩
                  obtain ⟨c32, hc32⟩ : ∃ c1, c1 = c0 - ((ji24) : Int).toNat := ⟨_, rfl⟩
                  have hy32 : y216.length = l0.length - ((ji24) : Int).toNat := (by rw [Ny216.out, List.length_drop] <;> omega)
                  rw [show (l0).drop ((ji24) : Int).toNat = y216 from Ny216.out.symm] at hr32
                  replace hr32 : Kd.F k94 _ _ A32 y216.length y216 := (by rw [hA32]; exact hr32)
                  rw [← hy32, ← hA32, ← hc32] at hcut32
                  have HO220 := Aside0.mk (show Kd.V k94 94 _ w.heap.size _ (.slice A32 y216.length c32) y216 from Kd.V_mk (by rw [hy32, hc32]; exact Nat.sub_le_sub_right hroom32 _) hr32)
                  have HC220 := Aside0.mk (show y216.length ≤ c32 from by rw [hy32, hc32]; exact Nat.sub_le_sub_right hroom32 _)
                  clear hr32 hC32 hroom32 hi032 hsz32 hc32
                  have KY32 := Aside0.mk hy32
                  have KA32 := Aside0.mk hA32
                  clear hy32 hA32
                  replace q32 := eq_true q32
                  refine start_ (n := 11) (S := fun w' => True) (ds := []) #[false, false, false, false, false, false, false, false, false, false, false] (by kernel_rfl) rfl rfl trivial (fun hHeld => ?_); refine with_tabW impl_ReplaceLeaf.tab3 impl_ReplaceLeaf.bits3 (fun HT_ HW_ => ?_)
                  generalize wc.drew = w30 at HO_0 HO_3 HB HO215 HO220 hHeld ⊢
                  refine pure_ (i := 0) (N := some 37) (v := ?_) (a' := ?_) #[true, false, false, false, false, false, false, false, false, false, false] rfl rfl (any_of HT_.out (by kernel_rfl)) (fun _ _ _ h => h) (Or.inl ⟨by rfl, ?_⟩) ?_ ?_
                  rotate_left
                  · intro w'
                    go_simp
                    with_reducible rfl
                  rotate_left
                  · simp only [Act.put, List.setIfInBounds_toArray, List.set_cons_zero, List.set_cons_succ, i64_w, i32_w]
                    rfl
                  refine pure_ (i := 1) (N := some 38) (v := ?_) (a' := ?_) #[true, true, false, false, false, false, false, false, false, false, false] rfl rfl (any_of HT_.out (by kernel_rfl)) (fun _ _ _ h => h) (Or.inl ⟨by rfl, ?_⟩) ?_ ?_
                  rotate_left
                  · intro w'
                    go_simp
                    with_reducible rfl
                  rotate_left
                  · simp only [Act.put, List.setIfInBounds_toArray, List.set_cons_zero, List.set_cons_succ, i64_w, i32_w]
                    rfl
                  refine pure_ (i := 2) (N := some 39) (v := ?_) (a' := ?_) #[true, true, true, false, false, false, false, false, false, false, false] rfl rfl (any_of HT_.out (by kernel_rfl)) (fun _ _ _ h => h) (Or.inl ⟨by rfl, ?_⟩) ?_ ?_
                  rotate_left
                  · intro w'
                    go_simp
                    with_reducible rfl
                  rotate_left
                  · simp only [Act.put, List.setIfInBounds_toArray, List.set_cons_zero, List.set_cons_succ, i64_w, i32_w]
                    rfl
                  refine pure_ (i := 3) (N := some 40) (v := ?_) (a' := ?_) #[true, true, true, true, false, false, false, false, false, false, false] rfl rfl (any_of HT_.out (by kernel_rfl)) (fun _ _ _ h => h) (Or.inl ⟨by rfl, ?_⟩) ?_ ?_
                  rotate_left
                  · intro w'
                    go_simp
                    with_reducible rfl
                  rotate_left
                  · simp only [Act.put, List.setIfInBounds_toArray, List.set_cons_zero, List.set_cons_succ, i64_w, i32_w]
                    rfl
                  refine pure_ (i := 4) (N := some 41) (v := ?_) (a' := ?_) #[true, true, true, true, true, false, false, false, false, false, false] rfl rfl (any_of HT_.out (by kernel_rfl)) (fun _ _ _ h => h) (Or.inl ⟨by rfl, ?_⟩) ?_ ?_
                  rotate_left
                  · intro w'
                    go_simp
                    with_reducible rfl
                  rotate_left
                  · simp only [Act.put, List.setIfInBounds_toArray, List.set_cons_zero, List.set_cons_succ, i64_w, i32_w]
                    rfl
                  refine pure_ (i := 5) (N := some 42) (v := ?_) (a' := ?_) #[true, true, true, true, true, true, false, false, false, false, false] rfl rfl (any_of HT_.out (by kernel_rfl)) (fun _ _ _ h => h) (Or.inl ⟨by rfl, ?_⟩) ?_ ?_
                  rotate_left
                  · intro w'
                    go_simp
                    with_reducible rfl
                  rotate_left
                  · simp only [Act.put, List.setIfInBounds_toArray, List.set_cons_zero, List.set_cons_succ, i64_w, i32_w]
                    rfl
                  refine pure_ (i := 6) (N := some 43) (v := ?_) (a' := ?_) #[true, true, true, true, true, true, true, false, false, false, false] rfl rfl (any_of HT_.out (by kernel_rfl)) (fun _ _ _ h => h) (Or.inl ⟨by rfl, ?_⟩) ?_ ?_
                  rotate_left
                  · intro w'
                    go_simp
                    with_reducible rfl
                  rotate_left
                  · simp only [Act.put, List.setIfInBounds_toArray, List.set_cons_zero, List.set_cons_succ, i64_w, i32_w]
                    rfl
                  refine pure_ (i := 7) (N := some 44) (v := ?_) (a' := ?_) #[true, true, true, true, true, true, true, true, false, false, false] rfl rfl (any_of HT_.out (by kernel_rfl)) (fun _ _ _ h => h) (Or.inl ⟨by rfl, ?_⟩) ?_ ?_
                  rotate_left
                  · intro w'
                    go_simp
                    with_reducible rfl
                  rotate_left
                  · simp only [Act.put, List.setIfInBounds_toArray, List.set_cons_zero, List.set_cons_succ, i64_w, i32_w]
                    rfl
                  refine one_ (i := 8) (N := some 45) #[true, true, true, true, true, true, true, true, true, false, false] rfl rfl (one_of HT_.out (by kernel_rfl)) (by decide) (fun K hK => ?_)
                  refine Kd.N_lit_step (Kd.slice 94 k94) _ 31 ?hg (N' := 45) ?hd (xs := ([y211, l3, y216] : List (List (S94)))) (inner := [.slice A0 y211.length c0, .slice A3 l3.length c3, .slice A32 y216.length c32]) (ok := (fun k_ => ((P0_ k_ ∨ P3_ k_) ∨ w.heap.size ≤ k_))) (okp := (fun k_ => ((P0_ k_ ∨ P3_ k_) ∨ w.heap.size ≤ k_))) ?hr ?hp (fun _ hk => hk) ((show ∀ k_, w30.heap.size ≤ k_ → (fun k_ => ((P0_ k_ ∨ P3_ k_) ∨ w.heap.size ≤ k_)) k_ from fun k_ hk => (.inr (Nat.le_trans (below_size (by repeat (first | (with_reducible first | exact HB.out | apply below_alloc | apply pw_below_drewN | apply below_drew1) | exact HB.out))) hk))) _ (Nat.le_refl _)) (Below.refl _ _) (Nat.le_refl _) (by simp) ?_; (case hd => rfl); (case hg => rfl); (case hr => first | (go_simp; done) | (go_simp; rfl)); (case hp => exact (Reps.one (show Kd.FK (Kd.slice 94 k94) _ _ y211 [.slice A0 y211.length c0] from (Kd.FK_slice_mk (Kd.V_reads' (Kd.V_mono (ok' := (fun k_ => ((P0_ k_ ∨ P3_ k_) ∨ w.heap.size ≤ k_))) (HO215.out) (fun k_ hk => hk))).2.1 (Kd.V_F (Kd.V_mono (ok' := (fun k_ => ((P0_ k_ ∨ P3_ k_) ∨ w.heap.size ≤ k_))) (HO215.out) (fun k_ hk => hk))))) (Reps.one (show Kd.FK (Kd.slice 94 k94) _ _ l3 [.slice A3 l3.length c3] from (Kd.FK_slice_mk (Kd.V_reads' (Kd.V_mono (ok' := (fun k_ => ((P0_ k_ ∨ P3_ k_) ∨ w.heap.size ≤ k_))) (HO_3.out) (fun k_ hk => hk))).2.1 (Kd.V_F (Kd.V_mono (ok' := (fun k_ => ((P0_ k_ ∨ P3_ k_) ∨ w.heap.size ≤ k_))) (HO_3.out) (fun k_ hk => hk))))) (Reps.one (show Kd.FK (Kd.slice 94 k94) _ _ y216 [.slice A32 y216.length c32] from (Kd.FK_slice_mk (Kd.V_reads' (Kd.V_mono (ok' := (fun k_ => ((P0_ k_ ∨ P3_ k_) ∨ w.heap.size ≤ k_))) (HO220.out) (fun k_ hk => hk))).2.1 (Kd.V_F (Kd.V_mono (ok' := (fun k_ => ((P0_ k_ ∨ P3_ k_) ∨ w.heap.size ≤ k_))) (HO220.out) (fun k_ hk => hk))))) (Reps.none _ _)))))
                  intro v222 w33 ho34 hb hg_ hnew_
                  clear hg_ hnew_
                  (first | rw [← Ny221.out] at ho34 | (simp only [Int.reduceToNat] at ho34; rw [← Ny221.out] at ho34))
                  have n0_ := Aside0.mk (Kd.V_elder' (by (with_reducible repeat (first | apply Kd.V_alloc | apply Kd.V_drewN | apply Kd.V_drew)); exact HO_0.out) (Kd.N_base ho34) hb)
                  have n1_ := Aside0.mk (Kd.V_elder' (by (with_reducible repeat (first | apply Kd.V_alloc | apply Kd.V_drewN | apply Kd.V_drew)); exact HO_3.out) (Kd.N_base ho34) hb)
                  have n2_ := Aside0.mk (Kd.V_elder' (by (with_reducible repeat (first | apply Kd.V_alloc | apply Kd.V_drewN | apply Kd.V_drew)); exact HO215.out) (Kd.N_base ho34) hb)
                  have n3_ := Aside0.mk (Kd.V_elder' (by (with_reducible repeat (first | apply Kd.V_alloc | apply Kd.V_drewN | apply Kd.V_drew)); exact HO220.out) (Kd.N_base ho34) hb)
                  have n4_ := Aside0.mk (Kd.N_lower ho34 (below_size (by repeat (first | (with_reducible first | exact HB.out | apply below_alloc | apply pw_below_drewN | apply below_drew1) | exact HB.out))))
                  have n5_ := Aside0.mk (below_step (by repeat (first | (with_reducible first | exact HB.out | apply below_alloc | apply pw_below_drewN | apply below_drew1) | exact HB.out)) hb)
                  clear HO_0
                  clear HO_3
                  clear HO215
                  clear HO220
                  clear HB
                  have HO_0 := n0_
                  have HO_3 := n1_
                  have HO215 := n2_
                  have HO220 := n3_
                  have HO223 := n4_
                  have HB := n5_
                  clear n0_ n1_ n2_ n3_ n4_ n5_
                  clear hb ho34
                  obtain ⟨Ao35, co35, eo35⟩ := Kd.N_slice HO223.out
                  (first | subst eo35 | (injection eo35 with f1_ f2_ f3_; have f4_ := f1_.symm; have f5_ := f3_.symm; clear f1_ f2_ f3_; subst f4_; subst f5_))
                  refine hK.out _ _ trivial (fun hHeld => ?_)
                  clear hK K
                  refine norm_ (a' := ?_) ?_ ?_
                  rotate_left
                  · show Act.put _ (some 45) _ = _
                    simp only [Act.put, List.setIfInBounds_toArray, List.set_cons_zero, List.set_cons_succ, i64_w, i32_w]
                    rfl
                  refine one_ (i := 9) (N := some 46) #[true, true, true, true, true, true, true, true, true, true, false] rfl rfl (one_of HT_.out (by kernel_rfl)) (by decide) (fun K hK => ?_)
                  refine goes_ Try.func82 (by kernel_rfl) rfl #[.slice Ao35 y221.length co35] (by rfl) rfl rfl (by (try simp only [List.map_toArray, List.map_cons, List.map_nil]); first | done | rfl | (simp only [List.length_drop, List.length_take]; rfl)) ?_
                  with_reducible refine (slices_Concat_limpl_Node.calls kj4 _ _ y221 t224 _ ?side1 ?side2 A27.out).mono ?_
                  (case side1 => repeat (first | exact (Kd.N_reads' HO223.out).2.2 | (with_reducible refine Kd.C_alloc ?_ _) | (with_reducible refine Kd.C_drewN ?_ _) | (with_reducible refine Kd.C_drew ?_)))
                  (case side2 => exact (Kd.N_reads' HO223.out).2.1)
                  rintro e w36 ⟨v225, rfl, ho0, hb⟩
                  refine ⟨_, rfl, ?_⟩
                  have n0_ := Aside0.mk (Kd.V_elder' (by (with_reducible repeat (first | apply Kd.V_alloc | apply Kd.V_drewN | apply Kd.V_drew)); exact HO_0.out) (Kd.R_base ho0) hb)
                  have n1_ := Aside0.mk (Kd.V_elder' (by (with_reducible repeat (first | apply Kd.V_alloc | apply Kd.V_drewN | apply Kd.V_drew)); exact HO_3.out) (Kd.R_base ho0) hb)
                  have n2_ := Aside0.mk (Kd.V_elder' (by (with_reducible repeat (first | apply Kd.V_alloc | apply Kd.V_drewN | apply Kd.V_drew)); exact HO215.out) (Kd.R_base ho0) hb)
                  have n3_ := Aside0.mk (Kd.V_elder' (by (with_reducible repeat (first | apply Kd.V_alloc | apply Kd.V_drewN | apply Kd.V_drew)); exact HO220.out) (Kd.R_base ho0) hb)
                  have n4_ := Aside0.mk (Kd.N_elder' (by (with_reducible repeat (first | apply Kd.N_alloc | apply Kd.N_drewN | apply Kd.N_drew)); exact HO223.out) (Kd.R_base ho0) hb)
                  have n5_ := Aside0.mk (Kd.R_lower (Kd.R_newM (M := fun k_ => (w.heap.size ≤ k_)) ho0 (below_size (by repeat (first | (with_reducible first | exact HB.out | apply below_alloc | apply pw_below_drewN | apply below_drew1) | exact HB.out))) (fun k_ h_ => h_)) (below_size (by repeat (first | (with_reducible first | exact HB.out | apply below_alloc | apply pw_below_drewN | apply below_drew1) | exact HB.out))))
                  have n6_ := Aside0.mk (below_step (by repeat (first | (with_reducible first | exact HB.out | apply below_alloc | apply pw_below_drewN | apply below_drew1) | exact HB.out)) hb)
                  clear HO_0
                  clear HO_3
                  clear HO215
                  clear HO220
                  clear HO223
                  clear HB
                  have HO_0 := n0_
                  have HO_3 := n1_
                  have HO215 := n2_
                  have HO220 := n3_
                  have HO223 := n4_
                  have HO226 := n5_
                  have HB := n6_
                  clear n0_ n1_ n2_ n3_ n4_ n5_ n6_
                  (try clear hb)
                  (try clear hb2)
                  (try clear hk)
                  (try clear hi)
                  (try clear ho0)
                  refine hK.out _ _ trivial (fun hHeld => ?_)
                  clear hK K
                  refine norm_ (a' := ?_) ?_ ?_
                  rotate_left
                  · show Act.put _ (some 46) _ = _
                    simp only [Act.put, List.setIfInBounds_toArray, List.set_cons_zero, List.set_cons_succ, i64_w, i32_w]
                    rfl
                  refine pure_ (i := 10) (N := some 10) (v := ?_) (a' := ?_) #[true, true, true, true, true, true, true, true, true, true, true] rfl rfl (any_of HT_.out (by kernel_rfl)) (fun _ _ _ h => h) (Or.inl ⟨by rfl, ?_⟩) ?_ ?_
                  rotate_left
                  · intro w'
                    go_simp
                    with_reducible rfl
                  rotate_left
                  · simp only [Act.put, List.setIfInBounds_toArray, List.set_cons_zero, List.set_cons_succ, i64_w, i32_w]
                    rfl
                  refine done_ (done_of HT_.out (by kernel_rfl)) ?_
                  obtain ⟨Ao37, co37, eo37⟩ := Kd.R_slice HO226.out
                  subst eo37
                  try go_wp2_with (first | ((with_reducible refine gate_callee (f := 73) rfl ?_); refine goesL_ (some 49) rfl rfl Try.func73 (by kernel_rfl) rfl #[.slice Ao37 t224.length co37, .int .i64 a1] rfl (by (try simp only [List.map_toArray, List.map_cons, List.map_nil]); first | done | rfl | (simp only [List.length_drop, List.length_take]; rfl)) ?_; (with_reducible refine (impl_isTree.calls kj4 _ _ t224 a1 true _ ?side1 ?side2 A28.out).mono ?_); (case side1 => repeat (first | exact (Kd.R_reads' HO226.out).2.2 | (with_reducible refine Kd.C_alloc ?_ _) | (with_reducible refine Kd.C_drewN ?_ _) | (with_reducible refine Kd.C_drew ?_))); (case side2 => exact (Kd.R_reads' HO226.out).2.1); rintro e w38 ⟨rfl, hb⟩; refine ⟨_, rfl, ?_⟩; have n0_ := Aside0.mk (Kd.V_below (by (with_reducible repeat (first | apply Kd.V_alloc | apply Kd.V_drewN | apply Kd.V_drew)); exact HO_0.out) hb); have n1_ := Aside0.mk (Kd.V_below (by (with_reducible repeat (first | apply Kd.V_alloc | apply Kd.V_drewN | apply Kd.V_drew)); exact HO_3.out) hb); have n2_ := Aside0.mk (Kd.V_below (by (with_reducible repeat (first | apply Kd.V_alloc | apply Kd.V_drewN | apply Kd.V_drew)); exact HO215.out) hb); have n3_ := Aside0.mk (Kd.V_below (by (with_reducible repeat (first | apply Kd.V_alloc | apply Kd.V_drewN | apply Kd.V_drew)); exact HO220.out) hb); have n4_ := Aside0.mk (Kd.N_below (by (with_reducible repeat (first | apply Kd.N_alloc | apply Kd.N_drewN | apply Kd.N_drew)); exact HO223.out) hb); have n5_ := Aside0.mk (Kd.R_below (by (with_reducible repeat (first | apply Kd.R_alloc | apply Kd.R_drewN | apply Kd.R_drew)); exact HO226.out) hb); have n6_ := Aside0.mk (below_step (by repeat (first | (with_reducible first | exact HB.out | apply below_alloc | apply pw_below_drewN | apply below_drew1) | exact HB.out)) hb); clear HO_0; clear HO_3; clear HO215; clear HO220; clear HO223; clear HO226; clear HB; have HO_0 := n0_; have HO_3 := n1_; have HO215 := n2_; have HO220 := n3_; have HO223 := n4_; have HO226 := n5_; have HB := n6_; clear n0_ n1_ n2_ n3_ n4_ n5_ n6_; (try clear hb); (try clear hb2); (try clear hk); (try clear hi)))
                  go_ret2
                  exact ⟨_, by first | rfl | (simp [errW_none, errW_some] <;> rfl) | (simp only [← hji24]; first | rfl | (simp [errW_none, errW_some] <;> rfl)) | (simp [*, errW_none, errW_some] <;> rfl), by (with_reducible repeat (first | apply Kd.R_alloc | apply Kd.R_drewN | apply Kd.R_drew)); exact Kd.R_mono HO226.out (fun _ hk => hk.1), by repeat (first | (with_reducible first | exact HB.out | apply below_alloc | apply pw_below_drewN | apply below_drew1) | exact HB.out)⟩
                · replace c29 := Bool.eq_false_iff.mpr c29
                  subst c29
                  have H1 : (some (([] : List (S94)), false)) = some (r1, r2) := by rw [if_neg (show ¬ (false = true) by decide)] at H; exact H
                  clear H
                  have H := H1
                  clear H1
                  simp only [Option.some.injEq, Prod.mk.injEq] at H
                  obtain ⟨rfl, rfl⟩ := H
                  try go_wp2
                  have n0_ := Aside0.mk (Kd.V_drew HO_0.out)
                  have n1_ := Aside0.mk (Kd.V_drew HO_3.out)
                  have n2_ := Aside0.mk (below_drew1 HB.out)
                  clear HO_0
                  clear HO_3
                  clear HB
                  have HO_0 := n0_
                  have HO_3 := n1_
                  have HB := n2_
                  clear n0_ n1_ n2_
                  have q40 : (a2 : Int) ≤ ((l0.length : Int) : Int) := of_decide_eq_true (by first | (with_reducible assumption) | assumption)
                  obtain ⟨i040, hi040, _, hsz40, _⟩ := info_parts info94
                  have hroom40 : l0.length ≤ c0 := (Kd.V_reads' HO_0.out).2.1
                  have hC40 : Kd.F k94 _ _ A0 l0.length l0 := (Kd.V_at (base := w.heap.size) HO_0.out).2.2
                  have hcut40 := cut_to (P := Try.prog) 31 94 .i64 Try.underlying31 hi040 A0 l0.length c0 a2 (of_decide_eq_true (by first | (with_reducible assumption) | assumption)) q40 hroom40
                  have hr40 := Kd.F_take (m := (a2 : Int).toNat) hC40 (by omega)
                  have hy40 : y211.length = (a2 : Int).toNat := (by rw [Ny211.out, List.length_take]; omega)
                  rw [← Ny211.out] at hr40
                  rw [← hy40] at hcut40
                  have HO215 := Aside0.mk (show Kd.V k94 94 _ w.heap.size _ (.slice A0 y211.length c0) y211 from Kd.V_mk (by omega) hr40)
                  have HC215 := Aside0.mk (show y211.length ≤ c0 from by omega)
                  clear hr40 hC40 hroom40 hi040 hsz40
                  have KY40 := Aside0.mk hy40
                  clear hy40
                  replace q40 := eq_true q40
                  have q41 : ((ji24) : Int) ≤ ((l0.length : Int) : Int) := of_decide_eq_true (by first | (with_reducible assumption) | assumption)
                  obtain ⟨i041, hi041, _, hsz41, _⟩ := info_parts info94
                  have hroom41 : l0.length ≤ c0 := (Kd.V_reads' HO_0.out).2.1
                  have hC41 : Kd.F k94 _ _ A0 l0.length l0 := (Kd.V_at (base := w.heap.size) HO_0.out).2.2
                  have q041 : (0 : Int) ≤ ((ji24) : Int) := of_decide_eq_true (by first | (with_reducible assumption) | assumption)
                  have hcut41 := cut_from (P := Try.prog) 31 94 .i64 Try.underlying31 hi041 2 hsz41 A0 l0.length c0 (ji24) q041 q41
                  have hr41 := Kd.F_cut (m := ((ji24) : Int).toNat) (c := c0) hC41 (by omega) hroom41
                  obtain ⟨A41, hA41⟩ : ∃ A1, A1 = (if c0 = ((ji24) : Int).toNat then A0 else (A0 : Option Addr).map (·.add (((ji24) : Int).toNat * 2))) := ⟨_, rfl⟩
                  obtain ⟨c41, hc41⟩ : ∃ c1, c1 = c0 - ((ji24) : Int).toNat := ⟨_, rfl⟩
                  have hy41 : y216.length = l0.length - ((ji24) : Int).toNat := (by rw [Ny216.out, List.length_drop] <;> omega)
                  rw [show (l0).drop ((ji24) : Int).toNat = y216 from Ny216.out.symm] at hr41
                  replace hr41 : Kd.F k94 _ _ A41 y216.length y216 := (by rw [hA41]; exact hr41)
                  rw [← hy41, ← hA41, ← hc41] at hcut41
                  have HO220 := Aside0.mk (show Kd.V k94 94 _ w.heap.size _ (.slice A41 y216.length c41) y216 from Kd.V_mk (by rw [hy41, hc41]; exact Nat.sub_le_sub_right hroom41 _) hr41)
                  have HC220 := Aside0.mk (show y216.length ≤ c41 from by rw [hy41, hc41]; exact Nat.sub_le_sub_right hroom41 _)
                  clear hr41 hC41 hroom41 hi041 hsz41 hc41
                  have KY41 := Aside0.mk hy41
                  have KA41 := Aside0.mk hA41
                  clear hy41 hA41
                  replace q41 := eq_true q41
                  refine start_ (n := 11) (S := fun w' => True) (ds := []) #[false, false, false, false, false, false, false, false, false, false, false] (by kernel_rfl) rfl rfl trivial (fun hHeld => ?_); refine with_tabW impl_ReplaceLeaf.tab3 impl_ReplaceLeaf.bits3 (fun HT_ HW_ => ?_)
                  generalize wc.drew = w39 at HO_0 HO_3 HB HO215 HO220 hHeld ⊢
                  refine pure_ (i := 0) (N := some 37) (v := ?_) (a' := ?_) #[true, false, false, false, false, false, false, false, false, false, false] rfl rfl (any_of HT_.out (by kernel_rfl)) (fun _ _ _ h => h) (Or.inl ⟨by rfl, ?_⟩) ?_ ?_
                  rotate_left
                  · intro w'
                    go_simp
                    with_reducible rfl
                  rotate_left
                  · simp only [Act.put, List.setIfInBounds_toArray, List.set_cons_zero, List.set_cons_succ, i64_w, i32_w]
                    rfl
                  refine pure_ (i := 1) (N := some 38) (v := ?_) (a' := ?_) #[true, true, false, false, false, false, false, false, false, false, false] rfl rfl (any_of HT_.out (by kernel_rfl)) (fun _ _ _ h => h) (Or.inl ⟨by rfl, ?_⟩) ?_ ?_
                  rotate_left
                  · intro w'
                    go_simp
                    with_reducible rfl
                  rotate_left
                  · simp only [Act.put, List.setIfInBounds_toArray, List.set_cons_zero, List.set_cons_succ, i64_w, i32_w]
                    rfl
                  refine pure_ (i := 2) (N := some 39) (v := ?_) (a' := ?_) #[true, true, true, false, false, false, false, false, false, false, false] rfl rfl (any_of HT_.out (by kernel_rfl)) (fun _ _ _ h => h) (Or.inl ⟨by rfl, ?_⟩) ?_ ?_
                  rotate_left
                  · intro w'
                    go_simp
                    with_reducible rfl
                  rotate_left
                  · simp only [Act.put, List.setIfInBounds_toArray, List.set_cons_zero, List.set_cons_succ, i64_w, i32_w]
                    rfl
                  refine pure_ (i := 3) (N := some 40) (v := ?_) (a' := ?_) #[true, true, true, true, false, false, false, false, false, false, false] rfl rfl (any_of HT_.out (by kernel_rfl)) (fun _ _ _ h => h) (Or.inl ⟨by rfl, ?_⟩) ?_ ?_
                  rotate_left
                  · intro w'
                    go_simp
                    with_reducible rfl
                  rotate_left
                  · simp only [Act.put, List.setIfInBounds_toArray, List.set_cons_zero, List.set_cons_succ, i64_w, i32_w]
                    rfl
                  refine pure_ (i := 4) (N := some 41) (v := ?_) (a' := ?_) #[true, true, true, true, true, false, false, false, false, false, false] rfl rfl (any_of HT_.out (by kernel_rfl)) (fun _ _ _ h => h) (Or.inl ⟨by rfl, ?_⟩) ?_ ?_
                  rotate_left
                  · intro w'
                    go_simp
                    with_reducible rfl
                  rotate_left
                  · simp only [Act.put, List.setIfInBounds_toArray, List.set_cons_zero, List.set_cons_succ, i64_w, i32_w]
                    rfl
                  refine pure_ (i := 5) (N := some 42) (v := ?_) (a' := ?_) #[true, true, true, true, true, true, false, false, false, false, false] rfl rfl (any_of HT_.out (by kernel_rfl)) (fun _ _ _ h => h) (Or.inl ⟨by rfl, ?_⟩) ?_ ?_
                  rotate_left
                  · intro w'
                    go_simp
                    with_reducible rfl
                  rotate_left
                  · simp only [Act.put, List.setIfInBounds_toArray, List.set_cons_zero, List.set_cons_succ, i64_w, i32_w]
                    rfl
                  refine pure_ (i := 6) (N := some 43) (v := ?_) (a' := ?_) #[true, true, true, true, true, true, true, false, false, false, false] rfl rfl (any_of HT_.out (by kernel_rfl)) (fun _ _ _ h => h) (Or.inl ⟨by rfl, ?_⟩) ?_ ?_
                  rotate_left
                  · intro w'
                    go_simp
                    with_reducible rfl
                  rotate_left
                  · simp only [Act.put, List.setIfInBounds_toArray, List.set_cons_zero, List.set_cons_succ, i64_w, i32_w]
                    rfl
                  refine pure_ (i := 7) (N := some 44) (v := ?_) (a' := ?_) #[true, true, true, true, true, true, true, true, false, false, false] rfl rfl (any_of HT_.out (by kernel_rfl)) (fun _ _ _ h => h) (Or.inl ⟨by rfl, ?_⟩) ?_ ?_
                  rotate_left
                  · intro w'
                    go_simp
                    with_reducible rfl
                  rotate_left
                  · simp only [Act.put, List.setIfInBounds_toArray, List.set_cons_zero, List.set_cons_succ, i64_w, i32_w]
                    rfl
                  refine one_ (i := 8) (N := some 45) #[true, true, true, true, true, true, true, true, true, false, false] rfl rfl (one_of HT_.out (by kernel_rfl)) (by decide) (fun K hK => ?_)
                  refine Kd.N_lit_step (Kd.slice 94 k94) _ 31 ?hg (N' := 45) ?hd (xs := ([y211, l3, y216] : List (List (S94)))) (inner := [.slice A0 y211.length c0, .slice A3 l3.length c3, .slice A41 y216.length c41]) (ok := (fun k_ => ((P0_ k_ ∨ P3_ k_) ∨ w.heap.size ≤ k_))) (okp := (fun k_ => ((P0_ k_ ∨ P3_ k_) ∨ w.heap.size ≤ k_))) ?hr ?hp (fun _ hk => hk) ((show ∀ k_, w39.heap.size ≤ k_ → (fun k_ => ((P0_ k_ ∨ P3_ k_) ∨ w.heap.size ≤ k_)) k_ from fun k_ hk => (.inr (Nat.le_trans (below_size (by repeat (first | (with_reducible first | exact HB.out | apply below_alloc | apply pw_below_drewN | apply below_drew1) | exact HB.out))) hk))) _ (Nat.le_refl _)) (Below.refl _ _) (Nat.le_refl _) (by simp) ?_; (case hd => rfl); (case hg => rfl); (case hr => first | (go_simp; done) | (go_simp; rfl)); (case hp => exact (Reps.one (show Kd.FK (Kd.slice 94 k94) _ _ y211 [.slice A0 y211.length c0] from (Kd.FK_slice_mk (Kd.V_reads' (Kd.V_mono (ok' := (fun k_ => ((P0_ k_ ∨ P3_ k_) ∨ w.heap.size ≤ k_))) (HO215.out) (fun k_ hk => hk))).2.1 (Kd.V_F (Kd.V_mono (ok' := (fun k_ => ((P0_ k_ ∨ P3_ k_) ∨ w.heap.size ≤ k_))) (HO215.out) (fun k_ hk => hk))))) (Reps.one (show Kd.FK (Kd.slice 94 k94) _ _ l3 [.slice A3 l3.length c3] from (Kd.FK_slice_mk (Kd.V_reads' (Kd.V_mono (ok' := (fun k_ => ((P0_ k_ ∨ P3_ k_) ∨ w.heap.size ≤ k_))) (HO_3.out) (fun k_ hk => hk))).2.1 (Kd.V_F (Kd.V_mono (ok' := (fun k_ => ((P0_ k_ ∨ P3_ k_) ∨ w.heap.size ≤ k_))) (HO_3.out) (fun k_ hk => hk))))) (Reps.one (show Kd.FK (Kd.slice 94 k94) _ _ y216 [.slice A41 y216.length c41] from (Kd.FK_slice_mk (Kd.V_reads' (Kd.V_mono (ok' := (fun k_ => ((P0_ k_ ∨ P3_ k_) ∨ w.heap.size ≤ k_))) (HO220.out) (fun k_ hk => hk))).2.1 (Kd.V_F (Kd.V_mono (ok' := (fun k_ => ((P0_ k_ ∨ P3_ k_) ∨ w.heap.size ≤ k_))) (HO220.out) (fun k_ hk => hk))))) (Reps.none _ _)))))
                  intro v222 w42 ho43 hb hg_ hnew_
                  clear hg_ hnew_
                  (first | rw [← Ny221.out] at ho43 | (simp only [Int.reduceToNat] at ho43; rw [← Ny221.out] at ho43))
                  have n0_ := Aside0.mk (Kd.V_elder' (by (with_reducible repeat (first | apply Kd.V_alloc | apply Kd.V_drewN | apply Kd.V_drew)); exact HO_0.out) (Kd.N_base ho43) hb)
                  have n1_ := Aside0.mk (Kd.V_elder' (by (with_reducible repeat (first | apply Kd.V_alloc | apply Kd.V_drewN | apply Kd.V_drew)); exact HO_3.out) (Kd.N_base ho43) hb)
                  have n2_ := Aside0.mk (Kd.V_elder' (by (with_reducible repeat (first | apply Kd.V_alloc | apply Kd.V_drewN | apply Kd.V_drew)); exact HO215.out) (Kd.N_base ho43) hb)
                  have n3_ := Aside0.mk (Kd.V_elder' (by (with_reducible repeat (first | apply Kd.V_alloc | apply Kd.V_drewN | apply Kd.V_drew)); exact HO220.out) (Kd.N_base ho43) hb)
                  have n4_ := Aside0.mk (Kd.N_lower ho43 (below_size (by repeat (first | (with_reducible first | exact HB.out | apply below_alloc | apply pw_below_drewN | apply below_drew1) | exact HB.out))))
                  have n5_ := Aside0.mk (below_step (by repeat (first | (with_reducible first | exact HB.out | apply below_alloc | apply pw_below_drewN | apply below_drew1) | exact HB.out)) hb)
                  clear HO_0
                  clear HO_3
                  clear HO215
                  clear HO220
                  clear HB
                  have HO_0 := n0_
                  have HO_3 := n1_
                  have HO215 := n2_
                  have HO220 := n3_
                  have HO223 := n4_
                  have HB := n5_
                  clear n0_ n1_ n2_ n3_ n4_ n5_
                  clear hb ho43
                  obtain ⟨Ao44, co44, eo44⟩ := Kd.N_slice HO223.out
                  (first | subst eo44 | (injection eo44 with f1_ f2_ f3_; have f4_ := f1_.symm; have f5_ := f3_.symm; clear f1_ f2_ f3_; subst f4_; subst f5_))
                  refine hK.out _ _ trivial (fun hHeld => ?_)
                  clear hK K
                  refine norm_ (a' := ?_) ?_ ?_
                  rotate_left
                  · show Act.put _ (some 45) _ = _
                    simp only [Act.put, List.setIfInBounds_toArray, List.set_cons_zero, List.set_cons_succ, i64_w, i32_w]
                    rfl
                  refine one_ (i := 9) (N := some 46) #[true, true, true, true, true, true, true, true, true, true, false] rfl rfl (one_of HT_.out (by kernel_rfl)) (by decide) (fun K hK => ?_)
                  refine goes_ Try.func82 (by kernel_rfl) rfl #[.slice Ao44 y221.length co44] (by rfl) rfl rfl (by (try simp only [List.map_toArray, List.map_cons, List.map_nil]); first | done | rfl | (simp only [List.length_drop, List.length_take]; rfl)) ?_
                  with_reducible refine (slices_Concat_limpl_Node.calls kj4 _ _ y221 t224 _ ?side1 ?side2 A27.out).mono ?_
                  (case side1 => repeat (first | exact (Kd.N_reads' HO223.out).2.2 | (with_reducible refine Kd.C_alloc ?_ _) | (with_reducible refine Kd.C_drewN ?_ _) | (with_reducible refine Kd.C_drew ?_)))
                  (case side2 => exact (Kd.N_reads' HO223.out).2.1)
                  rintro e w45 ⟨v225, rfl, ho0, hb⟩
                  refine ⟨_, rfl, ?_⟩
                  have n0_ := Aside0.mk (Kd.V_elder' (by (with_reducible repeat (first | apply Kd.V_alloc | apply Kd.V_drewN | apply Kd.V_drew)); exact HO_0.out) (Kd.R_base ho0) hb)
                  have n1_ := Aside0.mk (Kd.V_elder' (by (with_reducible repeat (first | apply Kd.V_alloc | apply Kd.V_drewN | apply Kd.V_drew)); exact HO_3.out) (Kd.R_base ho0) hb)
                  have n2_ := Aside0.mk (Kd.V_elder' (by (with_reducible repeat (first | apply Kd.V_alloc | apply Kd.V_drewN | apply Kd.V_drew)); exact HO215.out) (Kd.R_base ho0) hb)
                  have n3_ := Aside0.mk (Kd.V_elder' (by (with_reducible repeat (first | apply Kd.V_alloc | apply Kd.V_drewN | apply Kd.V_drew)); exact HO220.out) (Kd.R_base ho0) hb)
                  have n4_ := Aside0.mk (Kd.N_elder' (by (with_reducible repeat (first | apply Kd.N_alloc | apply Kd.N_drewN | apply Kd.N_drew)); exact HO223.out) (Kd.R_base ho0) hb)
                  have n5_ := Aside0.mk (Kd.R_lower (Kd.R_newM (M := fun k_ => (w.heap.size ≤ k_)) ho0 (below_size (by repeat (first | (with_reducible first | exact HB.out | apply below_alloc | apply pw_below_drewN | apply below_drew1) | exact HB.out))) (fun k_ h_ => h_)) (below_size (by repeat (first | (with_reducible first | exact HB.out | apply below_alloc | apply pw_below_drewN | apply below_drew1) | exact HB.out))))
                  have n6_ := Aside0.mk (below_step (by repeat (first | (with_reducible first | exact HB.out | apply below_alloc | apply pw_below_drewN | apply below_drew1) | exact HB.out)) hb)
                  clear HO_0
                  clear HO_3
                  clear HO215
                  clear HO220
                  clear HO223
                  clear HB
                  have HO_0 := n0_
                  have HO_3 := n1_
                  have HO215 := n2_
                  have HO220 := n3_
                  have HO223 := n4_
                  have HO226 := n5_
                  have HB := n6_
                  clear n0_ n1_ n2_ n3_ n4_ n5_ n6_
                  (try clear hb)
                  (try clear hb2)
                  (try clear hk)
                  (try clear hi)
                  (try clear ho0)
                  refine hK.out _ _ trivial (fun hHeld => ?_)
                  clear hK K
                  refine norm_ (a' := ?_) ?_ ?_
                  rotate_left
                  · show Act.put _ (some 46) _ = _
                    simp only [Act.put, List.setIfInBounds_toArray, List.set_cons_zero, List.set_cons_succ, i64_w, i32_w]
                    rfl
                  refine pure_ (i := 10) (N := some 10) (v := ?_) (a' := ?_) #[true, true, true, true, true, true, true, true, true, true, true] rfl rfl (any_of HT_.out (by kernel_rfl)) (fun _ _ _ h => h) (Or.inl ⟨by rfl, ?_⟩) ?_ ?_
                  rotate_left
                  · intro w'
                    go_simp
                    with_reducible rfl
                  rotate_left
                  · simp only [Act.put, List.setIfInBounds_toArray, List.set_cons_zero, List.set_cons_succ, i64_w, i32_w]
                    rfl
                  refine done_ (done_of HT_.out (by kernel_rfl)) ?_
                  obtain ⟨Ao46, co46, eo46⟩ := Kd.R_slice HO226.out
                  subst eo46
                  try go_wp2_with (first | ((with_reducible refine gate_callee (f := 73) rfl ?_); refine goesL_ (some 49) rfl rfl Try.func73 (by kernel_rfl) rfl #[.slice Ao46 t224.length co46, .int .i64 a1] rfl (by (try simp only [List.map_toArray, List.map_cons, List.map_nil]); first | done | rfl | (simp only [List.length_drop, List.length_take]; rfl)) ?_; (with_reducible refine (impl_isTree.calls kj4 _ _ t224 a1 false _ ?side1 ?side2 A28.out).mono ?_); (case side1 => repeat (first | exact (Kd.R_reads' HO226.out).2.2 | (with_reducible refine Kd.C_alloc ?_ _) | (with_reducible refine Kd.C_drewN ?_ _) | (with_reducible refine Kd.C_drew ?_))); (case side2 => exact (Kd.R_reads' HO226.out).2.1); rintro e w47 ⟨rfl, hb⟩; refine ⟨_, rfl, ?_⟩; have n0_ := Aside0.mk (Kd.V_below (by (with_reducible repeat (first | apply Kd.V_alloc | apply Kd.V_drewN | apply Kd.V_drew)); exact HO_0.out) hb); have n1_ := Aside0.mk (Kd.V_below (by (with_reducible repeat (first | apply Kd.V_alloc | apply Kd.V_drewN | apply Kd.V_drew)); exact HO_3.out) hb); have n2_ := Aside0.mk (Kd.V_below (by (with_reducible repeat (first | apply Kd.V_alloc | apply Kd.V_drewN | apply Kd.V_drew)); exact HO215.out) hb); have n3_ := Aside0.mk (Kd.V_below (by (with_reducible repeat (first | apply Kd.V_alloc | apply Kd.V_drewN | apply Kd.V_drew)); exact HO220.out) hb); have n4_ := Aside0.mk (Kd.N_below (by (with_reducible repeat (first | apply Kd.N_alloc | apply Kd.N_drewN | apply Kd.N_drew)); exact HO223.out) hb); have n5_ := Aside0.mk (Kd.R_below (by (with_reducible repeat (first | apply Kd.R_alloc | apply Kd.R_drewN | apply Kd.R_drew)); exact HO226.out) hb); have n6_ := Aside0.mk (below_step (by repeat (first | (with_reducible first | exact HB.out | apply below_alloc | apply pw_below_drewN | apply below_drew1) | exact HB.out)) hb); clear HO_0; clear HO_3; clear HO215; clear HO220; clear HO223; clear HO226; clear HB; have HO_0 := n0_; have HO_3 := n1_; have HO215 := n2_; have HO220 := n3_; have HO223 := n4_; have HO226 := n5_; have HB := n6_; clear n0_ n1_ n2_ n3_ n4_ n5_ n6_; (try clear hb); (try clear hb2); (try clear hk); (try clear hi)))
                  go_ret2
                  exact ⟨_, by first | rfl | (simp [errW_none, errW_some] <;> rfl) | (simp only [← hji24]; first | rfl | (simp [errW_none, errW_some] <;> rfl)) | (simp [*, errW_none, errW_some] <;> rfl), by first | exact Kd.R_nil _ _ _ _ _ | exact Kd.N_nil _ _ _ _ _ | exact Kd.V_nil _ _ _ _ _ | exact Kd.Q_nil _ _ _ _ _ | exact Kd.S_nil _ _ _ _ _, by repeat (first | (with_reducible first | exact HB.out | apply below_alloc | apply pw_below_drewN | apply below_drew1) | exact HB.out)⟩
              · rw [if_neg c26] at H
                exact absurd H (by simp)
            · rw [if_neg c25] at H
              exact absurd H (by simp)
          · rw [if_neg c23] at H
            exact absurd H (by simp)
        · rw [if_neg c22] at H
          exact absurd H (by simp)

/-! ### laws_FnExactReplaceLeaf: function 7 -/
/-- THE ONE PURE STATEMENT of laws_FnExactReplaceLeaf. -/
def laws_FnExactReplaceLeaf.Pure : Prop := ∀ (l0 : List (S94)) (a1 : Int) (a2 : Int) (l3 : List (S94)), (okL ok94) l0 → (okI .i64) a1 → (okI .i64) a2 → (okL ok94) l3 → l0.length + l3.length ≤ 1000000 → ∃ (r1 : List (S94)) (r2 : Bool), (∃ k, spec_ReplaceLeaf.f k l0 a1 a2 l3 = some (r1, r2)) ∧ (∃ k, impl_ReplaceLeaf.f k l0 a1 a2 l3 = some (r1, r2)) ∧ r1.length ≤ 1099511627776
set_option maxHeartbeats 8000000 in
set_option maxRecDepth 100000 in
theorem laws_FnExactReplaceLeaf.walk (P : laws_FnExactReplaceLeaf.Pure) (A0 : Option Addr) (c0 : Nat) (l0 : List (S96)) (a1 : Int) (a2 : Int) (A3 : Option Addr) (c3 : Nat) (l3 : List (S96)) (w : World) (hr0 : Kd.C k96 w A0 l0.length l0) (hc0 : l0.length ≤ c0) (hr3 : Kd.C k96 w A3 l3.length l3) (hc3 : l3.length ≤ c3) (z0 : (okL ok96) l0) (z1 : l0.length * 16 ≤ 140737488351232) (z2 : (okI .i64) a1) (z3 : (okI .i64) a2) (z4 : (okL ok96) l3) (z5 : l3.length * 16 ≤ 140737488351232) :
    Calls Try.prog 7 #[.slice A0 l0.length c0, .int .i64 a1, .int .i64 a2, .slice A3 l3.length c3] w fun e w' => e = .returned (.bool true) ∧ Below w.heap.size w w' := by
  have Z0 := Aside0.mk z0
  have Z1 := Aside0.mk z1
  have Z2 := Aside0.mk z2
  have Z3 := Aside0.mk z3
  have Z4 := Aside0.mk z4
  have Z5 := Aside0.mk z5
  have HR0 := Aside0.mk hr0
  have HC0 := Aside0.mk hc0
  clear hr0 hc0
  have HR3 := Aside0.mk hr3
  have HC3 := Aside0.mk hc3
  clear hr3 hc3
  clear z0 z1 z2 z3 z4 z5
  have HB := Aside0.mk (Below.refl w.heap.size w)
  obtain ⟨s2, fs_, gs_⟩ := x_szNodeS l0 1000000 (by skip; omega) (by skip; omega) Z1.out
  have FSs2 := Aside0.mk fs_
  have GSs2 := Aside0.mk gs_
  clear fs_ gs_
  by_cases q3 : s2 < 0
  · have q3b : decide (s2 < 0) = true := decide_eq_true q3
    have Hq3 := Aside0.mk q3
    clear q3
    go_enter Try.func7, Try.ntmps7
    go_wp2_with (first | ((with_reducible refine gate_callee (f := 21) rfl ?_); refine goesL_ (some 23) rfl rfl Try.func21 (by kernel_rfl) rfl #[.slice A0 l0.length c0, .int .i64 1000000] rfl (by (try simp only [List.map_toArray, List.map_cons, List.map_nil]); first | done | rfl) ?_; (with_reducible refine (laws_szNodeS.calls A0 c0 l0 1000000 s2 _ ?side1 ?side2 FSs2.out).mono ?_); (case side1 => exact (Kd.C_below HR0.out HB.out)); (case side2 => exact HC0.out); rintro e w1 ⟨rfl, hd_⟩; have hb_ := hd_.below; refine ⟨_, rfl, ?_⟩; have nx_ := Aside0.mk (below_step HB.out hb_); clear HB; have HB := nx_; clear nx_; have HZw1 := Aside0.mk (Below.size hb_); clear hb_ hd_))
    go_ret
    exact ⟨rfl, HB.out⟩
  · have q3b : decide (s2 < 0) = false := decide_eq_false q3
    have Hq3 := Aside0.mk q3
    clear q3
    obtain ⟨s5, fs_, gs_⟩ := x_szNodeS l3 s2 (by have h0_ := GSs2.out; have h1_ := Hq3.out; omega) (by have h0_ := GSs2.out; have h1_ := Hq3.out; omega) Z5.out
    have FSs5 := Aside0.mk fs_
    have GSs5 := Aside0.mk gs_
    clear fs_ gs_
    by_cases q6 : s5 < 0
    · have q6b : decide (s5 < 0) = true := decide_eq_true q6
      have Hq6 := Aside0.mk q6
      clear q6
      go_enter Try.func7, Try.ntmps7
      go_wp2_with (first | ((with_reducible refine gate_callee (f := 21) rfl ?_); refine goesL_ (some 23) rfl rfl Try.func21 (by kernel_rfl) rfl #[.slice A0 l0.length c0, .int .i64 1000000] rfl (by (try simp only [List.map_toArray, List.map_cons, List.map_nil]); first | done | rfl) ?_; (with_reducible refine (laws_szNodeS.calls A0 c0 l0 1000000 s2 _ ?side1 ?side2 FSs2.out).mono ?_); (case side1 => exact (Kd.C_below HR0.out HB.out)); (case side2 => exact HC0.out); rintro e w1 ⟨rfl, hd_⟩; have hb_ := hd_.below; refine ⟨_, rfl, ?_⟩; have nx_ := Aside0.mk (below_step HB.out hb_); clear HB; have HB := nx_; clear nx_; have HZw1 := Aside0.mk (Below.size hb_); clear hb_ hd_) | ((with_reducible refine gate_callee (f := 21) rfl ?_); refine goesL_ (some 28) rfl rfl Try.func21 (by kernel_rfl) rfl #[.slice A3 l3.length c3, .int .i64 s2] rfl (by (try simp only [List.map_toArray, List.map_cons, List.map_nil]); first | done | rfl) ?_; (with_reducible refine (laws_szNodeS.calls A3 c3 l3 s2 s5 _ ?side1 ?side2 FSs5.out).mono ?_); (case side1 => exact (Kd.C_below HR3.out HB.out)); (case side2 => exact HC3.out); rintro e w4 ⟨rfl, hd_⟩; have hb_ := hd_.below; refine ⟨_, rfl, ?_⟩; have nx_ := Aside0.mk (below_step HB.out hb_); clear HB; have HB := nx_; clear nx_; have HZw4 := Aside0.mk (Below.size hb_); clear hb_ hd_))
      go_ret
      exact ⟨rfl, HB.out⟩
    · have q6b : decide (s5 < 0) = false := decide_eq_false q6
      have Hq6 := Aside0.mk q6
      clear q6
      obtain ⟨g0, hg0⟩ : ∃ g, g = l0.map x_cvNodeS := ⟨_, rfl⟩
      have HL0 : Aside0 (l0.length ≤ 1000000) := ⟨by have h0_ := GSs2.out; have h1_ := Hq3.out; have h2_ := GSs5.out; have h3_ := Hq6.out; omega⟩
      have HG0 := Aside0.mk (show l0.length = g0.length by rw [hg0, List.length_map])
      have HM0 := Aside0.mk hg0
      clear hg0
      obtain ⟨f0f, ⟨kf0f, hf0f⟩, hn0f, hlt0f, hroom0f, hmx0f⟩ := x_fullNodeS l0 HL0.out false
      rw [← HM0.out] at hlt0f
      have FT0f := Aside0.mk hf0f
      have NE0f := Aside0.mk (show f0f = [] → l0.length = 0 from fun h => by rw [hn0f h]; rfl)
      have LA0f := Aside0.mk hlt0f.1
      have LB0f := Aside0.mk hlt0f.2
      have RO0f := Aside0.mk hroom0f
      have MX0f := Aside0.mk hmx0f
      clear hf0f hn0f hlt0f hroom0f hmx0f
      obtain ⟨g3, hg3⟩ : ∃ g, g = l3.map x_cvNodeS := ⟨_, rfl⟩
      have HL3 : Aside0 (l3.length ≤ 1000000) := ⟨by have h0_ := GSs2.out; have h1_ := Hq3.out; have h2_ := GSs5.out; have h3_ := Hq6.out; omega⟩
      have HG3 := Aside0.mk (show l3.length = g3.length by rw [hg3, List.length_map])
      have HM3 := Aside0.mk hg3
      clear hg3
      obtain ⟨f3f, ⟨kf3f, hf3f⟩, hn3f, hlt3f, hroom3f, hmx3f⟩ := x_fullNodeS l3 HL3.out false
      rw [← HM3.out] at hlt3f
      have FT3f := Aside0.mk hf3f
      have NE3f := Aside0.mk (show f3f = [] → l3.length = 0 from fun h => by rw [hn3f h]; rfl)
      have LA3f := Aside0.mk hlt3f.1
      have LB3f := Aside0.mk hlt3f.2
      have RO3f := Aside0.mk hroom3f
      have MX3f := Aside0.mk hmx3f
      clear hf3f hn3f hlt3f hroom3f hmx3f
      obtain ⟨r1, r2, ⟨ks, hs⟩, ⟨ki, hi⟩, hlr1⟩ := P g0 a1 a2 g3 (x_okNodeS HM0.out Z0.out) Z2.out Z3.out (x_okNodeS HM3.out Z4.out) (by have h0_ := GSs2.out; have h1_ := Hq3.out; have h2_ := GSs5.out; have h3_ := Hq6.out; have hg0_ := HG0.out; have hg3_ := HG3.out; omega)
      have FS := Aside0.mk hs
      have FI := Aside0.mk hi
      clear hs hi
      have HLr1 := Aside0.mk hlr1
      clear hlr1
      obtain ⟨ker1, fe_⟩ := x_eqNodeS r1 HLr1.out
      have FEr1 := Aside0.mk fe_
      clear fe_
      have FR0 := Aside0.mk (x_roomeq g0.length)
      have FN0 : Aside0 ((g0.length : Int) + ((x_room g0.length : Nat) : Int) = ((f0f.length : Nat) : Int)) := ⟨by have h1_ := RO0f.out rfl; have h2_ := HG0.out; rw [h1_, h2_]; omega⟩
      have FR3 := Aside0.mk (x_roomeq g3.length)
      have FN3 : Aside0 ((g3.length : Int) + ((x_room g3.length : Nat) : Int) = ((f3f.length : Nat) : Int)) := ⟨by have h1_ := RO3f.out rfl; have h2_ := HG3.out; rw [h1_, h2_]; omega⟩
      obtain ⟨m43, ym43, ⟨kmm43, fm_⟩, fy_, ⟨khm43, fh_⟩, fz_⟩ := x_markNodeS g0 (by have h_ := HL0.out; have h2_ := HG0.out; omega) 101 (by skip; omega) (by have h0_ := HG0.out; have h1_ := HG3.out; have h2_ := HL0.out; have h3_ := HL3.out; omega)
      have FMm43 := Aside0.mk fm_
      have FYm43 := Aside0.mk fy_
      have FHm43 := Aside0.mk fh_
      have FZm43 := Aside0.mk fz_
      clear fm_ fy_ fh_ fz_
      obtain ⟨m45, ym45, ⟨kmm45, fm_⟩, fy_, ⟨khm45, fh_⟩, fz_⟩ := x_markNodeS g3 (by have h_ := HL3.out; have h2_ := HG3.out; omega) m43 (by have h0_ := FZm43.out; omega) (by have h0_ := FZm43.out; have h1_ := HG0.out; have h2_ := HG3.out; have h3_ := HL0.out; have h4_ := HL3.out; omega)
      have FMm45 := Aside0.mk fm_
      have FYm45 := Aside0.mk fy_
      have FHm45 := Aside0.mk fh_
      have FZm45 := Aside0.mk fz_
      clear fm_ fy_ fh_ fz_
      have hp46 : decide (m45 < 0) = false := decide_eq_false (by have h0_ := FZm43.out; have h1_ := FZm45.out; omega)
      obtain ⟨m49, ym49, ⟨kmm49, fm_⟩, fy_, ⟨khm49, fh_⟩, fz_⟩ := x_markNodeS r1 HLr1.out 101 (by have h0_ := FZm43.out; have h1_ := FZm45.out; omega) (by have h0_ := FZm43.out; have h1_ := FZm45.out; have h2_ := HG0.out; have h3_ := HG3.out; have h4_ := HL0.out; have h5_ := HL3.out; omega)
      have FMm49 := Aside0.mk fm_
      have FYm49 := Aside0.mk fy_
      have FHm49 := Aside0.mk fh_
      have FZm49 := Aside0.mk fz_
      clear fm_ fy_ fh_ fz_
      have hp51 : decide (m49 < 0) = false := decide_eq_false (by have h0_ := FZm43.out; have h1_ := FZm45.out; have h2_ := FZm49.out; omega)
      obtain ⟨f0t, ⟨kf0t, hf0t⟩, hn0t, hlt0t, hroom0t, hmx0t⟩ := x_fullNodeS l0 HL0.out true
      rw [← HM0.out] at hlt0t
      have FT0t := Aside0.mk hf0t
      have NE0t := Aside0.mk (show f0t = [] → l0.length = 0 from fun h => by rw [hn0t h]; rfl)
      have LA0t := Aside0.mk hlt0t.1
      have LB0t := Aside0.mk hlt0t.2
      have RO0t := Aside0.mk hroom0t
      have MX0t := Aside0.mk hmx0t
      clear hf0t hn0t hlt0t hroom0t hmx0t
      obtain ⟨f3t, ⟨kf3t, hf3t⟩, hn3t, hlt3t, hroom3t, hmx3t⟩ := x_fullNodeS l3 HL3.out true
      rw [← HM3.out] at hlt3t
      have FT3t := Aside0.mk hf3t
      have NE3t := Aside0.mk (show f3t = [] → l3.length = 0 from fun h => by rw [hn3t h]; rfl)
      have LA3t := Aside0.mk hlt3t.1
      have LB3t := Aside0.mk hlt3t.2
      have RO3t := Aside0.mk hroom3t
      have MX3t := Aside0.mk hmx3t
      clear hf3t hn3t hlt3t hroom3t hmx3t
      have hp66 : decide (m49 < 0) = false := decide_eq_false (by have h0_ := FZm43.out; have h1_ := FZm45.out; have h2_ := FZm49.out; omega)
      go_enter Try.func7, Try.ntmps7
      go_wp2_with (first | ((with_reducible refine gate_callee (f := 21) rfl ?_); refine goesL_ (some 23) rfl rfl Try.func21 (by kernel_rfl) rfl #[.slice A0 l0.length c0, .int .i64 1000000] rfl (by (try simp only [List.map_toArray, List.map_cons, List.map_nil]); first | done | rfl) ?_; (with_reducible refine (laws_szNodeS.calls A0 c0 l0 1000000 s2 _ ?side1 ?side2 FSs2.out).mono ?_); (case side1 => exact (Kd.C_below HR0.out HB.out)); (case side2 => exact HC0.out); rintro e w1 ⟨rfl, hd_⟩; have hb_ := hd_.below; refine ⟨_, rfl, ?_⟩; have nx_ := Aside0.mk (below_step HB.out hb_); clear HB; have HB := nx_; clear nx_; have HZw1 := Aside0.mk (Below.size hb_); clear hb_ hd_) | ((with_reducible refine gate_callee (f := 21) rfl ?_); refine goesL_ (some 28) rfl rfl Try.func21 (by kernel_rfl) rfl #[.slice A3 l3.length c3, .int .i64 s2] rfl (by (try simp only [List.map_toArray, List.map_cons, List.map_nil]); first | done | rfl) ?_; (with_reducible refine (laws_szNodeS.calls A3 c3 l3 s2 s5 _ ?side1 ?side2 FSs5.out).mono ?_); (case side1 => exact (Kd.C_below HR3.out HB.out)); (case side2 => exact HC3.out); rintro e w4 ⟨rfl, hd_⟩; have hb_ := hd_.below; refine ⟨_, rfl, ?_⟩; have nx_ := Aside0.mk (below_step HB.out hb_); clear HB; have HB := nx_; clear nx_; have HZw4 := Aside0.mk (Below.size hb_); clear hb_ hd_) | ((with_reducible refine gate_callee (f := 23) rfl ?_); refine goesL_ (some 33) rfl rfl Try.func23 (by kernel_rfl) rfl #[.slice A0 l0.length c0, .bool false] rfl (by (try simp only [List.map_toArray, List.map_cons, List.map_nil]); first | done | rfl) ?_; (with_reducible refine (laws_toNodeS.calls kf0f A0 c0 l0 false f0f _ ?side1 ?side2 FT0f.out).mono ?_); (case side1 => exact (Kd.C_below HR0.out HB.out)); (case side2 => exact HC0.out); rintro e w7 ⟨v0_, v1_, rfl, hv_, ho_, hb_⟩; refine ⟨_, rfl, ?_⟩; obtain ⟨A9, c10, rfl, ho2_⟩ := x_to hv_ ho_ HG0.out NE0f.out; have nx_ := Aside0.mk (below_step HB.out hb_); clear HB; have HB := nx_; clear nx_; have HZw7 := Aside0.mk (Below.size hb_); have HO8 := Aside0.mk (x_iv ho2_); clear hb_ ho_ hv_ ho2_) | ((with_reducible refine gate_callee (f := 23) rfl ?_); refine goesL_ (some 37) rfl rfl Try.func23 (by kernel_rfl) rfl #[.slice A3 l3.length c3, .bool false] rfl (by (try simp only [List.map_toArray, List.map_cons, List.map_nil]); first | done | rfl) ?_; (with_reducible refine (laws_toNodeS.calls kf3f A3 c3 l3 false f3f _ ?side1 ?side2 FT3f.out).mono ?_); (case side1 => exact (Kd.C_below HR3.out HB.out)); (case side2 => exact HC3.out); rintro e w11 ⟨v0_, v1_, rfl, hv_, ho_, hb_⟩; refine ⟨_, rfl, ?_⟩; obtain ⟨A13, c14, rfl, ho2_⟩ := x_to hv_ ho_ HG3.out NE3f.out; have nx_ := Aside0.mk (below_step HB.out hb_); clear HB; have HB := nx_; clear nx_; have HZw11 := Aside0.mk (Below.size hb_); have nx_ := Aside0.mk (Kd.R_below HO8.out hb_); clear HO8; have HO8 := nx_; clear nx_; have HO12 := Aside0.mk (x_iv ho2_); clear hb_ ho_ hv_ ho2_) | ((with_reducible refine gate_callee (f := 33) rfl ?_); refine goesL_ (some 38) rfl rfl Try.func33 (by kernel_rfl) rfl #[.slice A9 g0.length c10, .int .i64 a1, .int .i64 a2, .slice A13 g3.length c14] rfl (by (try simp only [List.map_toArray, List.map_cons, List.map_nil]); first | done | rfl) ?_; (with_reducible refine (spec_ReplaceLeaf.calls ks A9 c10 g0 a1 a2 A13 c14 g3 r1 r2 _ ?side1 ?side2 ?side3 ?side4 FS.out).mono ?_); (case side1 => exact (x_rd HO8.out LA0f.out LB0f.out)); (case side2 => exact (x_rc HO8.out LA0f.out)); (case side3 => exact (x_rd HO12.out LA3f.out LB3f.out)); (case side4 => exact (x_rc HO12.out LA3f.out)); rintro e w15 ⟨v0_, rfl, ho0_, hb_⟩; refine ⟨_, rfl, ?_⟩; obtain ⟨A17, c18, rfl⟩ := Kd.R_slice ho0_; have nx_ := Aside0.mk (below_step HB.out hb_); clear HB; have HB := nx_; clear nx_; have HZw15 := Aside0.mk (Below.size hb_); have nx_ := Aside0.mk (Kd.R_below HO8.out hb_); clear HO8; have HO8 := nx_; clear nx_; have nx_ := Aside0.mk (Kd.R_below HO12.out hb_); clear HO12; have HO12 := nx_; clear nx_; have HO16 := Aside0.mk (x_iv ho0_); clear hb_ ho0_) | ((with_reducible refine gate_callee (f := 23) rfl ?_); refine goesL_ (some 42) rfl rfl Try.func23 (by kernel_rfl) rfl #[.slice A0 l0.length c0, .bool false] rfl (by (try simp only [List.map_toArray, List.map_cons, List.map_nil]); first | done | rfl) ?_; (with_reducible refine (laws_toNodeS.calls kf0f A0 c0 l0 false f0f _ ?side1 ?side2 FT0f.out).mono ?_); (case side1 => exact (Kd.C_below HR0.out HB.out)); (case side2 => exact HC0.out); rintro e w19 ⟨v0_, v1_, rfl, hv_, ho_, hb_⟩; refine ⟨_, rfl, ?_⟩; obtain ⟨A21, c22, rfl, ho2_⟩ := x_to hv_ ho_ HG0.out NE0f.out; have nx_ := Aside0.mk (below_step HB.out hb_); clear HB; have HB := nx_; clear nx_; have HZw19 := Aside0.mk (Below.size hb_); have nx_ := Aside0.mk (Kd.R_below HO8.out hb_); clear HO8; have HO8 := nx_; clear nx_; have nx_ := Aside0.mk (Kd.R_below HO12.out hb_); clear HO12; have HO12 := nx_; clear nx_; have nx_ := Aside0.mk (Kd.R_below HO16.out hb_); clear HO16; have HO16 := nx_; clear nx_; have HO20 := Aside0.mk (x_iv ho2_); clear hb_ ho_ hv_ ho2_) | ((with_reducible refine gate_callee (f := 23) rfl ?_); refine goesL_ (some 44) rfl rfl Try.func23 (by kernel_rfl) rfl #[.slice A3 l3.length c3, .bool false] rfl (by (try simp only [List.map_toArray, List.map_cons, List.map_nil]); first | done | rfl) ?_; (with_reducible refine (laws_toNodeS.calls kf3f A3 c3 l3 false f3f _ ?side1 ?side2 FT3f.out).mono ?_); (case side1 => exact (Kd.C_below HR3.out HB.out)); (case side2 => exact HC3.out); rintro e w23 ⟨v0_, v1_, rfl, hv_, ho_, hb_⟩; refine ⟨_, rfl, ?_⟩; obtain ⟨A25, c26, rfl, ho2_⟩ := x_to hv_ ho_ HG3.out NE3f.out; have nx_ := Aside0.mk (below_step HB.out hb_); clear HB; have HB := nx_; clear nx_; have HZw23 := Aside0.mk (Below.size hb_); have nx_ := Aside0.mk (Kd.R_below HO8.out hb_); clear HO8; have HO8 := nx_; clear nx_; have nx_ := Aside0.mk (Kd.R_below HO12.out hb_); clear HO12; have HO12 := nx_; clear nx_; have nx_ := Aside0.mk (Kd.R_below HO16.out hb_); clear HO16; have HO16 := nx_; clear nx_; have nx_ := Aside0.mk (Kd.R_below HO20.out hb_); clear HO20; have HO20 := nx_; clear nx_; have HO24 := Aside0.mk (x_iv ho2_); clear hb_ ho_ hv_ ho2_) | ((with_reducible refine gate_callee (f := 34) rfl ?_); refine goesL_ (some 50) rfl rfl Try.func34 (by kernel_rfl) rfl #[.slice A21 g0.length c22, .int .i64 a1, .int .i64 a2, .slice A25 g3.length c26] rfl (by (try simp only [List.map_toArray, List.map_cons, List.map_nil]); first | done | rfl) ?_; (with_reducible refine (impl_ReplaceLeaf.calls ki (fun k_ => k_ < w23.heap.size) A21 c22 g0 a1 a2 (fun k_ => k_ < w23.heap.size) A25 c26 g3 r1 r2 _ ?side1 ?side2 FI.out).mono ?_); (case side1 => exact Kd.V_mk (x_rc HO20.out LA0f.out) (Kd.C_F k94_heap (x_rd HO20.out LA0f.out LB0f.out))); (case side2 => exact Kd.V_mk (x_rc HO24.out LA3f.out) (Kd.C_F k94_heap (x_rd HO24.out LA3f.out LB3f.out))); rintro e w27 ⟨v0_, rfl, ho0_, hb_⟩; refine ⟨_, rfl, ?_⟩; obtain ⟨A29, c30, rfl⟩ := Kd.R_slice ho0_; have nx_ := Aside0.mk (below_step HB.out hb_); clear HB; have HB := nx_; clear nx_; have HZw27 := Aside0.mk (Below.size hb_); have nx_ := Aside0.mk (Kd.R_below HO8.out hb_); clear HO8; have HO8 := nx_; clear nx_; have nx_ := Aside0.mk (Kd.R_below HO12.out hb_); clear HO12; have HO12 := nx_; clear nx_; have nx_ := Aside0.mk (Kd.R_below HO16.out hb_); clear HO16; have HO16 := nx_; clear nx_; have nx_ := Aside0.mk (Kd.R_below HO20.out hb_); clear HO20; have HO20 := nx_; clear nx_; have nx_ := Aside0.mk (Kd.R_below HO24.out hb_); clear HO24; have HO24 := nx_; clear nx_; have HO28 := Aside0.mk (x_iv ho0_); clear hb_ ho0_) | ((with_reducible refine gate_callee (f := 25) rfl ?_); refine goesL_ (some 55) rfl rfl Try.func25 (by kernel_rfl) rfl #[.slice A29 r1.length c30, .slice A17 r1.length c18] rfl (by (try simp only [List.map_toArray, List.map_cons, List.map_nil]); first | done | rfl) ?_; (with_reducible refine (laws_eqNodeS.calls ker1 A29 c30 r1 A17 c18 r1 true _ ?side1 ?side2 ?side3 ?side4 FEr1.out).mono ?_); (case side1 => exact (Kd.R_reads' HO28.out).2.2); (case side2 => exact (Kd.R_reads' HO28.out).2.1); (case side3 => exact (Kd.R_reads' HO16.out).2.2); (case side4 => exact (Kd.R_reads' HO16.out).2.1); rintro e w31 ⟨rfl, hd_⟩; have hb_ := hd_; refine ⟨_, rfl, ?_⟩; have nx_ := Aside0.mk (below_step HB.out hb_); clear HB; have HB := nx_; clear nx_; have HZw31 := Aside0.mk (Below.size hb_); have nx_ := Aside0.mk (Kd.R_below HO8.out hb_); clear HO8; have HO8 := nx_; clear nx_; have nx_ := Aside0.mk (Kd.R_below HO12.out hb_); clear HO12; have HO12 := nx_; clear nx_; have nx_ := Aside0.mk (Kd.R_below HO16.out hb_); clear HO16; have HO16 := nx_; clear nx_; have nx_ := Aside0.mk (Kd.R_below HO20.out hb_); clear HO20; have HO20 := nx_; clear nx_; have nx_ := Aside0.mk (Kd.R_below HO24.out hb_); clear HO24; have HO24 := nx_; clear nx_; have nx_ := Aside0.mk (Kd.R_below HO28.out hb_); clear HO28; have HO28 := nx_; clear nx_; clear hb_ hd_) | ((with_reducible refine gate_callee (f := 23) rfl ?_); refine goesL_ (some 64) rfl rfl Try.func23 (by kernel_rfl) rfl #[.slice A0 l0.length c0, .bool false] rfl (by (try simp only [List.map_toArray, List.map_cons, List.map_nil]); first | done | rfl) ?_; (with_reducible refine (laws_toNodeS.calls kf0f A0 c0 l0 false f0f _ ?side1 ?side2 FT0f.out).mono ?_); (case side1 => exact (Kd.C_below HR0.out HB.out)); (case side2 => exact HC0.out); rintro e w32 ⟨v0_, v1_, rfl, hv_, ho_, hb_⟩; refine ⟨_, rfl, ?_⟩; obtain ⟨A34, c35, rfl, ho2_⟩ := x_to hv_ ho_ HG0.out NE0f.out; have nx_ := Aside0.mk (below_step HB.out hb_); clear HB; have HB := nx_; clear nx_; have HZw32 := Aside0.mk (Below.size hb_); have nx_ := Aside0.mk (Kd.R_below HO8.out hb_); clear HO8; have HO8 := nx_; clear nx_; have nx_ := Aside0.mk (Kd.R_below HO12.out hb_); clear HO12; have HO12 := nx_; clear nx_; have nx_ := Aside0.mk (Kd.R_below HO16.out hb_); clear HO16; have HO16 := nx_; clear nx_; have nx_ := Aside0.mk (Kd.R_below HO20.out hb_); clear HO20; have HO20 := nx_; clear nx_; have nx_ := Aside0.mk (Kd.R_below HO24.out hb_); clear HO24; have HO24 := nx_; clear nx_; have nx_ := Aside0.mk (Kd.R_below HO28.out hb_); clear HO28; have HO28 := nx_; clear nx_; have HO33 := Aside0.mk (x_iv ho2_); clear hb_ ho_ hv_ ho2_) | ((with_reducible refine gate_callee (f := 26) rfl ?_); refine goesL_ (some 65) rfl rfl Try.func26 (by kernel_rfl) rfl #[.slice A21 g0.length c22, .slice A34 g0.length c35] rfl (by (try simp only [List.map_toArray, List.map_cons, List.map_nil]); first | done | rfl) ?_; (with_reducible refine (laws_intactNodeS.calls g0.length A21 c22 A34 c35 f0f _ _ ?side1 ?side2 ?side3 ?side4 FR0.out FN0.out (by have h_ := MX0f.out; omega)).mono ?_); (case side1 => exact (Kd.R_reads' HO20.out).2.2); (case side2 => exact (Kd.R_reads' HO20.out).2.1); (case side3 => exact (Kd.R_reads' HO33.out).2.2); (case side4 => exact (Kd.R_reads' HO33.out).2.1); rintro e w36 ⟨rfl, hd_⟩; have hb_ := hd_; refine ⟨_, rfl, ?_⟩; have nx_ := Aside0.mk (below_step HB.out hb_); clear HB; have HB := nx_; clear nx_; have HZw36 := Aside0.mk (Below.size hb_); have nx_ := Aside0.mk (Kd.R_below HO8.out hb_); clear HO8; have HO8 := nx_; clear nx_; have nx_ := Aside0.mk (Kd.R_below HO12.out hb_); clear HO12; have HO12 := nx_; clear nx_; have nx_ := Aside0.mk (Kd.R_below HO16.out hb_); clear HO16; have HO16 := nx_; clear nx_; have nx_ := Aside0.mk (Kd.R_below HO20.out hb_); clear HO20; have HO20 := nx_; clear nx_; have nx_ := Aside0.mk (Kd.R_below HO24.out hb_); clear HO24; have HO24 := nx_; clear nx_; have nx_ := Aside0.mk (Kd.R_below HO28.out hb_); clear HO28; have HO28 := nx_; clear nx_; have nx_ := Aside0.mk (Kd.R_below HO33.out hb_); clear HO33; have HO33 := nx_; clear nx_; clear hb_ hd_) | ((with_reducible refine gate_callee (f := 23) rfl ?_); refine goesL_ (some 69) rfl rfl Try.func23 (by kernel_rfl) rfl #[.slice A3 l3.length c3, .bool false] rfl (by (try simp only [List.map_toArray, List.map_cons, List.map_nil]); first | done | rfl) ?_; (with_reducible refine (laws_toNodeS.calls kf3f A3 c3 l3 false f3f _ ?side1 ?side2 FT3f.out).mono ?_); (case side1 => exact (Kd.C_below HR3.out HB.out)); (case side2 => exact HC3.out); rintro e w37 ⟨v0_, v1_, rfl, hv_, ho_, hb_⟩; refine ⟨_, rfl, ?_⟩; obtain ⟨A39, c40, rfl, ho2_⟩ := x_to hv_ ho_ HG3.out NE3f.out; have nx_ := Aside0.mk (below_step HB.out hb_); clear HB; have HB := nx_; clear nx_; have HZw37 := Aside0.mk (Below.size hb_); have nx_ := Aside0.mk (Kd.R_below HO8.out hb_); clear HO8; have HO8 := nx_; clear nx_; have nx_ := Aside0.mk (Kd.R_below HO12.out hb_); clear HO12; have HO12 := nx_; clear nx_; have nx_ := Aside0.mk (Kd.R_below HO16.out hb_); clear HO16; have HO16 := nx_; clear nx_; have nx_ := Aside0.mk (Kd.R_below HO20.out hb_); clear HO20; have HO20 := nx_; clear nx_; have nx_ := Aside0.mk (Kd.R_below HO24.out hb_); clear HO24; have HO24 := nx_; clear nx_; have nx_ := Aside0.mk (Kd.R_below HO28.out hb_); clear HO28; have HO28 := nx_; clear nx_; have nx_ := Aside0.mk (Kd.R_below HO33.out hb_); clear HO33; have HO33 := nx_; clear nx_; have HO38 := Aside0.mk (x_iv ho2_); clear hb_ ho_ hv_ ho2_) | ((with_reducible refine gate_callee (f := 26) rfl ?_); refine goesL_ (some 70) rfl rfl Try.func26 (by kernel_rfl) rfl #[.slice A25 g3.length c26, .slice A39 g3.length c40] rfl (by (try simp only [List.map_toArray, List.map_cons, List.map_nil]); first | done | rfl) ?_; (with_reducible refine (laws_intactNodeS.calls g3.length A25 c26 A39 c40 f3f _ _ ?side1 ?side2 ?side3 ?side4 FR3.out FN3.out (by have h_ := MX3f.out; omega)).mono ?_); (case side1 => exact (Kd.R_reads' HO24.out).2.2); (case side2 => exact (Kd.R_reads' HO24.out).2.1); (case side3 => exact (Kd.R_reads' HO38.out).2.2); (case side4 => exact (Kd.R_reads' HO38.out).2.1); rintro e w41 ⟨rfl, hd_⟩; have hb_ := hd_; refine ⟨_, rfl, ?_⟩; have nx_ := Aside0.mk (below_step HB.out hb_); clear HB; have HB := nx_; clear nx_; have HZw41 := Aside0.mk (Below.size hb_); have nx_ := Aside0.mk (Kd.R_below HO8.out hb_); clear HO8; have HO8 := nx_; clear nx_; have nx_ := Aside0.mk (Kd.R_below HO12.out hb_); clear HO12; have HO12 := nx_; clear nx_; have nx_ := Aside0.mk (Kd.R_below HO16.out hb_); clear HO16; have HO16 := nx_; clear nx_; have nx_ := Aside0.mk (Kd.R_below HO20.out hb_); clear HO20; have HO20 := nx_; clear nx_; have nx_ := Aside0.mk (Kd.R_below HO24.out hb_); clear HO24; have HO24 := nx_; clear nx_; have nx_ := Aside0.mk (Kd.R_below HO28.out hb_); clear HO28; have HO28 := nx_; clear nx_; have nx_ := Aside0.mk (Kd.R_below HO33.out hb_); clear HO33; have HO33 := nx_; clear nx_; have nx_ := Aside0.mk (Kd.R_below HO38.out hb_); clear HO38; have HO38 := nx_; clear nx_; clear hb_ hd_) | ((with_reducible refine gate_callee (f := 27) rfl ?_); refine goesL_ (some 74) rfl rfl Try.func27 (by kernel_rfl) rfl #[.slice A21 g0.length c22, .int .i64 101] rfl (by (try simp only [List.map_toArray, List.map_cons, List.map_nil]); first | done | rfl) ?_; (with_reducible refine (laws_markNodeS.calls kmm43 (fun k_ => w15.heap.size ≤ k_ ∧ k_ < w19.heap.size) (.slice A21 g0.length c22) g0 101 m43 ym43 w _ ?side1 ?side2 FMm43.out).mono ?_); (case side1 => exact HB.out); (case side2 => exact Kd.R_lower (x_rt HO20.out LA0f.out LB0f.out) (by have hw1_ := HZw1.out; have hw4_ := HZw4.out; have hw7_ := HZw7.out; have hw11_ := HZw11.out; have hw15_ := HZw15.out; omega)); rintro e w42 ⟨rfl, ho_, hb_, hk_⟩; refine ⟨_, rfl, ?_⟩; have nx_ := Aside0.mk (x_off HO8.out hk_ (.inl (by have hw11_ := HZw11.out; have hw15_ := HZw15.out; omega))); clear HO8; have HO8 := nx_; clear nx_; have nx_ := Aside0.mk (x_off HO12.out hk_ (.inl (by have hw15_ := HZw15.out; omega))); clear HO12; have HO12 := nx_; clear nx_; have nx_ := Aside0.mk (x_off HO16.out hk_ (.inl (by omega))); clear HO16; have HO16 := nx_; clear nx_; have nx_ := Aside0.mk (x_off HO24.out hk_ (.inr (by omega))); clear HO24; have HO24 := nx_; clear nx_; have nx_ := Aside0.mk (x_off HO28.out hk_ (.inr (by have hw23_ := HZw23.out; omega))); clear HO28; have HO28 := nx_; clear nx_; have nx_ := Aside0.mk (x_off HO33.out hk_ (.inr (by have hw23_ := HZw23.out; have hw27_ := HZw27.out; have hw31_ := HZw31.out; omega))); clear HO33; have HO33 := nx_; clear nx_; have nx_ := Aside0.mk (x_off HO38.out hk_ (.inr (by have hw23_ := HZw23.out; have hw27_ := HZw27.out; have hw31_ := HZw31.out; have hw32_ := HZw32.out; have hw36_ := HZw36.out; omega))); clear HO38; have HO38 := nx_; clear nx_; have nx_ := Aside0.mk (x_own rfl (x_rt HO20.out LA0f.out LB0f.out) ho_); clear HO20; have HO20 := nx_; clear nx_; clear HB; have HB := Aside0.mk hb_; have HZw42 := Aside0.mk hk_.1; clear hb_ ho_ hk_) | ((with_reducible refine gate_callee (f := 27) rfl ?_); refine goesL_ (some 77) rfl rfl Try.func27 (by kernel_rfl) rfl #[.slice A25 g3.length c26, .int .i64 m43] rfl (by (try simp only [List.map_toArray, List.map_cons, List.map_nil]); first | done | rfl) ?_; (with_reducible refine (laws_markNodeS.calls kmm45 (fun k_ => w19.heap.size ≤ k_ ∧ k_ < w23.heap.size) (.slice A25 g3.length c26) g3 m43 m45 ym45 w _ ?side1 ?side2 FMm45.out).mono ?_); (case side1 => exact HB.out); (case side2 => exact Kd.R_lower (x_rt HO24.out LA3f.out LB3f.out) (by have hw1_ := HZw1.out; have hw4_ := HZw4.out; have hw7_ := HZw7.out; have hw11_ := HZw11.out; have hw15_ := HZw15.out; have hw19_ := HZw19.out; omega)); rintro e w44 ⟨rfl, ho_, hb_, hk_⟩; refine ⟨_, rfl, ?_⟩; have nx_ := Aside0.mk (x_off HO8.out hk_ (.inl (by have hw11_ := HZw11.out; have hw15_ := HZw15.out; have hw19_ := HZw19.out; omega))); clear HO8; have HO8 := nx_; clear nx_; have nx_ := Aside0.mk (x_off HO12.out hk_ (.inl (by have hw15_ := HZw15.out; have hw19_ := HZw19.out; omega))); clear HO12; have HO12 := nx_; clear nx_; have nx_ := Aside0.mk (x_off HO16.out hk_ (.inl (by have hw19_ := HZw19.out; omega))); clear HO16; have HO16 := nx_; clear nx_; have nx_ := Aside0.mk (x_off HO20.out hk_ (.inl (by omega))); clear HO20; have HO20 := nx_; clear nx_; have nx_ := Aside0.mk (x_off HO28.out hk_ (.inr (by omega))); clear HO28; have HO28 := nx_; clear nx_; have nx_ := Aside0.mk (x_off HO33.out hk_ (.inr (by have hw27_ := HZw27.out; have hw31_ := HZw31.out; omega))); clear HO33; have HO33 := nx_; clear nx_; have nx_ := Aside0.mk (x_off HO38.out hk_ (.inr (by have hw27_ := HZw27.out; have hw31_ := HZw31.out; have hw32_ := HZw32.out; have hw36_ := HZw36.out; omega))); clear HO38; have HO38 := nx_; clear nx_; have nx_ := Aside0.mk (x_own rfl (x_rt HO24.out LA3f.out LB3f.out) ho_); clear HO24; have HO24 := nx_; clear nx_; clear HB; have HB := Aside0.mk hb_; have HZw44 := Aside0.mk hk_.1; clear hb_ ho_ hk_) | (go_at_call 25; (with_reducible refine (laws_eqNodeS.calls ker1 A29 c30 r1 A17 c18 r1 true _ ?side1 ?side2 ?side3 ?side4 FEr1.out).mono ?_); (case side1 => exact (Kd.R_reads' HO28.out).2.2); (case side2 => exact (Kd.R_reads' HO28.out).2.1); (case side3 => exact (Kd.R_reads' HO16.out).2.2); (case side4 => exact (Kd.R_reads' HO16.out).2.1); rintro e w47 ⟨rfl, hd_⟩; have hb_ := hd_; have nx_ := Aside0.mk (below_step HB.out hb_); clear HB; have HB := nx_; clear nx_; have HZw47 := Aside0.mk (Below.size hb_); have nx_ := Aside0.mk (Kd.R_below HO8.out hb_); clear HO8; have HO8 := nx_; clear nx_; have nx_ := Aside0.mk (Kd.R_below HO12.out hb_); clear HO12; have HO12 := nx_; clear nx_; have nx_ := Aside0.mk (Kd.R_below HO16.out hb_); clear HO16; have HO16 := nx_; clear nx_; have nx_ := Aside0.mk (Kd.R_below HO20.out hb_); clear HO20; have HO20 := nx_; clear nx_; have nx_ := Aside0.mk (Kd.R_below HO24.out hb_); clear HO24; have HO24 := nx_; clear nx_; have nx_ := Aside0.mk (Kd.R_below HO28.out hb_); clear HO28; have HO28 := nx_; clear nx_; have nx_ := Aside0.mk (Kd.R_below HO33.out hb_); clear HO33; have HO33 := nx_; clear nx_; have nx_ := Aside0.mk (Kd.R_below HO38.out hb_); clear HO38; have HO38 := nx_; clear nx_; clear hb_ hd_) | ((with_reducible refine gate_callee (f := 27) rfl ?_); refine goesL_ (some 93) rfl rfl Try.func27 (by kernel_rfl) rfl #[.slice A29 r1.length c30, .int .i64 101] rfl (by (try simp only [List.map_toArray, List.map_cons, List.map_nil]); first | done | rfl) ?_; (with_reducible refine (laws_markNodeS.calls kmm49 (fun k_ => w23.heap.size ≤ k_ ∧ k_ < w27.heap.size) (.slice A29 r1.length c30) r1 101 m49 ym49 w _ ?side1 ?side2 FMm49.out).mono ?_); (case side1 => exact HB.out); (case side2 => exact Kd.R_lower HO28.out (by have hw1_ := HZw1.out; have hw4_ := HZw4.out; have hw7_ := HZw7.out; have hw11_ := HZw11.out; have hw15_ := HZw15.out; have hw19_ := HZw19.out; have hw23_ := HZw23.out; omega)); rintro e w48 ⟨rfl, ho_, hb_, hk_⟩; refine ⟨_, rfl, ?_⟩; have nx_ := Aside0.mk (x_off HO8.out hk_ (.inl (by have hw11_ := HZw11.out; have hw15_ := HZw15.out; have hw19_ := HZw19.out; have hw23_ := HZw23.out; omega))); clear HO8; have HO8 := nx_; clear nx_; have nx_ := Aside0.mk (x_off HO12.out hk_ (.inl (by have hw15_ := HZw15.out; have hw19_ := HZw19.out; have hw23_ := HZw23.out; omega))); clear HO12; have HO12 := nx_; clear nx_; have nx_ := Aside0.mk (x_off HO16.out hk_ (.inl (by have hw19_ := HZw19.out; have hw23_ := HZw23.out; omega))); clear HO16; have HO16 := nx_; clear nx_; have nx_ := Aside0.mk (x_off HO20.out hk_ (.inl (by have hw23_ := HZw23.out; omega))); clear HO20; have HO20 := nx_; clear nx_; have nx_ := Aside0.mk (x_off HO24.out hk_ (.inl (by omega))); clear HO24; have HO24 := nx_; clear nx_; have nx_ := Aside0.mk (x_off HO33.out hk_ (.inr (by have hw31_ := HZw31.out; omega))); clear HO33; have HO33 := nx_; clear nx_; have nx_ := Aside0.mk (x_off HO38.out hk_ (.inr (by have hw31_ := HZw31.out; have hw32_ := HZw32.out; have hw36_ := HZw36.out; omega))); clear HO38; have HO38 := nx_; clear nx_; have nx_ := Aside0.mk (x_own rfl HO28.out ho_); clear HO28; have HO28 := nx_; clear nx_; clear HB; have HB := Aside0.mk hb_; have HZw48 := Aside0.mk hk_.1; clear hb_ ho_ hk_) | ((with_reducible refine gate_callee (f := 28) rfl ?_); refine goesL_ (some 96) rfl rfl Try.func28 (by kernel_rfl) rfl #[.slice A29 ym49.length c30, .int .i64 101] rfl (by (try simp only [List.map_toArray, List.map_cons, List.map_nil]); first | done | (rw [FYm49.out] <;> rfl) | rfl) ?_; (with_reducible refine (laws_heldNodeS.calls khm49 A29 c30 ym49 101 m49 _ ?side1 ?side2 FHm49.out).mono ?_); (case side1 => exact (x_rdw HO28.out)); (case side2 => exact (x_rcw HO28.out FYm49.out)); rintro e w50 ⟨rfl, hd_⟩; have hb_ := hd_.below; refine ⟨_, rfl, ?_⟩; have nx_ := Aside0.mk (below_step HB.out hb_); clear HB; have HB := nx_; clear nx_; have HZw50 := Aside0.mk (Below.size hb_); have nx_ := Aside0.mk (Kd.R_below HO8.out hb_); clear HO8; have HO8 := nx_; clear nx_; have nx_ := Aside0.mk (Kd.R_below HO12.out hb_); clear HO12; have HO12 := nx_; clear nx_; have nx_ := Aside0.mk (Kd.R_below HO16.out hb_); clear HO16; have HO16 := nx_; clear nx_; have nx_ := Aside0.mk (Kd.R_below HO20.out hb_); clear HO20; have HO20 := nx_; clear nx_; have nx_ := Aside0.mk (Kd.R_below HO24.out hb_); clear HO24; have HO24 := nx_; clear nx_; have nx_ := Aside0.mk (Kd.R_below HO28.out hb_); clear HO28; have HO28 := nx_; clear nx_; have nx_ := Aside0.mk (Kd.R_below HO33.out hb_); clear HO33; have HO33 := nx_; clear nx_; have nx_ := Aside0.mk (Kd.R_below HO38.out hb_); clear HO38; have HO38 := nx_; clear nx_; clear hb_ hd_) | ((with_reducible refine gate_callee (f := 23) rfl ?_); refine goesL_ (some 104) rfl rfl Try.func23 (by kernel_rfl) rfl #[.slice A0 l0.length c0, .bool true] rfl (by (try simp only [List.map_toArray, List.map_cons, List.map_nil]); first | done | rfl) ?_; (with_reducible refine (laws_toNodeS.calls kf0t A0 c0 l0 true f0t _ ?side1 ?side2 FT0t.out).mono ?_); (case side1 => exact (Kd.C_below HR0.out HB.out)); (case side2 => exact HC0.out); rintro e w52 ⟨v0_, v1_, rfl, hv_, ho_, hb_⟩; refine ⟨_, rfl, ?_⟩; obtain ⟨A54, c55, rfl, ho2_⟩ := x_to hv_ ho_ HG0.out NE0t.out; have nx_ := Aside0.mk (below_step HB.out hb_); clear HB; have HB := nx_; clear nx_; have HZw52 := Aside0.mk (Below.size hb_); have nx_ := Aside0.mk (Kd.R_below HO8.out hb_); clear HO8; have HO8 := nx_; clear nx_; have nx_ := Aside0.mk (Kd.R_below HO12.out hb_); clear HO12; have HO12 := nx_; clear nx_; have nx_ := Aside0.mk (Kd.R_below HO16.out hb_); clear HO16; have HO16 := nx_; clear nx_; have nx_ := Aside0.mk (Kd.R_below HO20.out hb_); clear HO20; have HO20 := nx_; clear nx_; have nx_ := Aside0.mk (Kd.R_below HO24.out hb_); clear HO24; have HO24 := nx_; clear nx_; have nx_ := Aside0.mk (Kd.R_below HO28.out hb_); clear HO28; have HO28 := nx_; clear nx_; have nx_ := Aside0.mk (Kd.R_below HO33.out hb_); clear HO33; have HO33 := nx_; clear nx_; have nx_ := Aside0.mk (Kd.R_below HO38.out hb_); clear HO38; have HO38 := nx_; clear nx_; have HO53 := Aside0.mk (x_iv ho2_); clear hb_ ho_ hv_ ho2_) | ((with_reducible refine gate_callee (f := 23) rfl ?_); refine goesL_ (some 108) rfl rfl Try.func23 (by kernel_rfl) rfl #[.slice A3 l3.length c3, .bool true] rfl (by (try simp only [List.map_toArray, List.map_cons, List.map_nil]); first | done | rfl) ?_; (with_reducible refine (laws_toNodeS.calls kf3t A3 c3 l3 true f3t _ ?side1 ?side2 FT3t.out).mono ?_); (case side1 => exact (Kd.C_below HR3.out HB.out)); (case side2 => exact HC3.out); rintro e w56 ⟨v0_, v1_, rfl, hv_, ho_, hb_⟩; refine ⟨_, rfl, ?_⟩; obtain ⟨A58, c59, rfl, ho2_⟩ := x_to hv_ ho_ HG3.out NE3t.out; have nx_ := Aside0.mk (below_step HB.out hb_); clear HB; have HB := nx_; clear nx_; have HZw56 := Aside0.mk (Below.size hb_); have nx_ := Aside0.mk (Kd.R_below HO8.out hb_); clear HO8; have HO8 := nx_; clear nx_; have nx_ := Aside0.mk (Kd.R_below HO12.out hb_); clear HO12; have HO12 := nx_; clear nx_; have nx_ := Aside0.mk (Kd.R_below HO16.out hb_); clear HO16; have HO16 := nx_; clear nx_; have nx_ := Aside0.mk (Kd.R_below HO20.out hb_); clear HO20; have HO20 := nx_; clear nx_; have nx_ := Aside0.mk (Kd.R_below HO24.out hb_); clear HO24; have HO24 := nx_; clear nx_; have nx_ := Aside0.mk (Kd.R_below HO28.out hb_); clear HO28; have HO28 := nx_; clear nx_; have nx_ := Aside0.mk (Kd.R_below HO33.out hb_); clear HO33; have HO33 := nx_; clear nx_; have nx_ := Aside0.mk (Kd.R_below HO38.out hb_); clear HO38; have HO38 := nx_; clear nx_; have nx_ := Aside0.mk (Kd.R_below HO53.out hb_); clear HO53; have HO53 := nx_; clear nx_; have HO57 := Aside0.mk (x_iv ho2_); clear hb_ ho_ hv_ ho2_) | ((with_reducible refine gate_callee (f := 34) rfl ?_); refine goesL_ (some 109) rfl rfl Try.func34 (by kernel_rfl) rfl #[.slice A54 g0.length c55, .int .i64 a1, .int .i64 a2, .slice A58 g3.length c59] rfl (by (try simp only [List.map_toArray, List.map_cons, List.map_nil]); first | done | rfl) ?_; (with_reducible refine (impl_ReplaceLeaf.calls ki (fun k_ => k_ < w56.heap.size) A54 c55 g0 a1 a2 (fun k_ => k_ < w56.heap.size) A58 c59 g3 r1 r2 _ ?side1 ?side2 FI.out).mono ?_); (case side1 => exact Kd.V_mk (x_rc HO53.out LA0t.out) (Kd.C_F k94_heap (x_rd HO53.out LA0t.out LB0t.out))); (case side2 => exact Kd.V_mk (x_rc HO57.out LA3t.out) (Kd.C_F k94_heap (x_rd HO57.out LA3t.out LB3t.out))); rintro e w60 ⟨v0_, rfl, ho0_, hb_⟩; refine ⟨_, rfl, ?_⟩; obtain ⟨A62, c63, rfl⟩ := Kd.R_slice ho0_; have nx_ := Aside0.mk (below_step HB.out hb_); clear HB; have HB := nx_; clear nx_; have HZw60 := Aside0.mk (Below.size hb_); have nx_ := Aside0.mk (Kd.R_below HO8.out hb_); clear HO8; have HO8 := nx_; clear nx_; have nx_ := Aside0.mk (Kd.R_below HO12.out hb_); clear HO12; have HO12 := nx_; clear nx_; have nx_ := Aside0.mk (Kd.R_below HO16.out hb_); clear HO16; have HO16 := nx_; clear nx_; have nx_ := Aside0.mk (Kd.R_below HO20.out hb_); clear HO20; have HO20 := nx_; clear nx_; have nx_ := Aside0.mk (Kd.R_below HO24.out hb_); clear HO24; have HO24 := nx_; clear nx_; have nx_ := Aside0.mk (Kd.R_below HO28.out hb_); clear HO28; have HO28 := nx_; clear nx_; have nx_ := Aside0.mk (Kd.R_below HO33.out hb_); clear HO33; have HO33 := nx_; clear nx_; have nx_ := Aside0.mk (Kd.R_below HO38.out hb_); clear HO38; have HO38 := nx_; clear nx_; have nx_ := Aside0.mk (Kd.R_below HO53.out hb_); clear HO53; have HO53 := nx_; clear nx_; have nx_ := Aside0.mk (Kd.R_below HO57.out hb_); clear HO57; have HO57 := nx_; clear nx_; have HO61 := Aside0.mk (x_iv ho0_); clear hb_ ho0_) | ((with_reducible refine gate_callee (f := 25) rfl ?_); refine goesL_ (some 114) rfl rfl Try.func25 (by kernel_rfl) rfl #[.slice A62 r1.length c63, .slice A17 r1.length c18] rfl (by (try simp only [List.map_toArray, List.map_cons, List.map_nil]); first | done | rfl) ?_; (with_reducible refine (laws_eqNodeS.calls ker1 A62 c63 r1 A17 c18 r1 true _ ?side1 ?side2 ?side3 ?side4 FEr1.out).mono ?_); (case side1 => exact (Kd.R_reads' HO61.out).2.2); (case side2 => exact (Kd.R_reads' HO61.out).2.1); (case side3 => exact (Kd.R_reads' HO16.out).2.2); (case side4 => exact (Kd.R_reads' HO16.out).2.1); rintro e w64 ⟨rfl, hd_⟩; have hb_ := hd_; refine ⟨_, rfl, ?_⟩; have nx_ := Aside0.mk (below_step HB.out hb_); clear HB; have HB := nx_; clear nx_; have HZw64 := Aside0.mk (Below.size hb_); have nx_ := Aside0.mk (Kd.R_below HO8.out hb_); clear HO8; have HO8 := nx_; clear nx_; have nx_ := Aside0.mk (Kd.R_below HO12.out hb_); clear HO12; have HO12 := nx_; clear nx_; have nx_ := Aside0.mk (Kd.R_below HO16.out hb_); clear HO16; have HO16 := nx_; clear nx_; have nx_ := Aside0.mk (Kd.R_below HO20.out hb_); clear HO20; have HO20 := nx_; clear nx_; have nx_ := Aside0.mk (Kd.R_below HO24.out hb_); clear HO24; have HO24 := nx_; clear nx_; have nx_ := Aside0.mk (Kd.R_below HO28.out hb_); clear HO28; have HO28 := nx_; clear nx_; have nx_ := Aside0.mk (Kd.R_below HO33.out hb_); clear HO33; have HO33 := nx_; clear nx_; have nx_ := Aside0.mk (Kd.R_below HO38.out hb_); clear HO38; have HO38 := nx_; clear nx_; have nx_ := Aside0.mk (Kd.R_below HO53.out hb_); clear HO53; have HO53 := nx_; clear nx_; have nx_ := Aside0.mk (Kd.R_below HO57.out hb_); clear HO57; have HO57 := nx_; clear nx_; have nx_ := Aside0.mk (Kd.R_below HO61.out hb_); clear HO61; have HO61 := nx_; clear nx_; clear hb_ hd_) | ((with_reducible refine gate_callee (f := 28) rfl ?_); refine goesL_ (some 123) rfl rfl Try.func28 (by kernel_rfl) rfl #[.slice A29 ym49.length c30, .int .i64 101] rfl (by (try simp only [List.map_toArray, List.map_cons, List.map_nil]); first | done | (rw [FYm49.out] <;> rfl) | rfl) ?_; (with_reducible refine (laws_heldNodeS.calls khm49 A29 c30 ym49 101 m49 _ ?side1 ?side2 FHm49.out).mono ?_); (case side1 => exact (x_rdw HO28.out)); (case side2 => exact (x_rcw HO28.out FYm49.out)); rintro e w65 ⟨rfl, hd_⟩; have hb_ := hd_.below; refine ⟨_, rfl, ?_⟩; have nx_ := Aside0.mk (below_step HB.out hb_); clear HB; have HB := nx_; clear nx_; have HZw65 := Aside0.mk (Below.size hb_); have nx_ := Aside0.mk (Kd.R_below HO8.out hb_); clear HO8; have HO8 := nx_; clear nx_; have nx_ := Aside0.mk (Kd.R_below HO12.out hb_); clear HO12; have HO12 := nx_; clear nx_; have nx_ := Aside0.mk (Kd.R_below HO16.out hb_); clear HO16; have HO16 := nx_; clear nx_; have nx_ := Aside0.mk (Kd.R_below HO20.out hb_); clear HO20; have HO20 := nx_; clear nx_; have nx_ := Aside0.mk (Kd.R_below HO24.out hb_); clear HO24; have HO24 := nx_; clear nx_; have nx_ := Aside0.mk (Kd.R_below HO28.out hb_); clear HO28; have HO28 := nx_; clear nx_; have nx_ := Aside0.mk (Kd.R_below HO33.out hb_); clear HO33; have HO33 := nx_; clear nx_; have nx_ := Aside0.mk (Kd.R_below HO38.out hb_); clear HO38; have HO38 := nx_; clear nx_; have nx_ := Aside0.mk (Kd.R_below HO53.out hb_); clear HO53; have HO53 := nx_; clear nx_; have nx_ := Aside0.mk (Kd.R_below HO57.out hb_); clear HO57; have HO57 := nx_; clear nx_; have nx_ := Aside0.mk (Kd.R_below HO61.out hb_); clear HO61; have HO61 := nx_; clear nx_; clear hb_ hd_))
      go_ret
      exact ⟨rfl, HB.out⟩

end Go.Proofs.Ytnndolcjljhhcaa.PFnExactReplaceLeaf
