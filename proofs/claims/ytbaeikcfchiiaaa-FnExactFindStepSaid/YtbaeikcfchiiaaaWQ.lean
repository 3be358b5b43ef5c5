/- Plain lemmas on the helpers of the laws; printed by a program of the session. -/
import Derived.Test.YtbaeikcfchiiaaaWI
set_option maxRecDepth 100000
set_option linter.unusedVariables false
set_option linter.unusedSimpArgs false
namespace Go.Proofs.YtbaeikcfchiiaaaE
abbrev LzIntS (B : Nat) (x : List (Int)) : Prop := x.length ≤ B
abbrev SzIntS (B : Nat) (x : List (Int)) : Prop := LzIntS B x
theorem slIntS {B : Nat} {x : List (Int)} (h : SzIntS B x) : LzIntS B x := h
theorem q_Dyadic {x : (Int) × (Int)} : w_eqDyadic x.1 x.2 x.1 x.2 = some true := by
  unfold w_eqDyadic
  simp only [decide_true, Bool.not_true, cond_false, cond_true, beq_self_eq_true, Option.bind_some]
theorem q_Interval {x : ((Int) × (Int)) × ((Int) × (Int))} : w_eqInterval x.1.1 x.1.2 x.2.1 x.2.2 x.1.1 x.1.2 x.2.1 x.2.2 = some true := by
  unfold w_eqInterval
  simp only [decide_true, Bool.not_true, cond_false, cond_true, beq_self_eq_true, Option.bind_some, q_Dyadic (x := x.1), q_Dyadic (x := x.2)]
theorem q_IntS {x : List (Int)} (hx : LzIntS maxLen x) : w_eqIntS x x = some true := by
  have hm : x.length ≤ 9223372036854775807 := hx
  unfold w_eqIntS
  rw [cf (by simp)]
  refine walk_loop (n := x.length) (f := fun i => w_eqIntS_1004 x x i) (fun i hi => ?_) ?_
  · show w_eqIntS_1004 _ _ _ = w_eqIntS_1004 _ _ _
    rw [Ew_eqIntS_1004, ct (ltt hi), ct (bA hi), ct (bA hi), gD hi, cf (by simp), sc hi hm]
  · show w_eqIntS_1004 _ _ _ = _
    rw [Ew_eqIntS_1004, cf ltf]
theorem n_IntS {x : List (Int)} {n : Nat} (hn : n ≤ 1000000) (hx : x.length = n + rb n) : w_intactIntS x n x n = some true := by
  have hr := rb_le n
  unfold w_intactIntS
  rw [bsome (roomBehind_v n), rbw hn, ct (by simp), ct (bE (by omega)), ct (by simp; omega), ct (bE (by omega)), ct (by simp; omega), bret]
  exact q_IntS (x := _) (by show List.length _ ≤ 9223372036854775807; simp; omega)
theorem u_IntS {x : List (Int)} (h : LzIntS 1000000 x) (bare : Bool) (d : Int) : ∃ P : List (Int), P.length = x.length ∧ P.map (fun v => v) = x ∧ (∀ v ∈ P, True) ∧ w_toIntS_1005 x (List.replicate (x.length + rb x.length) d) 0 = some (P ++ List.replicate (rb x.length) (-7000000000000000101), x.length) := by
  have hl : x.length ≤ 1000000 := h
  have hr := rb_le x.length
  exact to_loop (R := rb x.length) (f5 := fun outs i => w_toIntS_1005 x outs i) (f9 := fun outs i => w_toIntS_1009 x outs i) (Q := fun v => True) (fgE := fun v => v) (fill := (-7000000000000000101))
    (fun outs i hi ho => ⟨x[i], rfl, trivial, by
        show w_toIntS_1005 x _ _ = w_toIntS_1005 x _ _
        rw [Ew_toIntS_1005, ct (ltt hi), ct (bA hi), ct (bA (by omega)), ct (blt (by rw [Int.toNat_natCast]; omega)), sc hi (by omega), gD hi, Int.toNat_natCast]⟩)
    (fun outs => by
      show w_toIntS_1005 x _ _ = w_toIntS_1009 x _ _
      rw [Ew_toIntS_1005, cf ltf])
    (fun outs i hi ho => by
      show w_toIntS_1009 x _ _ = w_toIntS_1009 x _ _
      rw [Ew_toIntS_1009, ct (ltt hi), ct (bA hi), ct (blt (by rw [Int.toNat_natCast]; omega)), sc hi (by omega), Int.toNat_natCast] <;> rfl)
    (fun outs ho => by
      show w_toIntS_1009 x _ _ = _
      rw [Ew_toIntS_1009, cf ltf, ct (bE (by omega)), Int.toNat_natCast] <;> rfl)
theorem t_IntS {x : List (Int)} (h : LzIntS 1000000 x) (bare : Bool) : ∃ v : List (Int) × Nat, w_toIntS x bare = some v ∧ List.take v.2 v.1 = x ∧ (bare = false → w_intactIntS v.1 v.2 v.1 v.2 = some true) := by
  have hl : x.length ≤ 1000000 := h
  have hr := rb_le x.length
  unfold w_toIntS
  have hw : ∀ {α : Type} (y : Nat → Option α), ((w_roomBehind (x.length : Int)).bind fun r => bif decide (0 ≤ IntKind.wrap .i64 ((x.length : Int) + r)) then bif decide (IntKind.wrap .i64 ((x.length : Int) + r) ≤ IntKind.wrap .i64 ((x.length : Int) + r)) then bif decide (IntKind.wrap .i64 ((x.length : Int) + r) * ((8 : Nat) : Int) ≤ 140737488355328) then y (Int.toNat (IntKind.wrap .i64 ((x.length : Int) + r))) else none else none else none) = y (x.length + rb x.length) := by
    intro α y
    rw [bsome (roomBehind_v x.length), rbw hl, ct (by simp; omega), ct (by simp), ct (by simp; omega), Int.toNat_natCast]
  obtain ⟨P, h1, h2, h3, h4⟩ := u_IntS h bare (0 : Int)
  have main : ∃ v : List (Int) × Nat, w_toIntS_1005 x (List.replicate (x.length + rb x.length) (0 : Int)) 0 = some v ∧ List.take v.2 v.1 = x ∧ (bare = false → w_intactIntS v.1 v.2 v.1 v.2 = some true) :=
    ⟨_, h4, by simp only []; rw [List.take_left' h1]; simpa using h2, fun hb => n_IntS (by omega) (by simp; omega)⟩
  cases bare with
  | false =>
    rw [cf rfl]
    refine Exists.imp (fun v hv => ⟨?_, hv.2⟩) main
    exact (hw (fun m => w_toIntS_1005 x (List.replicate m (0 : Int)) 0)).trans hv.1
  | true =>
    rw [ct rfl]
    by_cases hz : x.length = 0
    · rw [ct (by simpa using hz)]
      obtain rfl : x = [] := List.eq_nil_of_length_eq_zero hz
      exact ⟨([], 0), rfl, rfl, fun h => by cases h⟩
    · rw [cf (by simpa using hz)]
      refine Exists.imp (fun v hv => ⟨?_, hv.2⟩) main
      exact (hw (fun m => w_toIntS_1005 x (List.replicate m (0 : Int)) 0)).trans hv.1
theorem t_Dyadic (x : (Int) × (Int)) : w_toDyadic x.1 x.2 = some x := by
  unfold w_toDyadic
  rfl
theorem t_Interval (x : ((Int) × (Int)) × ((Int) × (Int))) : w_toInterval x.1.1 x.1.2 x.2.1 x.2.2 = some x := by
  unfold w_toInterval
  simp only [t_Dyadic, t_Dyadic, Option.bind_some, bsome]
end Go.Proofs.YtbaeikcfchiiaaaE
