/- Plain lemmas on the helpers of the laws; printed by a program of the session. -/
import Derived.Test.YtchdegcfohegfaaAI
set_option maxRecDepth 100000
set_option linter.unusedVariables false
set_option linter.unusedSimpArgs false
namespace Go.Proofs.YtchdegcfohegfaaE
abbrev LzIntS (B : Nat) (x : List (Int)) : Prop := x.length ≤ B
abbrev SzIntS (B : Nat) (x : List (Int)) : Prop := LzIntS B x
theorem slIntS {B : Nat} {x : List (Int)} (h : SzIntS B x) : LzIntS B x := h
abbrev LzBox (B : Nat) (x : (Int) × (List (Int)) × (List (Int))) : Prop := LzIntS B x.2.1 ∧ LzIntS B x.2.2
abbrev SzBox (B : Nat) (x : (Int) × (List (Int)) × (List (Int))) : Prop := SzIntS B x.2.1 ∧ SzIntS B x.2.2
theorem slBox {B : Nat} {x : (Int) × (List (Int)) × (List (Int))} (h : SzBox B x) : LzBox B x := h
abbrev LzNodeS (B : Nat) (x : List ((Int) × (Int))) : Prop := x.length ≤ B
abbrev SzNodeS (B : Nat) (x : List ((Int) × (Int))) : Prop := LzNodeS B x
theorem slNodeS {B : Nat} {x : List ((Int) × (Int))} (h : SzNodeS B x) : LzNodeS B x := h
abbrev LzBoxS (B : Nat) (x : List ((Int) × (List (Int)) × (List (Int)))) : Prop := x.length ≤ B ∧ ∀ e ∈ x, LzBox B e
abbrev SzBoxS (B : Nat) (x : List ((Int) × (List (Int)) × (List (Int)))) : Prop := LzBoxS B x
theorem slBoxS {B : Nat} {x : List ((Int) × (List (Int)) × (List (Int)))} (h : SzBoxS B x) : LzBoxS B x := h
abbrev LzIntSS (B : Nat) (x : List (List (Int))) : Prop := x.length ≤ B ∧ ∀ e ∈ x, LzIntS B e
abbrev SzIntSS (B : Nat) (x : List (List (Int))) : Prop := LzIntSS B x
theorem slIntSS {B : Nat} {x : List (List (Int))} (h : SzIntSS B x) : LzIntSS B x := h
theorem z_IntS {x : List (Int)} {left : Int} (h0 : 0 ≤ left) (h1 : left ≤ 1000000) (hx : SzIntS maxLen x) : ∃ r, w_szIntS x left = some r ∧ r ≤ left ∧ (0 ≤ r → SzIntS 1000000 x) := by
  have hm : (x.length : Int) ≤ 9223372036854775807 := by have := hx; rw [show maxLen = 9223372036854775807 from rfl] at this; omega
  have hw : IntKind.wrap .i64 (left - (x.length : Int)) = left - x.length := wrap64 (by omega) (by omega)
  unfold w_szIntS
  rw [hw]
  by_cases h : left - (x.length : Int) < 0
  · exact ⟨-1, ct (by simpa using h), by omega, by omega⟩
  · exact ⟨left - x.length, cf (by simpa using h), by omega, fun _ => by show x.length ≤ 1000000; omega⟩
theorem z_Box {x : (Int) × (List (Int)) × (List (Int))} {left : Int} (h0 : 0 ≤ left) (h1 : left ≤ 1000000) (hx : SzBox maxLen x) : ∃ r, w_szBox x.1 x.2.1 x.2.2 left = some r ∧ r ≤ left ∧ (0 ≤ r → SzBox 1000000 x) := by
  unfold w_szBox
  obtain ⟨r0, t0, u0, g0⟩ := z_IntS (left := left) (by omega) (by omega) (hx.1)
  rw [bsome t0]
  by_cases c0 : r0 < 0
  · exact ⟨-1, ct (by simpa using c0), by omega, by omega⟩
  rw [cf (by simpa using c0)]
  obtain ⟨r1, t1, u1, g1⟩ := z_IntS (left := r0) (by omega) (by omega) (hx.2)
  rw [bsome t1]
  by_cases c1 : r1 < 0
  · exact ⟨-1, ct (by simpa using c1), by omega, by omega⟩
  rw [cf (by simpa using c1)]
  exact ⟨r1, rfl, by omega, fun _ => ⟨g0 (by omega), g1 (by omega)⟩⟩
theorem z_NodeS {x : List ((Int) × (Int))} {left : Int} (h0 : 0 ≤ left) (h1 : left ≤ 1000000) (hx : SzNodeS maxLen x) : ∃ r, w_szNodeS x left = some r ∧ r ≤ left ∧ (0 ≤ r → SzNodeS 1000000 x) := by
  have hm : (x.length : Int) ≤ 9223372036854775807 := by have := hx; rw [show maxLen = 9223372036854775807 from rfl] at this; omega
  have hw : IntKind.wrap .i64 (left - (x.length : Int)) = left - x.length := wrap64 (by omega) (by omega)
  unfold w_szNodeS
  rw [hw]
  by_cases h : left - (x.length : Int) < 0
  · exact ⟨-1, ct (by simpa using h), by omega, by omega⟩
  · exact ⟨left - x.length, cf (by simpa using h), by omega, fun _ => by show x.length ≤ 1000000; omega⟩
theorem q_IntS {x : List (Int)} (hx : LzIntS maxLen x) : w_eqIntS x x = some true := by
  have hm : x.length ≤ 9223372036854775807 := hx
  unfold w_eqIntS
  rw [cf (by simp)]
  refine walk_loop (n := x.length) (f := fun i => w_eqIntS_1004 x x i) (fun i hi => ?_) ?_
  · show w_eqIntS_1004 _ _ _ = w_eqIntS_1004 _ _ _
    rw [Ew_eqIntS_1004, ct (ltt hi), ct (bA hi), ct (bA hi), gD hi, cf (by simp), sc hi hm]
  · show w_eqIntS_1004 _ _ _ = _
    rw [Ew_eqIntS_1004, cf ltf]
theorem q_Box {x : (Int) × (List (Int)) × (List (Int))} (hx : LzBox maxLen x) : w_eqBox x.1 x.2.1 x.2.2 x.1 x.2.1 x.2.2 = some true := by
  unfold w_eqBox
  simp only [decide_true, Bool.not_true, cond_false, cond_true, beq_self_eq_true, Option.bind_some, q_IntS (hx.1), q_IntS (hx.2)]
theorem q_BoxS {x : List ((Int) × (List (Int)) × (List (Int)))} (hx : LzBoxS maxLen x) : w_eqBoxS x x = some true := by
  have hm : x.length ≤ 9223372036854775807 := hx.1
  unfold w_eqBoxS
  rw [cf (by simp)]
  refine walk_loop (n := x.length) (f := fun i => w_eqBoxS_1004 x x i) (fun i hi => ?_) ?_
  · show w_eqBoxS_1004 _ _ _ = w_eqBoxS_1004 _ _ _
    rw [Ew_eqBoxS_1004, ct (ltt hi), ct (bA hi), ct (bA hi), gD hi, bsome (q_Box (hx.2 _ (List.getElem_mem hi))), cnt, sc hi hm]
  · show w_eqBoxS_1004 _ _ _ = _
    rw [Ew_eqBoxS_1004, cf ltf]
theorem q_Node {x : (Int) × (Int)} : w_eqNode x.1 x.2 x.1 x.2 = some true := by
  unfold w_eqNode
  simp only [decide_true, Bool.not_true, cond_false, cond_true, beq_self_eq_true, Option.bind_some]
theorem q_NodeS {x : List ((Int) × (Int))} (hx : LzNodeS maxLen x) : w_eqNodeS x x = some true := by
  have hm : x.length ≤ 9223372036854775807 := hx
  unfold w_eqNodeS
  rw [cf (by simp)]
  refine walk_loop (n := x.length) (f := fun i => w_eqNodeS_1004 x x i) (fun i hi => ?_) ?_
  · show w_eqNodeS_1004 _ _ _ = w_eqNodeS_1004 _ _ _
    rw [Ew_eqNodeS_1004, ct (ltt hi), ct (bA hi), ct (bA hi), gD hi, bsome (q_Node), cnt, sc hi hm]
  · show w_eqNodeS_1004 _ _ _ = _
    rw [Ew_eqNodeS_1004, cf ltf]
theorem q_IntSS {x : List (List (Int))} (hx : LzIntSS maxLen x) : w_eqIntSS x x = some true := by
  have hm : x.length ≤ 9223372036854775807 := hx.1
  unfold w_eqIntSS
  rw [cf (by simp)]
  refine walk_loop (n := x.length) (f := fun i => w_eqIntSS_1004 x x i) (fun i hi => ?_) ?_
  · show w_eqIntSS_1004 _ _ _ = w_eqIntSS_1004 _ _ _
    rw [Ew_eqIntSS_1004, ct (ltt hi), ct (bA hi), ct (bA hi), gD hi, bsome (q_IntS (hx.2 _ (List.getElem_mem hi))), cnt, sc hi hm]
  · show w_eqIntSS_1004 _ _ _ = _
    rw [Ew_eqIntSS_1004, cf ltf]
theorem n_IntS {x : List (Int)} {n : Nat} (hn : n ≤ 1000000) (hx : x.length = n + rb n) : w_intactIntS x n x n = some true := by
  have hr := rb_le n
  unfold w_intactIntS
  rw [bsome (roomBehind_v n), rbw hn, ct (by simp), ct (bE (by omega)), ct (by simp; omega), ct (bE (by omega)), ct (by simp; omega), bret]
  exact q_IntS (x := _) (by show List.length _ ≤ 9223372036854775807; simp; omega)
theorem n_NodeS {x : List ((Int) × (Int))} {n : Nat} (hn : n ≤ 1000000) (hx : x.length = n + rb n) : w_intactNodeS x n x n = some true := by
  have hr := rb_le n
  unfold w_intactNodeS
  rw [bsome (roomBehind_v n), rbw hn, ct (by simp), ct (bE (by omega)), ct (by simp; omega), ct (bE (by omega)), ct (by simp; omega), bret]
  exact q_NodeS (x := _) (by show List.length _ ≤ 9223372036854775807; simp; omega)
theorem u_IntS {x : List (Int)} (h : LzIntS 1000000 x) (bare : Bool) (d : Int) : ∃ P : List (Int), P.length = x.length ∧ P.map (fun v => v) = x ∧ (∀ v ∈ P, True) ∧ w_toIntS_1005 x (List.replicate (x.length + rb x.length) d) 0 = some (P ++ List.replicate (rb x.length) (-7000000000000000101), x.length) := by
  have hl : x.length ≤ 1000000 := h
  have hr := rb_le x.length
  exact to_loop (R := rb x.length) (f5 := fun outs i => w_toIntS_1005 x outs i) (f9 := fun outs i => w_toIntS_1009 x outs i) (Q := fun v => True) (fgE := fun v => v) (fill := (-7000000000000000101))
    (fun outs i hi ho => ⟨x[i], rfl, trivial, by
        show w_toIntS_1005 x _ _ = w_toIntS_1005 x _ _
        rw [Ew_toIntS_1005, ct (ltt hi), ct (bA hi), ct (bA (by omega)), ct (blt (by rw [Int.toNat_natCast]; omega)), sc hi (by omega), gD hi, Int.toNat_natCast]⟩)
    (fun outs => by
      show w_toIntS_1005 x _ _ = w_toIntS_1009 x _ _
      rw [Ew_toIntS_1005, cf ltf])
    (fun outs i hi ho => by
      show w_toIntS_1009 x _ _ = w_toIntS_1009 x _ _
      rw [Ew_toIntS_1009, ct (ltt hi), ct (bA hi), ct (blt (by rw [Int.toNat_natCast]; omega)), sc hi (by omega), Int.toNat_natCast] <;> rfl)
    (fun outs ho => by
      show w_toIntS_1009 x _ _ = _
      rw [Ew_toIntS_1009, cf ltf, ct (bE (by omega)), Int.toNat_natCast] <;> rfl)
theorem tt_IntS {x : List (Int)} (h : LzIntS 1000000 x) (bare : Bool) : ∃ v : List (Int) × Nat, w_toIntS x bare = some v ∧ List.take v.2 v.1 = x ∧ (bare = false → w_intactIntS v.1 v.2 v.1 v.2 = some true) ∧ (v.2 = x.length ∧ x.length ≤ v.1.length) := by
  have hl : x.length ≤ 1000000 := h
  have hr := rb_le x.length
  unfold w_toIntS
  have hw : ∀ {α : Type} (y : Nat → Option α), ((w_roomBehind (x.length : Int)).bind fun r => bif decide (0 ≤ IntKind.wrap .i64 ((x.length : Int) + r)) then bif decide (IntKind.wrap .i64 ((x.length : Int) + r) ≤ IntKind.wrap .i64 ((x.length : Int) + r)) then bif decide (IntKind.wrap .i64 ((x.length : Int) + r) * ((8 : Nat) : Int) ≤ 140737488355328) then y (Int.toNat (IntKind.wrap .i64 ((x.length : Int) + r))) else none else none else none) = y (x.length + rb x.length) := by
    intro α y
    rw [bsome (roomBehind_v x.length), rbw hl, ct (by simp; omega), ct (by simp), ct (by simp; omega), Int.toNat_natCast]
  obtain ⟨P, h1, h2, h3, h4⟩ := u_IntS h bare (0 : Int)
  have main : ∃ v : List (Int) × Nat, w_toIntS_1005 x (List.replicate (x.length + rb x.length) (0 : Int)) 0 = some v ∧ List.take v.2 v.1 = x ∧ (bare = false → w_intactIntS v.1 v.2 v.1 v.2 = some true) ∧ (v.2 = x.length ∧ x.length ≤ v.1.length) :=
    ⟨_, h4, by simp only []; rw [List.take_left' h1]; simpa using h2, fun hb => n_IntS (by omega) (by simp; omega), rfl, by simp; omega⟩
  cases bare with
  | false =>
    rw [cf rfl]
    refine Exists.imp (fun v hv => ⟨?_, hv.2⟩) main
    exact (hw (fun m => w_toIntS_1005 x (List.replicate m (0 : Int)) 0)).trans hv.1
  | true =>
    rw [ct rfl]
    by_cases hz : x.length = 0
    · rw [ct (by simpa using hz)]
      obtain rfl : x = [] := List.eq_nil_of_length_eq_zero hz
      exact ⟨([], 0), rfl, rfl, fun h => (by cases h), rfl, Nat.le_refl _⟩
    · rw [cf (by simpa using hz)]
      refine Exists.imp (fun v hv => ⟨?_, hv.2⟩) main
      exact (hw (fun m => w_toIntS_1005 x (List.replicate m (0 : Int)) 0)).trans hv.1
theorem t_IntS {x : List (Int)} (h : LzIntS 1000000 x) (bare : Bool) : ∃ v : List (Int) × Nat, w_toIntS x bare = some v ∧ List.take v.2 v.1 = x ∧ (bare = false → w_intactIntS v.1 v.2 v.1 v.2 = some true) := by
  obtain ⟨v, h1, h2, h3, _⟩ := tt_IntS h bare
  exact ⟨v, h1, h2, h3⟩
theorem tt_Box {x : (Int) × (List (Int)) × (List (Int))} (h : LzBox 1000000 x) (bare : Bool) : ∃ v : (Int) × (List (Int) × Nat) × (List (Int) × Nat), w_toBox x.1 x.2.1 x.2.2 bare = some v ∧ (v.1, List.take v.2.1.2 v.2.1.1, List.take v.2.2.2 v.2.2.1) = x ∧ (bare = false → w_intactBox v.1 v.2.1.1 v.2.1.2 v.2.2.1 v.2.2.2 v.1 v.2.1.1 v.2.1.2 v.2.2.1 v.2.2.2 = some true) ∧ (v.2.1.2 = x.2.1.length ∧ x.2.1.length ≤ v.2.1.1.length) ∧ (v.2.2.2 = x.2.2.length ∧ x.2.2.length ≤ v.2.2.1.length) := by
  obtain ⟨v0, e0, f0, g0, l0⟩ := tt_IntS (h.1) bare
  obtain ⟨v1, e1, f1, g1, l1⟩ := tt_IntS (h.2) bare
  refine ⟨(x.1, v0, v1), ?_, ?_, fun hb => ?_, l0, l1⟩
  · unfold w_toBox
    rw [bsome e0, bsome e1]
    rfl
  · show (x.1, List.take v0.2 v0.1, List.take v1.2 v1.1) = _
    rw [f0, f1]
  · unfold w_intactBox
    simp only [decide_true, Bool.not_true, cond_false, beq_self_eq_true, Option.bind_some, g0 hb, g1 hb]
theorem t_Box {x : (Int) × (List (Int)) × (List (Int))} (h : LzBox 1000000 x) (bare : Bool) : ∃ v : (Int) × (List (Int) × Nat) × (List (Int) × Nat), w_toBox x.1 x.2.1 x.2.2 bare = some v ∧ (v.1, List.take v.2.1.2 v.2.1.1, List.take v.2.2.2 v.2.2.1) = x ∧ (bare = false → w_intactBox v.1 v.2.1.1 v.2.1.2 v.2.2.1 v.2.2.2 v.1 v.2.1.1 v.2.1.2 v.2.2.1 v.2.2.2 = some true) := by
  obtain ⟨v, h1, h2, h3, _⟩ := tt_Box h bare
  exact ⟨v, h1, h2, h3⟩
theorem t_Node (x : (Int) × (Int)) : w_toNode x.1 x.2 = some x := by
  unfold w_toNode
  rfl
theorem u_NodeS {x : List ((Int) × (Int))} (h : LzNodeS 1000000 x) (bare : Bool) (d : (Int) × (Int)) : ∃ P : List ((Int) × (Int)), P.length = x.length ∧ P.map (fun v => v) = x ∧ (∀ v ∈ P, True) ∧ w_toNodeS_1005 x (List.replicate (x.length + rb x.length) d) 0 = some (P ++ List.replicate (rb x.length) ((-7000000000000000101), (-7000000000000000101)), x.length) := by
  have hl : x.length ≤ 1000000 := h
  have hr := rb_le x.length
  exact to_loop (R := rb x.length) (f5 := fun outs i => w_toNodeS_1005 x outs i) (f9 := fun outs i => w_toNodeS_1009 x outs i) (Q := fun v => True) (fgE := fun v => v) (fill := ((-7000000000000000101), (-7000000000000000101)))
    (fun outs i hi ho => ⟨x[i], rfl, trivial, by
        show w_toNodeS_1005 x _ _ = w_toNodeS_1005 x _ _
        rw [Ew_toNodeS_1005, ct (ltt hi), ct (bA hi), ct (bA (by omega)), ct (blt (by rw [Int.toNat_natCast]; omega)), sc hi (by omega), gD hi, Int.toNat_natCast]⟩)
    (fun outs => by
      show w_toNodeS_1005 x _ _ = w_toNodeS_1009 x _ _
      rw [Ew_toNodeS_1005, cf ltf])
    (fun outs i hi ho => by
      show w_toNodeS_1009 x _ _ = w_toNodeS_1009 x _ _
      rw [Ew_toNodeS_1009, ct (ltt hi), ct (bA hi), ct (blt (by rw [Int.toNat_natCast]; omega)), sc hi (by omega), Int.toNat_natCast] <;> rfl)
    (fun outs ho => by
      show w_toNodeS_1009 x _ _ = _
      rw [Ew_toNodeS_1009, cf ltf, ct (bE (by omega)), Int.toNat_natCast] <;> rfl)
theorem tt_NodeS {x : List ((Int) × (Int))} (h : LzNodeS 1000000 x) (bare : Bool) : ∃ v : List ((Int) × (Int)) × Nat, w_toNodeS x bare = some v ∧ List.take v.2 v.1 = x ∧ (bare = false → w_intactNodeS v.1 v.2 v.1 v.2 = some true) ∧ (v.2 = x.length ∧ x.length ≤ v.1.length) := by
  have hl : x.length ≤ 1000000 := h
  have hr := rb_le x.length
  unfold w_toNodeS
  have hw : ∀ {α : Type} (y : Nat → Option α), ((w_roomBehind (x.length : Int)).bind fun r => bif decide (0 ≤ IntKind.wrap .i64 ((x.length : Int) + r)) then bif decide (IntKind.wrap .i64 ((x.length : Int) + r) ≤ IntKind.wrap .i64 ((x.length : Int) + r)) then bif decide (IntKind.wrap .i64 ((x.length : Int) + r) * ((16 : Nat) : Int) ≤ 140737488355328) then y (Int.toNat (IntKind.wrap .i64 ((x.length : Int) + r))) else none else none else none) = y (x.length + rb x.length) := by
    intro α y
    rw [bsome (roomBehind_v x.length), rbw hl, ct (by simp; omega), ct (by simp), ct (by simp; omega), Int.toNat_natCast]
  obtain ⟨P, h1, h2, h3, h4⟩ := u_NodeS h bare ((0 : Int), (0 : Int))
  have main : ∃ v : List ((Int) × (Int)) × Nat, w_toNodeS_1005 x (List.replicate (x.length + rb x.length) ((0 : Int), (0 : Int))) 0 = some v ∧ List.take v.2 v.1 = x ∧ (bare = false → w_intactNodeS v.1 v.2 v.1 v.2 = some true) ∧ (v.2 = x.length ∧ x.length ≤ v.1.length) :=
    ⟨_, h4, by simp only []; rw [List.take_left' h1]; simpa using h2, fun hb => n_NodeS (by omega) (by simp; omega), rfl, by simp; omega⟩
  cases bare with
  | false =>
    rw [cf rfl]
    refine Exists.imp (fun v hv => ⟨?_, hv.2⟩) main
    exact (hw (fun m => w_toNodeS_1005 x (List.replicate m ((0 : Int), (0 : Int))) 0)).trans hv.1
  | true =>
    rw [ct rfl]
    by_cases hz : x.length = 0
    · rw [ct (by simpa using hz)]
      obtain rfl : x = [] := List.eq_nil_of_length_eq_zero hz
      exact ⟨([], 0), rfl, rfl, fun h => (by cases h), rfl, Nat.le_refl _⟩
    · rw [cf (by simpa using hz)]
      refine Exists.imp (fun v hv => ⟨?_, hv.2⟩) main
      exact (hw (fun m => w_toNodeS_1005 x (List.replicate m ((0 : Int), (0 : Int))) 0)).trans hv.1
theorem t_NodeS {x : List ((Int) × (Int))} (h : LzNodeS 1000000 x) (bare : Bool) : ∃ v : List ((Int) × (Int)) × Nat, w_toNodeS x bare = some v ∧ List.take v.2 v.1 = x ∧ (bare = false → w_intactNodeS v.1 v.2 v.1 v.2 = some true) := by
  obtain ⟨v, h1, h2, h3, _⟩ := tt_NodeS h bare
  exact ⟨v, h1, h2, h3⟩
end Go.Proofs.YtchdegcfohegfaaE
