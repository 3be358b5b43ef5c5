/- Plain lemmas on the helpers of the laws; printed by a program of the session. -/
import Derived.Test.YtbaeikcfchiiaaaFX
set_option maxRecDepth 100000
set_option linter.unusedVariables false
set_option linter.unusedSimpArgs false
namespace Go.Proofs.YtbaeikcfchiiaaaE
abbrev LzIntS (B : Nat) (x : List (Int)) : Prop := x.length ≤ B
abbrev SzIntS (B : Nat) (x : List (Int)) : Prop := LzIntS B x
theorem slIntS {B : Nat} {x : List (Int)} (h : SzIntS B x) : LzIntS B x := h
abbrev LzBox (B : Nat) (x : (Int) × (List (Int)) × (List (Int))) : Prop := LzIntS B x.2.1 ∧ LzIntS B x.2.2
abbrev SzBox (B : Nat) (x : (Int) × (List (Int)) × (List (Int))) : Prop := SzIntS B x.2.1 ∧ SzIntS B x.2.2
theorem slBox {B : Nat} {x : (Int) × (List (Int)) × (List (Int))} (h : SzBox B x) : LzBox B x := h
abbrev LzTermS (B : Nat) (x : List ((Int) × (Int) × (Int) × (Int))) : Prop := x.length ≤ B
abbrev SzTermS (B : Nat) (x : List ((Int) × (Int) × (Int) × (Int))) : Prop := LzTermS B x
theorem slTermS {B : Nat} {x : List ((Int) × (Int) × (Int) × (Int))} (h : SzTermS B x) : LzTermS B x := h
abbrev LzTermSS (B : Nat) (x : List (List ((Int) × (Int) × (Int) × (Int)))) : Prop := x.length ≤ B ∧ ∀ e ∈ x, LzTermS B e
abbrev SzTermSS (B : Nat) (x : List (List ((Int) × (Int) × (Int) × (Int)))) : Prop := LzTermSS B x
theorem slTermSS {B : Nat} {x : List (List ((Int) × (Int) × (Int) × (Int)))} (h : SzTermSS B x) : LzTermSS B x := h
abbrev LzEntry (B : Nat) (x : (ByteArray) × (List (List ((Int) × (Int) × (Int) × (Int)))) × ((Int) × (List (Int)) × (List (Int))) × (Int) × (Int) × (Int)) : Prop := LzTermSS B x.2.1 ∧ LzBox B x.2.2.1
abbrev SzEntry (B : Nat) (x : (ByteArray) × (List (List ((Int) × (Int) × (Int) × (Int)))) × ((Int) × (List (Int)) × (List (Int))) × (Int) × (Int) × (Int)) : Prop := x.1.size ≤ B ∧ SzTermSS B x.2.1 ∧ SzBox B x.2.2.1
theorem slEntry {B : Nat} {x : (ByteArray) × (List (List ((Int) × (Int) × (Int) × (Int)))) × ((Int) × (List (Int)) × (List (Int))) × (Int) × (Int) × (Int)} (h : SzEntry B x) : LzEntry B x := ⟨slTermSS (h.2.1), slBox (h.2.2)⟩
abbrev LzEntryS (B : Nat) (x : List ((ByteArray) × (List (List ((Int) × (Int) × (Int) × (Int)))) × ((Int) × (List (Int)) × (List (Int))) × (Int) × (Int) × (Int))) : Prop := x.length ≤ B ∧ ∀ e ∈ x, LzEntry B e
abbrev SzEntryS (B : Nat) (x : List ((ByteArray) × (List (List ((Int) × (Int) × (Int) × (Int)))) × ((Int) × (List (Int)) × (List (Int))) × (Int) × (Int) × (Int))) : Prop := x.length ≤ B ∧ ∀ e ∈ x, SzEntry B e
theorem slEntryS {B : Nat} {x : List ((ByteArray) × (List (List ((Int) × (Int) × (Int) × (Int)))) × ((Int) × (List (Int)) × (List (Int))) × (Int) × (Int) × (Int))} (h : SzEntryS B x) : LzEntryS B x := ⟨h.1, fun e he => slEntry (h.2 e he)⟩
theorem z_IntS {x : List (Int)} {left : Int} (h0 : 0 ≤ left) (h1 : left ≤ 1000000) (hx : SzIntS maxLen x) : ∃ r, w_szIntS x left = some r ∧ r ≤ left ∧ (0 ≤ r → SzIntS 1000000 x) := by
  have hm : (x.length : Int) ≤ 9223372036854775807 := by have := hx; rw [show maxLen = 9223372036854775807 from rfl] at this; omega
  have hw : IntKind.wrap .i64 (left - (x.length : Int)) = left - x.length := wrap64 (by omega) (by omega)
  unfold w_szIntS
  rw [hw]
  by_cases h : left - (x.length : Int) < 0
  · exact ⟨-1, ct (by simpa using h), by omega, by omega⟩
  · exact ⟨left - x.length, cf (by simpa using h), by omega, fun _ => by show x.length ≤ 1000000; omega⟩
theorem z_Box {x : (Int) × (List (Int)) × (List (Int))} {left : Int} (h0 : 0 ≤ left) (h1 : left ≤ 1000000) (hx : SzBox maxLen x) : ∃ r, w_szBox x.1 x.2.1 x.2.2 left = some r ∧ r ≤ left ∧ (0 ≤ r → SzBox 1000000 x) := by
  unfold w_szBox
  obtain ⟨r0, t0, u0, g0⟩ := z_IntS (left := left) (by omega) (by omega) (hx.1)
  rw [bsome t0]
  by_cases c0 : r0 < 0
  · exact ⟨-1, ct (by simpa using c0), by omega, by omega⟩
  rw [cf (by simpa using c0)]
  obtain ⟨r1, t1, u1, g1⟩ := z_IntS (left := r0) (by omega) (by omega) (hx.2)
  rw [bsome t1]
  by_cases c1 : r1 < 0
  · exact ⟨-1, ct (by simpa using c1), by omega, by omega⟩
  rw [cf (by simpa using c1)]
  exact ⟨r1, rfl, by omega, fun _ => ⟨g0 (by omega), g1 (by omega)⟩⟩
theorem z_TermS {x : List ((Int) × (Int) × (Int) × (Int))} {left : Int} (h0 : 0 ≤ left) (h1 : left ≤ 1000000) (hx : SzTermS maxLen x) : ∃ r, w_szTermS x left = some r ∧ r ≤ left ∧ (0 ≤ r → SzTermS 1000000 x) := by
  have hm : (x.length : Int) ≤ 9223372036854775807 := by have := hx; rw [show maxLen = 9223372036854775807 from rfl] at this; omega
  have hw : IntKind.wrap .i64 (left - (x.length : Int)) = left - x.length := wrap64 (by omega) (by omega)
  unfold w_szTermS
  rw [hw]
  by_cases h : left - (x.length : Int) < 0
  · exact ⟨-1, ct (by simpa using h), by omega, by omega⟩
  · exact ⟨left - x.length, cf (by simpa using h), by omega, fun _ => by show x.length ≤ 1000000; omega⟩
theorem zl_TermSS {x : List (List ((Int) × (Int) × (Int) × (Int)))} (hx : SzTermSS maxLen x) (hl : x.length ≤ 1000000) : ∀ (m i : Nat) (left : Int), i + m = x.length → 0 ≤ left → left ≤ 1000000 →
    ∃ r, w_szTermSS_1005 x left (i : Int) = some r ∧ r ≤ left ∧ (0 ≤ r → ∀ y ∈ x.drop i, SzTermS 1000000 y)
  | 0, i, left, hi, h0, h1 => by
    obtain rfl : i = x.length := by omega
    refine ⟨left, by rw [Ew_szTermSS_1005, cf ltf], Int.le_refl _, fun _ y hy => ?_⟩
    rw [List.drop_eq_nil_of_le (Nat.le_refl _)] at hy; cases hy
  | m + 1, i, left, hi, h0, h1 => by
    have hlt : i < x.length := by omega
    obtain ⟨r0, t0, g0, g1⟩ := z_TermS h0 h1 (hx.2 _ (List.getElem_mem hlt))
    by_cases hr : r0 < 0
    · exact ⟨-1, by rw [Ew_szTermSS_1005, ct (ltt hlt), ct (bA hlt), gD hlt, bsome t0, ct (by simpa using hr)], by omega, by omega⟩
    · obtain ⟨r, t1, g2, g3⟩ := zl_TermSS hx hl m (i + 1) r0 (by omega) (by omega) (by omega)
      refine ⟨r, by rw [Ew_szTermSS_1005, ct (ltt hlt), ct (bA hlt), gD hlt, bsome t0, cf (by simpa using hr), sc hlt (by omega)]; exact t1, by omega, fun h y hy => ?_⟩
      rw [List.drop_eq_getElem_cons hlt] at hy
      rcases List.mem_cons.1 hy with rfl | hy
      · exact g1 (by omega)
      · exact g3 h y hy
theorem z_TermSS {x : List (List ((Int) × (Int) × (Int) × (Int)))} {left : Int} (h0 : 0 ≤ left) (h1 : left ≤ 1000000) (hx : SzTermSS maxLen x) : ∃ r, w_szTermSS x left = some r ∧ r ≤ left ∧ (0 ≤ r → SzTermSS 1000000 x) := by
  have hm : (x.length : Int) ≤ 9223372036854775807 := by have := hx.1; rw [show maxLen = 9223372036854775807 from rfl] at this; omega
  have hw : IntKind.wrap .i64 (left - (x.length : Int)) = left - x.length := wrap64 (by omega) (by omega)
  unfold w_szTermSS
  rw [hw]
  by_cases h : left - (x.length : Int) < 0
  · exact ⟨-1, ct (by simpa using h), by omega, by omega⟩
  · obtain ⟨r, t1, g2, g3⟩ := zl_TermSS hx (by omega) x.length 0 (left - x.length) (by omega) (by omega) (by omega)
    exact ⟨r, (cf (by simpa using h)).trans t1, by omega, fun hr => ⟨by omega, fun y hy => g3 hr y (by simpa using hy)⟩⟩
theorem z_Entry {x : (ByteArray) × (List (List ((Int) × (Int) × (Int) × (Int)))) × ((Int) × (List (Int)) × (List (Int))) × (Int) × (Int) × (Int)} {left : Int} (h0 : 0 ≤ left) (h1 : left ≤ 1000000) (hx : SzEntry maxLen x) : ∃ r, w_szEntry x.1 x.2.1 x.2.2.1.1 x.2.2.1.2.1 x.2.2.1.2.2 x.2.2.2.1 x.2.2.2.2.1 x.2.2.2.2.2 left = some r ∧ r ≤ left ∧ (0 ≤ r → SzEntry 1000000 x) := by
  unfold w_szEntry
  have hm0 : (x.1.size : Int) ≤ 9223372036854775807 := by have := hx.1; rw [show maxLen = 9223372036854775807 from rfl] at this; omega
  rw [show IntKind.wrap .i64 (left - (x.1.size : Int)) = left - x.1.size from wrap64 (by omega) (by omega)]
  by_cases c0 : left - (x.1.size : Int) < 0
  · exact ⟨-1, ct (by simpa using c0), by omega, by omega⟩
  rw [cf (by simpa using c0)]
  obtain ⟨r1, t1, u1, g1⟩ := z_TermSS (left := (left - x.1.size)) (by omega) (by omega) (hx.2.1)
  rw [bsome t1]
  by_cases c1 : r1 < 0
  · exact ⟨-1, ct (by simpa using c1), by omega, by omega⟩
  rw [cf (by simpa using c1)]
  obtain ⟨r2, t2, u2, g2⟩ := z_Box (left := r1) (by omega) (by omega) (hx.2.2)
  rw [bsome t2]
  by_cases c2 : r2 < 0
  · exact ⟨-1, ct (by simpa using c2), by omega, by omega⟩
  rw [cf (by simpa using c2)]
  exact ⟨r2, rfl, by omega, fun _ => ⟨by show _ ≤ 1000000; omega, g1 (by omega), g2 (by omega)⟩⟩
theorem zl_EntryS {x : List ((ByteArray) × (List (List ((Int) × (Int) × (Int) × (Int)))) × ((Int) × (List (Int)) × (List (Int))) × (Int) × (Int) × (Int))} (hx : SzEntryS maxLen x) (hl : x.length ≤ 1000000) : ∀ (m i : Nat) (left : Int), i + m = x.length → 0 ≤ left → left ≤ 1000000 →
    ∃ r, w_szEntryS_1005 x left (i : Int) = some r ∧ r ≤ left ∧ (0 ≤ r → ∀ y ∈ x.drop i, SzEntry 1000000 y)
  | 0, i, left, hi, h0, h1 => by
    obtain rfl : i = x.length := by omega
    refine ⟨left, by rw [Ew_szEntryS_1005, cf ltf], Int.le_refl _, fun _ y hy => ?_⟩
    rw [List.drop_eq_nil_of_le (Nat.le_refl _)] at hy; cases hy
  | m + 1, i, left, hi, h0, h1 => by
    have hlt : i < x.length := by omega
    obtain ⟨r0, t0, g0, g1⟩ := z_Entry h0 h1 (hx.2 _ (List.getElem_mem hlt))
    by_cases hr : r0 < 0
    · exact ⟨-1, by rw [Ew_szEntryS_1005, ct (ltt hlt), ct (bA hlt), gD hlt, bsome t0, ct (by simpa using hr)], by omega, by omega⟩
    · obtain ⟨r, t1, g2, g3⟩ := zl_EntryS hx hl m (i + 1) r0 (by omega) (by omega) (by omega)
      refine ⟨r, by rw [Ew_szEntryS_1005, ct (ltt hlt), ct (bA hlt), gD hlt, bsome t0, cf (by simpa using hr), sc hlt (by omega)]; exact t1, by omega, fun h y hy => ?_⟩
      rw [List.drop_eq_getElem_cons hlt] at hy
      rcases List.mem_cons.1 hy with rfl | hy
      · exact g1 (by omega)
      · exact g3 h y hy
theorem z_EntryS {x : List ((ByteArray) × (List (List ((Int) × (Int) × (Int) × (Int)))) × ((Int) × (List (Int)) × (List (Int))) × (Int) × (Int) × (Int))} {left : Int} (h0 : 0 ≤ left) (h1 : left ≤ 1000000) (hx : SzEntryS maxLen x) : ∃ r, w_szEntryS x left = some r ∧ r ≤ left ∧ (0 ≤ r → SzEntryS 1000000 x) := by
  have hm : (x.length : Int) ≤ 9223372036854775807 := by have := hx.1; rw [show maxLen = 9223372036854775807 from rfl] at this; omega
  have hw : IntKind.wrap .i64 (left - (x.length : Int)) = left - x.length := wrap64 (by omega) (by omega)
  unfold w_szEntryS
  rw [hw]
  by_cases h : left - (x.length : Int) < 0
  · exact ⟨-1, ct (by simpa using h), by omega, by omega⟩
  · obtain ⟨r, t1, g2, g3⟩ := zl_EntryS hx (by omega) x.length 0 (left - x.length) (by omega) (by omega) (by omega)
    exact ⟨r, (cf (by simpa using h)).trans t1, by omega, fun hr => ⟨by omega, fun y hy => g3 hr y (by simpa using hy)⟩⟩
theorem q_IntS {x : List (Int)} (hx : LzIntS maxLen x) : w_eqIntS x x = some true := by
  have hm : x.length ≤ 9223372036854775807 := hx
  unfold w_eqIntS
  rw [cf (by simp)]
  refine walk_loop (n := x.length) (f := fun i => w_eqIntS_1004 x x i) (fun i hi => ?_) ?_
  · show w_eqIntS_1004 _ _ _ = w_eqIntS_1004 _ _ _
    rw [Ew_eqIntS_1004, ct (ltt hi), ct (bA hi), ct (bA hi), gD hi, cf (by simp), sc hi hm]
  · show w_eqIntS_1004 _ _ _ = _
    rw [Ew_eqIntS_1004, cf ltf]
theorem q_Term {x : (Int) × (Int) × (Int) × (Int)} : w_eqTerm x.1 x.2.1 x.2.2.1 x.2.2.2 x.1 x.2.1 x.2.2.1 x.2.2.2 = some true := by
  unfold w_eqTerm
  simp only [decide_true, Bool.not_true, cond_false, cond_true, beq_self_eq_true, Option.bind_some]
theorem q_TermS {x : List ((Int) × (Int) × (Int) × (Int))} (hx : LzTermS maxLen x) : w_eqTermS x x = some true := by
  have hm : x.length ≤ 9223372036854775807 := hx
  unfold w_eqTermS
  rw [cf (by simp)]
  refine walk_loop (n := x.length) (f := fun i => w_eqTermS_1004 x x i) (fun i hi => ?_) ?_
  · show w_eqTermS_1004 _ _ _ = w_eqTermS_1004 _ _ _
    rw [Ew_eqTermS_1004, ct (ltt hi), ct (bA hi), ct (bA hi), gD hi, bsome (q_Term), cnt, sc hi hm]
  · show w_eqTermS_1004 _ _ _ = _
    rw [Ew_eqTermS_1004, cf ltf]
theorem q_TermSS {x : List (List ((Int) × (Int) × (Int) × (Int)))} (hx : LzTermSS maxLen x) : w_eqTermSS x x = some true := by
  have hm : x.length ≤ 9223372036854775807 := hx.1
  unfold w_eqTermSS
  rw [cf (by simp)]
  refine walk_loop (n := x.length) (f := fun i => w_eqTermSS_1004 x x i) (fun i hi => ?_) ?_
  · show w_eqTermSS_1004 _ _ _ = w_eqTermSS_1004 _ _ _
    rw [Ew_eqTermSS_1004, ct (ltt hi), ct (bA hi), ct (bA hi), gD hi, bsome (q_TermS (hx.2 _ (List.getElem_mem hi))), cnt, sc hi hm]
  · show w_eqTermSS_1004 _ _ _ = _
    rw [Ew_eqTermSS_1004, cf ltf]
theorem q_Box {x : (Int) × (List (Int)) × (List (Int))} (hx : LzBox maxLen x) : w_eqBox x.1 x.2.1 x.2.2 x.1 x.2.1 x.2.2 = some true := by
  unfold w_eqBox
  simp only [decide_true, Bool.not_true, cond_false, cond_true, beq_self_eq_true, Option.bind_some, q_IntS (hx.1), q_IntS (hx.2)]
theorem q_Entry {x : (ByteArray) × (List (List ((Int) × (Int) × (Int) × (Int)))) × ((Int) × (List (Int)) × (List (Int))) × (Int) × (Int) × (Int)} (hx : LzEntry maxLen x) : w_eqEntry x.1 x.2.1 x.2.2.1.1 x.2.2.1.2.1 x.2.2.1.2.2 x.2.2.2.1 x.2.2.2.2.1 x.2.2.2.2.2 x.1 x.2.1 x.2.2.1.1 x.2.2.1.2.1 x.2.2.1.2.2 x.2.2.2.1 x.2.2.2.2.1 x.2.2.2.2.2 = some true := by
  unfold w_eqEntry
  simp only [decide_true, Bool.not_true, cond_false, cond_true, beq_self_eq_true, Option.bind_some, q_TermSS (hx.1), q_Box (hx.2)]
theorem q_EntryS {x : List ((ByteArray) × (List (List ((Int) × (Int) × (Int) × (Int)))) × ((Int) × (List (Int)) × (List (Int))) × (Int) × (Int) × (Int))} (hx : LzEntryS maxLen x) : w_eqEntryS x x = some true := by
  have hm : x.length ≤ 9223372036854775807 := hx.1
  unfold w_eqEntryS
  rw [cf (by simp)]
  refine walk_loop (n := x.length) (f := fun i => w_eqEntryS_1004 x x i) (fun i hi => ?_) ?_
  · show w_eqEntryS_1004 _ _ _ = w_eqEntryS_1004 _ _ _
    rw [Ew_eqEntryS_1004, ct (ltt hi), ct (bA hi), ct (bA hi), gD hi, bsome (q_Entry (hx.2 _ (List.getElem_mem hi))), cnt, sc hi hm]
  · show w_eqEntryS_1004 _ _ _ = _
    rw [Ew_eqEntryS_1004, cf ltf]
theorem n_IntS {x : List (Int)} {n : Nat} (hn : n ≤ 1000000) (hx : x.length = n + rb n) : w_intactIntS x n x n = some true := by
  have hr := rb_le n
  unfold w_intactIntS
  rw [bsome (roomBehind_v n), rbw hn, ct (by simp), ct (bE (by omega)), ct (by simp; omega), ct (bE (by omega)), ct (by simp; omega), bret]
  exact q_IntS (x := _) (by show List.length _ ≤ 9223372036854775807; simp; omega)
theorem n_TermS {x : List ((Int) × (Int) × (Int) × (Int))} {n : Nat} (hn : n ≤ 1000000) (hx : x.length = n + rb n) : w_intactTermS x n x n = some true := by
  have hr := rb_le n
  unfold w_intactTermS
  rw [bsome (roomBehind_v n), rbw hn, ct (by simp), ct (bE (by omega)), ct (by simp; omega), ct (bE (by omega)), ct (by simp; omega), bret]
  exact q_TermS (x := _) (by show List.length _ ≤ 9223372036854775807; simp; omega)
theorem u_IntS {x : List (Int)} (h : LzIntS 1000000 x) (bare : Bool) (d : Int) : ∃ P : List (Int), P.length = x.length ∧ P.map (fun v => v) = x ∧ (∀ v ∈ P, True) ∧ w_toIntS_1005 x (List.replicate (x.length + rb x.length) d) 0 = some (P ++ List.replicate (rb x.length) (-7000000000000000101), x.length) := by
  have hl : x.length ≤ 1000000 := h
  have hr := rb_le x.length
  exact to_loop (R := rb x.length) (f5 := fun outs i => w_toIntS_1005 x outs i) (f9 := fun outs i => w_toIntS_1009 x outs i) (Q := fun v => True) (fgE := fun v => v) (fill := (-7000000000000000101))
    (fun outs i hi ho => ⟨x[i], rfl, trivial, by
        show w_toIntS_1005 x _ _ = w_toIntS_1005 x _ _
        rw [Ew_toIntS_1005, ct (ltt hi), ct (bA hi), ct (bA (by omega)), ct (blt (by rw [Int.toNat_natCast]; omega)), sc hi (by omega), gD hi, Int.toNat_natCast]⟩)
    (fun outs => by
      show w_toIntS_1005 x _ _ = w_toIntS_1009 x _ _
      rw [Ew_toIntS_1005, cf ltf])
    (fun outs i hi ho => by
      show w_toIntS_1009 x _ _ = w_toIntS_1009 x _ _
      rw [Ew_toIntS_1009, ct (ltt hi), ct (bA hi), ct (blt (by rw [Int.toNat_natCast]; omega)), sc hi (by omega), Int.toNat_natCast] <;> rfl)
    (fun outs ho => by
      show w_toIntS_1009 x _ _ = _
      rw [Ew_toIntS_1009, cf ltf, ct (bE (by omega)), Int.toNat_natCast] <;> rfl)
theorem t_IntS {x : List (Int)} (h : LzIntS 1000000 x) (bare : Bool) : ∃ v : List (Int) × Nat, w_toIntS x bare = some v ∧ List.take v.2 v.1 = x ∧ (bare = false → w_intactIntS v.1 v.2 v.1 v.2 = some true) := by
  have hl : x.length ≤ 1000000 := h
  have hr := rb_le x.length
  unfold w_toIntS
  have hw : ∀ {α : Type} (y : Nat → Option α), ((w_roomBehind (x.length : Int)).bind fun r => bif decide (0 ≤ IntKind.wrap .i64 ((x.length : Int) + r)) then bif decide (IntKind.wrap .i64 ((x.length : Int) + r) ≤ IntKind.wrap .i64 ((x.length : Int) + r)) then bif decide (IntKind.wrap .i64 ((x.length : Int) + r) * ((8 : Nat) : Int) ≤ 140737488355328) then y (Int.toNat (IntKind.wrap .i64 ((x.length : Int) + r))) else none else none else none) = y (x.length + rb x.length) := by
    intro α y
    rw [bsome (roomBehind_v x.length), rbw hl, ct (by simp; omega), ct (by simp), ct (by simp; omega), Int.toNat_natCast]
  obtain ⟨P, h1, h2, h3, h4⟩ := u_IntS h bare (0 : Int)
  have main : ∃ v : List (Int) × Nat, w_toIntS_1005 x (List.replicate (x.length + rb x.length) (0 : Int)) 0 = some v ∧ List.take v.2 v.1 = x ∧ (bare = false → w_intactIntS v.1 v.2 v.1 v.2 = some true) :=
    ⟨_, h4, by simp only []; rw [List.take_left' h1]; simpa using h2, fun hb => n_IntS (by omega) (by simp; omega)⟩
  cases bare with
  | false =>
    rw [cf rfl]
    refine Exists.imp (fun v hv => ⟨?_, hv.2⟩) main
    exact (hw (fun m => w_toIntS_1005 x (List.replicate m (0 : Int)) 0)).trans hv.1
  | true =>
    rw [ct rfl]
    by_cases hz : x.length = 0
    · rw [ct (by simpa using hz)]
      obtain rfl : x = [] := List.eq_nil_of_length_eq_zero hz
      exact ⟨([], 0), rfl, rfl, fun h => by cases h⟩
    · rw [cf (by simpa using hz)]
      refine Exists.imp (fun v hv => ⟨?_, hv.2⟩) main
      exact (hw (fun m => w_toIntS_1005 x (List.replicate m (0 : Int)) 0)).trans hv.1
theorem t_Box {x : (Int) × (List (Int)) × (List (Int))} (h : LzBox 1000000 x) (bare : Bool) : ∃ v : (Int) × (List (Int) × Nat) × (List (Int) × Nat), w_toBox x.1 x.2.1 x.2.2 bare = some v ∧ (v.1, List.take v.2.1.2 v.2.1.1, List.take v.2.2.2 v.2.2.1) = x ∧ (bare = false → w_intactBox v.1 v.2.1.1 v.2.1.2 v.2.2.1 v.2.2.2 v.1 v.2.1.1 v.2.1.2 v.2.2.1 v.2.2.2 = some true) := by
  obtain ⟨v0, e0, f0, g0⟩ := t_IntS (h.1) bare
  obtain ⟨v1, e1, f1, g1⟩ := t_IntS (h.2) bare
  refine ⟨(x.1, v0, v1), ?_, ?_, fun hb => ?_⟩
  · unfold w_toBox
    rw [bsome e0, bsome e1]
    rfl
  · show (x.1, List.take v0.2 v0.1, List.take v1.2 v1.1) = _
    rw [f0, f1]
  · unfold w_intactBox
    simp only [decide_true, Bool.not_true, cond_false, beq_self_eq_true, Option.bind_some, g0 hb, g1 hb]
theorem t_Term (x : (Int) × (Int) × (Int) × (Int)) : w_toTerm x.1 x.2.1 x.2.2.1 x.2.2.2 = some x := by
  unfold w_toTerm
  rfl
theorem u_TermS {x : List ((Int) × (Int) × (Int) × (Int))} (h : LzTermS 1000000 x) (bare : Bool) (d : (Int) × (Int) × (Int) × (Int)) : ∃ P : List ((Int) × (Int) × (Int) × (Int)), P.length = x.length ∧ P.map (fun v => v) = x ∧ (∀ v ∈ P, True) ∧ w_toTermS_1005 x (List.replicate (x.length + rb x.length) d) 0 = some (P ++ List.replicate (rb x.length) ((-7000000000000000101), (-7000000000000000101), (-7000000000000000101), (-7000000000000000101)), x.length) := by
  have hl : x.length ≤ 1000000 := h
  have hr := rb_le x.length
  exact to_loop (R := rb x.length) (f5 := fun outs i => w_toTermS_1005 x outs i) (f9 := fun outs i => w_toTermS_1009 x outs i) (Q := fun v => True) (fgE := fun v => v) (fill := ((-7000000000000000101), (-7000000000000000101), (-7000000000000000101), (-7000000000000000101)))
    (fun outs i hi ho => ⟨x[i], rfl, trivial, by
        show w_toTermS_1005 x _ _ = w_toTermS_1005 x _ _
        rw [Ew_toTermS_1005, ct (ltt hi), ct (bA hi), ct (bA (by omega)), ct (blt (by rw [Int.toNat_natCast]; omega)), sc hi (by omega), gD hi, Int.toNat_natCast]⟩)
    (fun outs => by
      show w_toTermS_1005 x _ _ = w_toTermS_1009 x _ _
      rw [Ew_toTermS_1005, cf ltf])
    (fun outs i hi ho => by
      show w_toTermS_1009 x _ _ = w_toTermS_1009 x _ _
      rw [Ew_toTermS_1009, ct (ltt hi), ct (bA hi), ct (blt (by rw [Int.toNat_natCast]; omega)), sc hi (by omega), Int.toNat_natCast] <;> rfl)
    (fun outs ho => by
      show w_toTermS_1009 x _ _ = _
      rw [Ew_toTermS_1009, cf ltf, ct (bE (by omega)), Int.toNat_natCast] <;> rfl)
theorem t_TermS {x : List ((Int) × (Int) × (Int) × (Int))} (h : LzTermS 1000000 x) (bare : Bool) : ∃ v : List ((Int) × (Int) × (Int) × (Int)) × Nat, w_toTermS x bare = some v ∧ List.take v.2 v.1 = x ∧ (bare = false → w_intactTermS v.1 v.2 v.1 v.2 = some true) := by
  have hl : x.length ≤ 1000000 := h
  have hr := rb_le x.length
  unfold w_toTermS
  have hw : ∀ {α : Type} (y : Nat → Option α), ((w_roomBehind (x.length : Int)).bind fun r => bif decide (0 ≤ IntKind.wrap .i64 ((x.length : Int) + r)) then bif decide (IntKind.wrap .i64 ((x.length : Int) + r) ≤ IntKind.wrap .i64 ((x.length : Int) + r)) then bif decide (IntKind.wrap .i64 ((x.length : Int) + r) * ((32 : Nat) : Int) ≤ 140737488355328) then y (Int.toNat (IntKind.wrap .i64 ((x.length : Int) + r))) else none else none else none) = y (x.length + rb x.length) := by
    intro α y
    rw [bsome (roomBehind_v x.length), rbw hl, ct (by simp; omega), ct (by simp), ct (by simp; omega), Int.toNat_natCast]
  obtain ⟨P, h1, h2, h3, h4⟩ := u_TermS h bare ((0 : Int), (0 : Int), (0 : Int), (0 : Int))
  have main : ∃ v : List ((Int) × (Int) × (Int) × (Int)) × Nat, w_toTermS_1005 x (List.replicate (x.length + rb x.length) ((0 : Int), (0 : Int), (0 : Int), (0 : Int))) 0 = some v ∧ List.take v.2 v.1 = x ∧ (bare = false → w_intactTermS v.1 v.2 v.1 v.2 = some true) :=
    ⟨_, h4, by simp only []; rw [List.take_left' h1]; simpa using h2, fun hb => n_TermS (by omega) (by simp; omega)⟩
  cases bare with
  | false =>
    rw [cf rfl]
    refine Exists.imp (fun v hv => ⟨?_, hv.2⟩) main
    exact (hw (fun m => w_toTermS_1005 x (List.replicate m ((0 : Int), (0 : Int), (0 : Int), (0 : Int))) 0)).trans hv.1
  | true =>
    rw [ct rfl]
    by_cases hz : x.length = 0
    · rw [ct (by simpa using hz)]
      obtain rfl : x = [] := List.eq_nil_of_length_eq_zero hz
      exact ⟨([], 0), rfl, rfl, fun h => by cases h⟩
    · rw [cf (by simpa using hz)]
      refine Exists.imp (fun v hv => ⟨?_, hv.2⟩) main
      exact (hw (fun m => w_toTermS_1005 x (List.replicate m ((0 : Int), (0 : Int), (0 : Int), (0 : Int))) 0)).trans hv.1
theorem u_TermSS {x : List (List ((Int) × (Int) × (Int) × (Int)))} (h : LzTermSS 1000000 x) (bare : Bool) (d : List ((Int) × (Int) × (Int) × (Int)) × Nat) : ∃ P : List (List ((Int) × (Int) × (Int) × (Int)) × Nat), P.length = x.length ∧ P.map (fun v => List.map (fun x : (Int) × (Int) × (Int) × (Int) => (x.1, x.2.1, x.2.2.1, x.2.2.2)) (List.take v.2 v.1)) = x ∧ (∀ v ∈ P, (bare = false → w_intactTermS v.1 v.2 v.1 v.2 = some true)) ∧ w_toTermSS_1005 x bare (List.replicate (x.length + rb x.length) d) 0 = some (P ++ List.replicate (rb x.length) ([((-7000000000000000101), (-7000000000000000101), (-7000000000000000101), (-7000000000000000101))], 1), x.length) := by
  have hl : x.length ≤ 1000000 := h.1
  have hr := rb_le x.length
  exact to_loop (R := rb x.length) (f5 := fun outs i => w_toTermSS_1005 x bare outs i) (f9 := fun outs i => w_toTermSS_1009 x outs i) (Q := fun v => (bare = false → w_intactTermS v.1 v.2 v.1 v.2 = some true)) (fgE := fun v => List.map (fun x : (Int) × (Int) × (Int) × (Int) => (x.1, x.2.1, x.2.2.1, x.2.2.2)) (List.take v.2 v.1)) (fill := ([((-7000000000000000101), (-7000000000000000101), (-7000000000000000101), (-7000000000000000101))], 1))
    (fun outs i hi ho => by
      obtain ⟨v, e0, f0, g0⟩ := t_TermS (h.2 _ (List.getElem_mem hi)) bare
      refine ⟨v, by simpa using f0, g0, ?_⟩
      show w_toTermSS_1005 x bare _ _ = w_toTermSS_1005 x bare _ _
      rw [Ew_toTermSS_1005, ct (ltt hi), ct (bA hi), gD hi, bsome e0, ct (bA (by omega)), ct (blt (by rw [Int.toNat_natCast]; omega)), sc hi (by omega), Int.toNat_natCast])
    (fun outs => by
      show w_toTermSS_1005 x bare _ _ = w_toTermSS_1009 x _ _
      rw [Ew_toTermSS_1005, cf ltf])
    (fun outs i hi ho => by
      show w_toTermSS_1009 x _ _ = w_toTermSS_1009 x _ _
      rw [Ew_toTermSS_1009, ct (ltt hi), ct (bA hi), ct (blt (by rw [Int.toNat_natCast]; omega)), sc hi (by omega), Int.toNat_natCast] <;> rfl)
    (fun outs ho => by
      show w_toTermSS_1009 x _ _ = _
      rw [Ew_toTermSS_1009, cf ltf, ct (bE (by omega)), Int.toNat_natCast] <;> rfl)
theorem n_TermSS {P : List (List ((Int) × (Int) × (Int) × (Int)) × Nat)} {n : Nat} (hn : n ≤ 1000000) (hP : P.length = n) (hQ : ∀ v ∈ P, w_intactTermS v.1 v.2 v.1 v.2 = some true) : w_intactTermSS (P ++ List.replicate (rb n) ([((-7000000000000000101), (-7000000000000000101), (-7000000000000000101), (-7000000000000000101))], 1)) n (P ++ List.replicate (rb n) ([((-7000000000000000101), (-7000000000000000101), (-7000000000000000101), (-7000000000000000101))], 1)) n = some true := by
  have hr := rb_le n
  unfold w_intactTermSS
  rw [bsome (roomBehind_v n), rbw hn, cf (by simp)]
  refine walk_loop (n := n) (f := fun i => w_intactTermSS_1005 _ n _ n _ i) (fun i hi => ?_) ?_
  · show w_intactTermSS_1005 _ _ _ _ _ _ = w_intactTermSS_1005 _ _ _ _ _ _
    have hlt : i < (P ++ List.replicate (rb n) ([((-7000000000000000101), (-7000000000000000101), (-7000000000000000101), (-7000000000000000101))], 1) : List (List ((Int) × (Int) × (Int) × (Int)) × Nat)).length := by simp; omega
    rw [Ew_intactTermSS_1005, ct (ltt hi), ct (bA hi), ct (bA hi), gD hlt, List.getElem_append_left (by omega), bsome (hQ _ (List.getElem_mem (by omega))), cnt, sc hi (by omega)]
  · show w_intactTermSS_1005 _ _ _ _ _ _ = _
    have hlen : (P ++ List.replicate (rb n) ([((-7000000000000000101), (-7000000000000000101), (-7000000000000000101), (-7000000000000000101))], 1) : List (List ((Int) × (Int) × (Int) × (Int)) × Nat)).length = n + rb n := by simp; omega
    have e : List.drop n (List.take (n + rb n) (P ++ List.replicate (rb n) ([((-7000000000000000101), (-7000000000000000101), (-7000000000000000101), (-7000000000000000101))], 1) : List (List ((Int) × (Int) × (Int) × (Int)) × Nat))) = List.replicate (rb n) ([((-7000000000000000101), (-7000000000000000101), (-7000000000000000101), (-7000000000000000101))], 1) := by
      rw [List.take_of_length_le (by omega)]; exact List.drop_left' hP
    rw [Ew_intactTermSS_1005, cf ltf, ct (bE (by omega)), ct (by simp; omega), ct (bE (by omega)), ct (by simp; omega), Int.toNat_natCast, Int.toNat_natCast, e, List.map_replicate, bret]
    exact q_TermSS ⟨by rw [List.length_replicate]; show _ ≤ 9223372036854775807; omega, fun y hy => by rw [(List.mem_replicate.1 hy).2]; first | decide | simp [maxLen]⟩
theorem t_TermSS {x : List (List ((Int) × (Int) × (Int) × (Int)))} (h : LzTermSS 1000000 x) (bare : Bool) : ∃ v : List (List ((Int) × (Int) × (Int) × (Int)) × Nat) × Nat, w_toTermSS x bare = some v ∧ List.map (fun x : List ((Int) × (Int) × (Int) × (Int)) × Nat => List.map (fun x : (Int) × (Int) × (Int) × (Int) => (x.1, x.2.1, x.2.2.1, x.2.2.2)) (List.take x.2 x.1)) (List.take v.2 v.1) = x ∧ (bare = false → w_intactTermSS v.1 v.2 v.1 v.2 = some true) := by
  have hl : x.length ≤ 1000000 := h.1
  have hr := rb_le x.length
  unfold w_toTermSS
  have hw : ∀ {α : Type} (y : Nat → Option α), ((w_roomBehind (x.length : Int)).bind fun r => bif decide (0 ≤ IntKind.wrap .i64 ((x.length : Int) + r)) then bif decide (IntKind.wrap .i64 ((x.length : Int) + r) ≤ IntKind.wrap .i64 ((x.length : Int) + r)) then bif decide (IntKind.wrap .i64 ((x.length : Int) + r) * ((24 : Nat) : Int) ≤ 140737488355328) then y (Int.toNat (IntKind.wrap .i64 ((x.length : Int) + r))) else none else none else none) = y (x.length + rb x.length) := by
    intro α y
    rw [bsome (roomBehind_v x.length), rbw hl, ct (by simp; omega), ct (by simp), ct (by simp; omega), Int.toNat_natCast]
  obtain ⟨P, h1, h2, h3, h4⟩ := u_TermSS h bare ([], 0)
  have main : ∃ v : List (List ((Int) × (Int) × (Int) × (Int)) × Nat) × Nat, w_toTermSS_1005 x bare (List.replicate (x.length + rb x.length) ([], 0)) 0 = some v ∧ List.map (fun x : List ((Int) × (Int) × (Int) × (Int)) × Nat => List.map (fun x : (Int) × (Int) × (Int) × (Int) => (x.1, x.2.1, x.2.2.1, x.2.2.2)) (List.take x.2 x.1)) (List.take v.2 v.1) = x ∧ (bare = false → w_intactTermSS v.1 v.2 v.1 v.2 = some true) :=
    ⟨_, h4, by simp only []; rw [List.take_left' h1]; exact h2, fun hb => n_TermSS (by omega) h1 (fun v hv => h3 v hv hb)⟩
  cases bare with
  | false =>
    rw [cf rfl]
    refine Exists.imp (fun v hv => ⟨?_, hv.2⟩) main
    exact (hw (fun m => w_toTermSS_1005 x false (List.replicate m ([], 0)) 0)).trans hv.1
  | true =>
    rw [ct rfl]
    by_cases hz : x.length = 0
    · rw [ct (by simpa using hz)]
      obtain rfl : x = [] := List.eq_nil_of_length_eq_zero hz
      exact ⟨([], 0), rfl, rfl, fun h => by cases h⟩
    · rw [cf (by simpa using hz)]
      refine Exists.imp (fun v hv => ⟨?_, hv.2⟩) main
      exact (hw (fun m => w_toTermSS_1005 x true (List.replicate m ([], 0)) 0)).trans hv.1
theorem t_Entry {x : (ByteArray) × (List (List ((Int) × (Int) × (Int) × (Int)))) × ((Int) × (List (Int)) × (List (Int))) × (Int) × (Int) × (Int)} (h : LzEntry 1000000 x) (bare : Bool) : ∃ v : (ByteArray) × (List (List ((Int) × (Int) × (Int) × (Int)) × Nat) × Nat) × ((Int) × (List (Int) × Nat) × (List (Int) × Nat)) × (Int) × (Int) × (Int), w_toEntry x.1 x.2.1 x.2.2.1.1 x.2.2.1.2.1 x.2.2.1.2.2 x.2.2.2.1 x.2.2.2.2.1 x.2.2.2.2.2 bare = some v ∧ (v.1, List.map (fun x : List ((Int) × (Int) × (Int) × (Int)) × Nat => List.map (fun x : (Int) × (Int) × (Int) × (Int) => (x.1, x.2.1, x.2.2.1, x.2.2.2)) (List.take x.2 x.1)) (List.take v.2.1.2 v.2.1.1), (v.2.2.1.1, List.take v.2.2.1.2.1.2 v.2.2.1.2.1.1, List.take v.2.2.1.2.2.2 v.2.2.1.2.2.1), v.2.2.2.1, v.2.2.2.2.1, v.2.2.2.2.2) = x ∧ (bare = false → w_intactEntry v.1 v.2.1.1 v.2.1.2 v.2.2.1.1 v.2.2.1.2.1.1 v.2.2.1.2.1.2 v.2.2.1.2.2.1 v.2.2.1.2.2.2 v.2.2.2.1 v.2.2.2.2.1 v.2.2.2.2.2 v.1 v.2.1.1 v.2.1.2 v.2.2.1.1 v.2.2.1.2.1.1 v.2.2.1.2.1.2 v.2.2.1.2.2.1 v.2.2.1.2.2.2 v.2.2.2.1 v.2.2.2.2.1 v.2.2.2.2.2 = some true) := by
  obtain ⟨v0, e0, f0, g0⟩ := t_TermSS (h.1) bare
  obtain ⟨v1, e1, f1, g1⟩ := t_Box (h.2) bare
  refine ⟨(x.1, v0, v1, x.2.2.2.1, x.2.2.2.2.1, x.2.2.2.2.2), ?_, ?_, fun hb => ?_⟩
  · unfold w_toEntry
    rw [bsome e0, bsome e1]
    rfl
  · show (x.1, List.map (fun x : List ((Int) × (Int) × (Int) × (Int)) × Nat => List.map (fun x : (Int) × (Int) × (Int) × (Int) => (x.1, x.2.1, x.2.2.1, x.2.2.2)) (List.take x.2 x.1)) (List.take v0.2 v0.1), (v1.1, List.take v1.2.1.2 v1.2.1.1, List.take v1.2.2.2 v1.2.2.1), x.2.2.2.1, x.2.2.2.2.1, x.2.2.2.2.2) = _
    rw [f0, f1]
  · unfold w_intactEntry
    simp only [decide_true, Bool.not_true, cond_false, beq_self_eq_true, Option.bind_some, g0 hb, g1 hb]
theorem u_EntryS {x : List ((ByteArray) × (List (List ((Int) × (Int) × (Int) × (Int)))) × ((Int) × (List (Int)) × (List (Int))) × (Int) × (Int) × (Int))} (h : LzEntryS 1000000 x) (bare : Bool) (d : (ByteArray) × (List (List ((Int) × (Int) × (Int) × (Int)) × Nat) × Nat) × ((Int) × (List (Int) × Nat) × (List (Int) × Nat)) × (Int) × (Int) × (Int)) : ∃ P : List ((ByteArray) × (List (List ((Int) × (Int) × (Int) × (Int)) × Nat) × Nat) × ((Int) × (List (Int) × Nat) × (List (Int) × Nat)) × (Int) × (Int) × (Int)), P.length = x.length ∧ P.map (fun v => (v.1, List.map (fun x : List ((Int) × (Int) × (Int) × (Int)) × Nat => List.map (fun x : (Int) × (Int) × (Int) × (Int) => (x.1, x.2.1, x.2.2.1, x.2.2.2)) (List.take x.2 x.1)) (List.take v.2.1.2 v.2.1.1), (v.2.2.1.1, List.map (fun x : Int => x) (List.take v.2.2.1.2.1.2 v.2.2.1.2.1.1), List.map (fun x : Int => x) (List.take v.2.2.1.2.2.2 v.2.2.1.2.2.1)), v.2.2.2.1, v.2.2.2.2.1, v.2.2.2.2.2)) = x ∧ (∀ v ∈ P, (bare = false → w_intactEntry v.1 v.2.1.1 v.2.1.2 v.2.2.1.1 v.2.2.1.2.1.1 v.2.2.1.2.1.2 v.2.2.1.2.2.1 v.2.2.1.2.2.2 v.2.2.2.1 v.2.2.2.2.1 v.2.2.2.2.2 v.1 v.2.1.1 v.2.1.2 v.2.2.1.1 v.2.2.1.2.1.1 v.2.2.1.2.1.2 v.2.2.1.2.2.1 v.2.2.1.2.2.2 v.2.2.2.1 v.2.2.2.2.1 v.2.2.2.2.2 = some true)) ∧ w_toEntryS_1005 x bare (List.replicate (x.length + rb x.length) d) 0 = some (P ++ List.replicate (rb x.length) ((ByteArray.mk #[126, 115, 112, 97, 114, 101, 126]), ([([((-7000000000000000101), (-7000000000000000101), (-7000000000000000101), (-7000000000000000101))], 1)], 1), ((-7000000000000000101), ([(-7000000000000000101)], 1), ([(-7000000000000000101)], 1)), (-7000000000000000101), (-7000000000000000101), (-7000000000000000101)), x.length) := by
  have hl : x.length ≤ 1000000 := h.1
  have hr := rb_le x.length
  exact to_loop (R := rb x.length) (f5 := fun outs i => w_toEntryS_1005 x bare outs i) (f9 := fun outs i => w_toEntryS_1009 x outs i) (Q := fun v => (bare = false → w_intactEntry v.1 v.2.1.1 v.2.1.2 v.2.2.1.1 v.2.2.1.2.1.1 v.2.2.1.2.1.2 v.2.2.1.2.2.1 v.2.2.1.2.2.2 v.2.2.2.1 v.2.2.2.2.1 v.2.2.2.2.2 v.1 v.2.1.1 v.2.1.2 v.2.2.1.1 v.2.2.1.2.1.1 v.2.2.1.2.1.2 v.2.2.1.2.2.1 v.2.2.1.2.2.2 v.2.2.2.1 v.2.2.2.2.1 v.2.2.2.2.2 = some true)) (fgE := fun v => (v.1, List.map (fun x : List ((Int) × (Int) × (Int) × (Int)) × Nat => List.map (fun x : (Int) × (Int) × (Int) × (Int) => (x.1, x.2.1, x.2.2.1, x.2.2.2)) (List.take x.2 x.1)) (List.take v.2.1.2 v.2.1.1), (v.2.2.1.1, List.map (fun x : Int => x) (List.take v.2.2.1.2.1.2 v.2.2.1.2.1.1), List.map (fun x : Int => x) (List.take v.2.2.1.2.2.2 v.2.2.1.2.2.1)), v.2.2.2.1, v.2.2.2.2.1, v.2.2.2.2.2)) (fill := ((ByteArray.mk #[126, 115, 112, 97, 114, 101, 126]), ([([((-7000000000000000101), (-7000000000000000101), (-7000000000000000101), (-7000000000000000101))], 1)], 1), ((-7000000000000000101), ([(-7000000000000000101)], 1), ([(-7000000000000000101)], 1)), (-7000000000000000101), (-7000000000000000101), (-7000000000000000101)))
    (fun outs i hi ho => by
      obtain ⟨v, e0, f0, g0⟩ := t_Entry (h.2 _ (List.getElem_mem hi)) bare
      refine ⟨v, by simpa using f0, g0, ?_⟩
      show w_toEntryS_1005 x bare _ _ = w_toEntryS_1005 x bare _ _
      rw [Ew_toEntryS_1005, ct (ltt hi), ct (bA hi), gD hi, bsome e0, ct (bA (by omega)), ct (blt (by rw [Int.toNat_natCast]; omega)), sc hi (by omega), Int.toNat_natCast])
    (fun outs => by
      show w_toEntryS_1005 x bare _ _ = w_toEntryS_1009 x _ _
      rw [Ew_toEntryS_1005, cf ltf])
    (fun outs i hi ho => by
      show w_toEntryS_1009 x _ _ = w_toEntryS_1009 x _ _
      rw [Ew_toEntryS_1009, ct (ltt hi), ct (bA hi), ct (blt (by rw [Int.toNat_natCast]; omega)), sc hi (by omega), Int.toNat_natCast] <;> rfl)
    (fun outs ho => by
      show w_toEntryS_1009 x _ _ = _
      rw [Ew_toEntryS_1009, cf ltf, ct (bE (by omega)), Int.toNat_natCast] <;> rfl)
theorem n_EntryS {P : List ((ByteArray) × (List (List ((Int) × (Int) × (Int) × (Int)) × Nat) × Nat) × ((Int) × (List (Int) × Nat) × (List (Int) × Nat)) × (Int) × (Int) × (Int))} {n : Nat} (hn : n ≤ 1000000) (hP : P.length = n) (hQ : ∀ v ∈ P, w_intactEntry v.1 v.2.1.1 v.2.1.2 v.2.2.1.1 v.2.2.1.2.1.1 v.2.2.1.2.1.2 v.2.2.1.2.2.1 v.2.2.1.2.2.2 v.2.2.2.1 v.2.2.2.2.1 v.2.2.2.2.2 v.1 v.2.1.1 v.2.1.2 v.2.2.1.1 v.2.2.1.2.1.1 v.2.2.1.2.1.2 v.2.2.1.2.2.1 v.2.2.1.2.2.2 v.2.2.2.1 v.2.2.2.2.1 v.2.2.2.2.2 = some true) : w_intactEntryS (P ++ List.replicate (rb n) ((ByteArray.mk #[126, 115, 112, 97, 114, 101, 126]), ([([((-7000000000000000101), (-7000000000000000101), (-7000000000000000101), (-7000000000000000101))], 1)], 1), ((-7000000000000000101), ([(-7000000000000000101)], 1), ([(-7000000000000000101)], 1)), (-7000000000000000101), (-7000000000000000101), (-7000000000000000101))) n (P ++ List.replicate (rb n) ((ByteArray.mk #[126, 115, 112, 97, 114, 101, 126]), ([([((-7000000000000000101), (-7000000000000000101), (-7000000000000000101), (-7000000000000000101))], 1)], 1), ((-7000000000000000101), ([(-7000000000000000101)], 1), ([(-7000000000000000101)], 1)), (-7000000000000000101), (-7000000000000000101), (-7000000000000000101))) n = some true := by
  have hr := rb_le n
  unfold w_intactEntryS
  rw [bsome (roomBehind_v n), rbw hn, cf (by simp)]
  refine walk_loop (n := n) (f := fun i => w_intactEntryS_1005 _ n _ n _ i) (fun i hi => ?_) ?_
  · show w_intactEntryS_1005 _ _ _ _ _ _ = w_intactEntryS_1005 _ _ _ _ _ _
    have hlt : i < (P ++ List.replicate (rb n) ((ByteArray.mk #[126, 115, 112, 97, 114, 101, 126]), ([([((-7000000000000000101), (-7000000000000000101), (-7000000000000000101), (-7000000000000000101))], 1)], 1), ((-7000000000000000101), ([(-7000000000000000101)], 1), ([(-7000000000000000101)], 1)), (-7000000000000000101), (-7000000000000000101), (-7000000000000000101)) : List ((ByteArray) × (List (List ((Int) × (Int) × (Int) × (Int)) × Nat) × Nat) × ((Int) × (List (Int) × Nat) × (List (Int) × Nat)) × (Int) × (Int) × (Int))).length := by simp; omega
    rw [Ew_intactEntryS_1005, ct (ltt hi), ct (bA hi), ct (bA hi), gD hlt, List.getElem_append_left (by omega), bsome (hQ _ (List.getElem_mem (by omega))), cnt, sc hi (by omega)]
  · show w_intactEntryS_1005 _ _ _ _ _ _ = _
    have hlen : (P ++ List.replicate (rb n) ((ByteArray.mk #[126, 115, 112, 97, 114, 101, 126]), ([([((-7000000000000000101), (-7000000000000000101), (-7000000000000000101), (-7000000000000000101))], 1)], 1), ((-7000000000000000101), ([(-7000000000000000101)], 1), ([(-7000000000000000101)], 1)), (-7000000000000000101), (-7000000000000000101), (-7000000000000000101)) : List ((ByteArray) × (List (List ((Int) × (Int) × (Int) × (Int)) × Nat) × Nat) × ((Int) × (List (Int) × Nat) × (List (Int) × Nat)) × (Int) × (Int) × (Int))).length = n + rb n := by simp; omega
    have e : List.drop n (List.take (n + rb n) (P ++ List.replicate (rb n) ((ByteArray.mk #[126, 115, 112, 97, 114, 101, 126]), ([([((-7000000000000000101), (-7000000000000000101), (-7000000000000000101), (-7000000000000000101))], 1)], 1), ((-7000000000000000101), ([(-7000000000000000101)], 1), ([(-7000000000000000101)], 1)), (-7000000000000000101), (-7000000000000000101), (-7000000000000000101)) : List ((ByteArray) × (List (List ((Int) × (Int) × (Int) × (Int)) × Nat) × Nat) × ((Int) × (List (Int) × Nat) × (List (Int) × Nat)) × (Int) × (Int) × (Int)))) = List.replicate (rb n) ((ByteArray.mk #[126, 115, 112, 97, 114, 101, 126]), ([([((-7000000000000000101), (-7000000000000000101), (-7000000000000000101), (-7000000000000000101))], 1)], 1), ((-7000000000000000101), ([(-7000000000000000101)], 1), ([(-7000000000000000101)], 1)), (-7000000000000000101), (-7000000000000000101), (-7000000000000000101)) := by
      rw [List.take_of_length_le (by omega)]; exact List.drop_left' hP
    rw [Ew_intactEntryS_1005, cf ltf, ct (bE (by omega)), ct (by simp; omega), ct (bE (by omega)), ct (by simp; omega), Int.toNat_natCast, Int.toNat_natCast, e, List.map_replicate, bret]
    exact q_EntryS ⟨by rw [List.length_replicate]; show _ ≤ 9223372036854775807; omega, fun y hy => by rw [(List.mem_replicate.1 hy).2]; first | decide | simp [maxLen]⟩
theorem t_EntryS {x : List ((ByteArray) × (List (List ((Int) × (Int) × (Int) × (Int)))) × ((Int) × (List (Int)) × (List (Int))) × (Int) × (Int) × (Int))} (h : LzEntryS 1000000 x) (bare : Bool) : ∃ v : List ((ByteArray) × (List (List ((Int) × (Int) × (Int) × (Int)) × Nat) × Nat) × ((Int) × (List (Int) × Nat) × (List (Int) × Nat)) × (Int) × (Int) × (Int)) × Nat, w_toEntryS x bare = some v ∧ List.map (fun x : (ByteArray) × (List (List ((Int) × (Int) × (Int) × (Int)) × Nat) × Nat) × ((Int) × (List (Int) × Nat) × (List (Int) × Nat)) × (Int) × (Int) × (Int) => (x.1, List.map (fun x : List ((Int) × (Int) × (Int) × (Int)) × Nat => List.map (fun x : (Int) × (Int) × (Int) × (Int) => (x.1, x.2.1, x.2.2.1, x.2.2.2)) (List.take x.2 x.1)) (List.take x.2.1.2 x.2.1.1), (x.2.2.1.1, List.map (fun x : Int => x) (List.take x.2.2.1.2.1.2 x.2.2.1.2.1.1), List.map (fun x : Int => x) (List.take x.2.2.1.2.2.2 x.2.2.1.2.2.1)), x.2.2.2.1, x.2.2.2.2.1, x.2.2.2.2.2)) (List.take v.2 v.1) = x ∧ (bare = false → w_intactEntryS v.1 v.2 v.1 v.2 = some true) := by
  have hl : x.length ≤ 1000000 := h.1
  have hr := rb_le x.length
  unfold w_toEntryS
  have hw : ∀ {α : Type} (y : Nat → Option α), ((w_roomBehind (x.length : Int)).bind fun r => bif decide (0 ≤ IntKind.wrap .i64 ((x.length : Int) + r)) then bif decide (IntKind.wrap .i64 ((x.length : Int) + r) ≤ IntKind.wrap .i64 ((x.length : Int) + r)) then bif decide (IntKind.wrap .i64 ((x.length : Int) + r) * ((120 : Nat) : Int) ≤ 140737488355328) then y (Int.toNat (IntKind.wrap .i64 ((x.length : Int) + r))) else none else none else none) = y (x.length + rb x.length) := by
    intro α y
    rw [bsome (roomBehind_v x.length), rbw hl, ct (by simp; omega), ct (by simp), ct (by simp; omega), Int.toNat_natCast]
  obtain ⟨P, h1, h2, h3, h4⟩ := u_EntryS h bare (ByteArray.empty, ([], 0), ((0 : Int), ([], 0), ([], 0)), (0 : Int), (0 : Int), (0 : Int))
  have main : ∃ v : List ((ByteArray) × (List (List ((Int) × (Int) × (Int) × (Int)) × Nat) × Nat) × ((Int) × (List (Int) × Nat) × (List (Int) × Nat)) × (Int) × (Int) × (Int)) × Nat, w_toEntryS_1005 x bare (List.replicate (x.length + rb x.length) (ByteArray.empty, ([], 0), ((0 : Int), ([], 0), ([], 0)), (0 : Int), (0 : Int), (0 : Int))) 0 = some v ∧ List.map (fun x : (ByteArray) × (List (List ((Int) × (Int) × (Int) × (Int)) × Nat) × Nat) × ((Int) × (List (Int) × Nat) × (List (Int) × Nat)) × (Int) × (Int) × (Int) => (x.1, List.map (fun x : List ((Int) × (Int) × (Int) × (Int)) × Nat => List.map (fun x : (Int) × (Int) × (Int) × (Int) => (x.1, x.2.1, x.2.2.1, x.2.2.2)) (List.take x.2 x.1)) (List.take x.2.1.2 x.2.1.1), (x.2.2.1.1, List.map (fun x : Int => x) (List.take x.2.2.1.2.1.2 x.2.2.1.2.1.1), List.map (fun x : Int => x) (List.take x.2.2.1.2.2.2 x.2.2.1.2.2.1)), x.2.2.2.1, x.2.2.2.2.1, x.2.2.2.2.2)) (List.take v.2 v.1) = x ∧ (bare = false → w_intactEntryS v.1 v.2 v.1 v.2 = some true) :=
    ⟨_, h4, by simp only []; rw [List.take_left' h1]; exact h2, fun hb => n_EntryS (by omega) h1 (fun v hv => h3 v hv hb)⟩
  cases bare with
  | false =>
    rw [cf rfl]
    refine Exists.imp (fun v hv => ⟨?_, hv.2⟩) main
    exact (hw (fun m => w_toEntryS_1005 x false (List.replicate m (ByteArray.empty, ([], 0), ((0 : Int), ([], 0), ([], 0)), (0 : Int), (0 : Int), (0 : Int))) 0)).trans hv.1
  | true =>
    rw [ct rfl]
    by_cases hz : x.length = 0
    · rw [ct (by simpa using hz)]
      obtain rfl : x = [] := List.eq_nil_of_length_eq_zero hz
      exact ⟨([], 0), rfl, rfl, fun h => by cases h⟩
    · rw [cf (by simpa using hz)]
      refine Exists.imp (fun v hv => ⟨?_, hv.2⟩) main
      exact (hw (fun m => w_toEntryS_1005 x true (List.replicate m (ByteArray.empty, ([], 0), ((0 : Int), ([], 0), ([], 0)), (0 : Int), (0 : Int), (0 : Int))) 0)).trans hv.1
end Go.Proofs.YtbaeikcfchiiaaaE
