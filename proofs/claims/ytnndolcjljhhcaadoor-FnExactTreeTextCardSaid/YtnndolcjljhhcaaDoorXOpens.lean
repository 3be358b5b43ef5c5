/- How the data of a call's arguments read as the kinds of the print: numbers, strings, lists and structs of any depth. For all worlds and all readings. -/
import Derived.Deep.Slices
import Derived.Lib.SmallJoins
import Derived.SizedLaws
import Derived.ProofKit
import Derived.Test.YtnndolcjljhhcaaDoorWWords
import Derived.Test.YtnndolcjljhhcaaDoorWMore
import Derived.Test.YtnndolcjljhhcaaDoorXWords
namespace Go.Proofs.YtnndolcjljhhcaaDoorX
set_option linter.unusedVariables false
set_option linter.unusedSimpArgs false
open Go.RowKit Go.ChangeShapes Go.WideShapes Go.Proofs.YtnndolcjljhhcaaDoorW.PrintWords Go.Proofs.YtnndolcjljhhcaaDoorW.PrintLast Go.Proofs.YtnndolcjljhhcaaDoorW.PrintMore

structure Opens (P : Program) (T : TypeId) {α : Type} (d : Kd α) (ok : α → Prop) : Prop where
  sz : P.cellsOf T = d.sz
  go : ∀ {H : Type} {enc : TypeId × Value → H} {w : World} {base : Nat} {held : Bool} {fuel : Nat} {cs : List Value} {x : DataW H × List MemPlace},
    DataW.trod enc P w base (fun _ => true) held fuel T cs = some x → ∃ a, d.K w a cs ∧ ok a

theorem Opens.int {P : Program} {T : TypeId} {k : IntKind} (hc : P.cellsOf T = 1) (hu : P.underlying T = some (.int k)) : Opens P T (Kd.int k) (okI k) :=
  ⟨hc, fun h => by
    obtain ⟨n, rfl, _, hw⟩ := DataW.trod_int hu h
    exact ⟨n, rfl, hw⟩⟩
theorem Opens.bool {P : Program} {T : TypeId} (hc : P.cellsOf T = 1) (hu : P.underlying T = some .bool) : Opens P T Kd.bool okT :=
  ⟨hc, fun h => by
    obtain ⟨b, rfl, _⟩ := DataW.trod_bool hu h
    exact ⟨b, rfl, trivial⟩⟩
theorem Opens.string {P : Program} {T : TypeId} (hc : P.cellsOf T = 1) (hu : P.underlying T = some .string) : Opens P T Kd.string okS :=
  ⟨hc, fun h => by
    obtain ⟨s, rfl, _, hs⟩ := DataW.trod_string hu h
    exact ⟨s, rfl, hs⟩⟩
theorem cells_at {w : World} {base : Nat} {a : Addr} {n : Nat} {cs : List Value} (h : w.cells? base a n = some cs) : cs.length = n ∧ ∀ i u, cs[i]? = some u → w.cell? (a.add i) = some u := by
  obtain ⟨_, hl, hc⟩ := World.cells?_some h
  refine ⟨hl, fun i u hi => ?_⟩
  have hlt : i < n := by
    have := (List.getElem?_eq_some_iff.1 hi).1
    omega
  rw [hc i hlt]
  exact hi
theorem Opens.slice {P : Program} {T e : TypeId} {α : Type} {d : Kd α} {ok : α → Prop} (hc : P.cellsOf T = 1) (hu : P.underlying T = some (.slice e)) (he : Opens P e d ok) : Opens P T (Kd.slice e d) (okL ok) := by
  refine ⟨hc, fun {H enc w base held fuel cs x} h => ?_⟩
  rcases Go.Deep.open_slice hu h with ⟨rfl, _⟩ | ⟨a, len, cap, m, n, D, Pl, rfl, _, hl, hm, hmm, _, hx⟩
  · exact ⟨[], ⟨none, 0, rfl, Nat.le_refl _, rfl, by simp, fun h => absurd h (by simp)⟩, by simp [okL]⟩
  · have hle : len ≤ m := by simp at hmm; omega
    by_cases h0 : len = 0
    · subst h0
      exact ⟨[], ⟨some a, cap, rfl, Nat.zero_le _, rfl, by simp, fun h => absurd h (by simp)⟩, by simp [okL]⟩
    · have hel : ∀ i, i < len → ∃ y : α, ok y ∧ ∃ c, c.length = d.sz ∧ d.K w y c ∧ ∀ j u, c[j]? = some u → w.cell? (a.add (i * d.sz + j)) = some u := by
        intro i hi
        obtain ⟨c, hc1, hc2⟩ := hx i (by omega)
        obtain ⟨y, hy, hok⟩ := he.go hc2
        obtain ⟨hl1, hcell⟩ := cells_at hc1
        refine ⟨y, hok, c, by rw [hl1, he.sz], hy, fun j u hj => ?_⟩
        have := hcell j u hj
        rw [Go.Deep.add_add, he.sz] at this
        exact this
      obtain ⟨y0, _⟩ := hel 0 (by omega)
      have : Inhabited α := ⟨y0⟩
      obtain ⟨f, hf⟩ := Go.Deep.choose_lt hel
      have hmx : len ≤ maxLen := Nat.le_trans hl hm
      refine ⟨(List.range len).map f, ⟨some a, cap, by simp, by simpa using hl, ?_⟩, by simpa using hmx, fun x hx => ?_⟩
      · refine ⟨rfl, by simpa [maxLen] using hmx, fun _ => ⟨a, rfl, fun j p hj => ?_⟩⟩
        have hjl : j < len := by
          have := (List.getElem?_eq_some_iff.1 hj).1
          simpa using this
        have : p = f j := by
          rw [List.getElem?_map, List.getElem?_range hjl] at hj
          simpa using hj.symm
        subst this
        exact (hf j hjl).2
      · obtain ⟨i, hi, rfl⟩ := List.mem_map.1 hx
        exact (hf i (List.mem_range.1 hi)).1

/-- The fields from one on, at their place in the struct's cells. -/
structure OpensF (P : Program) (fs : List Field) (o : Nat) {α : Type} (d : Kd α) (ok : α → Prop) : Prop where
  go : ∀ {H : Type} {enc : TypeId × Value → H} {w : World} {base : Nat} {held : Bool} {fuel : Nat} {cs : List Value} {xs : List (DataW H × List MemPlace)},
    (∀ (i : Nat) (f : Field), fs[i]? = some f → DataW.trod enc P w base (fun _ => true) held fuel f.type ((cs.drop f.offset).take (P.cellsOf f.type)) = xs[i]?) → xs.length = fs.length →
    ∃ a, d.K w a ((cs.drop o).take d.sz) ∧ ok a
theorem OpensF.one {P : Program} {f : Field} {o : Nat} {α : Type} {d : Kd α} {ok : α → Prop} (ho : f.offset = o) (h : Opens P f.type d ok) : OpensF P [f] o d ok := by
  refine ⟨fun {H enc w base held fuel cs xs} hx hl => ?_⟩
  match xs, hl with
  | [x], _ =>
    obtain ⟨a, hk, hok⟩ := h.go ((hx 0 f rfl).trans rfl)
    rw [ho, h.sz] at hk
    exact ⟨a, hk, hok⟩
theorem OpensF.cons {P : Program} {f : Field} {fs : List Field} {o : Nat} {α β : Type} {d : Kd α} {ok : α → Prop} {d' : Kd β} {ok' : β → Prop} (ho : f.offset = o) (h : Opens P f.type d ok) (h' : OpensF P fs (o + d.sz) d' ok') : OpensF P (f :: fs) o (Kd.pair d d') (okP ok ok') := by
  refine ⟨fun {H enc w base held fuel cs xs} hx hl => ?_⟩
  match xs, hl with
  | x :: xs, hl =>
    obtain ⟨a, hk, hok⟩ := h.go ((hx 0 f rfl).trans rfl)
    rw [ho, h.sz] at hk
    obtain ⟨b, hk', hok'⟩ := h'.go (fun i g hg => hx (i + 1) g hg) (Nat.succ.inj hl)
    refine ⟨(a, b), ⟨_, _, ?_, hk, hk'⟩, hok, hok'⟩
    show (cs.drop o).take (d.sz + d'.sz) = _
    rw [List.take_add, List.drop_drop]
theorem Opens.struct {P : Program} {T : TypeId} {fs : Array Field} {α : Type} {d : Kd α} {ok : α → Prop} (hc : P.cellsOf T = d.sz) (hu : P.underlying T = some (.struct fs)) (h : OpensF P fs.toList 0 d ok) : Opens P T d ok := by
  refine ⟨hc, fun {H enc w base held fuel cs x} hx => ?_⟩
  obtain ⟨xs, n, _, _, hl, hlen, hg⟩ := DataW.trod_struct hu hx
  obtain ⟨a, hk, hok⟩ := h.go (fun i f hf => hg i f (by simpa using hf)) (by simpa using hlen)
  rw [List.drop_zero, ← hc, ← hl, List.take_length] at hk
  exact ⟨a, hk, hok⟩
theorem Opens.iso {P : Program} {T : TypeId} {α β : Type} {d : Kd α} {ok : α → Prop} {f : β → α} (g : α → β) (hg : ∀ x, f (g x) = x) (h : Opens P T d ok) : Opens P T (Kd.iso d f) (fun x => ok (f x)) :=
  ⟨h.sz, fun hx => by
    obtain ⟨a, hk, hok⟩ := h.go hx
    refine ⟨g a, ?_, ?_⟩
    · show d.K _ (f (g a)) _
      rw [hg]
      exact hk
    · show ok (f (g a))
      rw [hg]
      exact hok⟩
theorem Opens.weak {P : Program} {T : TypeId} {α : Type} {d : Kd α} {ok ok' : α → Prop} (h : Opens P T d ok) (hi : ∀ x, ok x → ok' x) : Opens P T d ok' :=
  ⟨h.sz, fun hx => by
    obtain ⟨a, hk, hok⟩ := h.go hx
    exact ⟨a, hk, hi a hok⟩⟩

/-! ### Arguments -/
section
variable {H : Type} {enc : TypeId × Value → H} {P : Program} {w : World} {base : Nat} {held : Bool} {T : TypeId} {v : Value} {x : DataW H} {p : List MemPlace} {r : Reach} {b0 : Nat}
theorem arg_slice {e : TypeId} {α : Type} {d : Kd α} {ok : α → Prop} (hu : P.underlying T = some (.slice e)) (hO : Opens P T (Kd.slice e d) (okL ok)) (hv : Value.okWide P w r b0 T v) (h : DataW.Trod enc P w base (fun _ => true) held T v x p) :
    ∃ A c l, v = .slice A (List.length l) c ∧ Kd.C d w A l.length l ∧ l.length ≤ c ∧ okL ok l := by
  obtain ⟨a, len, cap, rfl⟩ := okWide_slice hu hv
  obtain ⟨fuel, hf⟩ := h
  obtain ⟨l, ⟨A, c, hcs, hl, hC⟩, hok⟩ := hO.go hf
  simp [Value.cells] at hcs
  obtain ⟨rfl, rfl, rfl⟩ := hcs
  exact ⟨_, _, l, rfl, hC, hl, hok⟩
theorem arg_struct {fs : Array Field} {α : Type} {d : Kd α} {ok : α → Prop} (hu : P.underlying T = some (.struct fs)) (hO : Opens P T d ok) (hv : Value.okWide P w r b0 T v) (h : DataW.Trod enc P w base (fun _ => true) held T v x p) :
    ∃ a cs, v = .agg cs ∧ d.K w a cs.toList ∧ ok a := by
  obtain ⟨cs, rfl, _⟩ := okWide_struct hu hv
  obtain ⟨fuel, hf⟩ := h
  obtain ⟨a, hk, hok⟩ := hO.go hf
  exact ⟨a, cs, rfl, by simpa [Value.cells] using hk, hok⟩
/-- A slice of whatever elements is no longer than its weight allows. -/
theorem sized_any {ts : List TypeId} {ds : List (DataW H)} {j : Nat} {e : TypeId} {a : Option Addr} {len cap : Nat}
    (hsz : (DataW.weightsEach P ts ds).all (· ≤ reachBytes) = true) (ht : ts[j]? = some T) (hd : ds[j]? = some x) (hu : P.underlying T = some (.slice e)) {B : Nat} (hB : P.bytesOf e = B)
    (h : DataW.Trod enc P w base (fun _ => true) held T (.slice a len cap) x p) : len * B ≤ 140737488351232 := by
  obtain ⟨fuel, hf⟩ := h
  rcases Go.Deep.open_slice hu hf with ⟨hcs, _⟩ | ⟨y, l, c, m, n, D, Pl, hcs, _, hl, _, hm, hx, _⟩
  · simp [Value.cells] at hcs
    obtain ⟨rfl, rfl, rfl⟩ := hcs
    simp
  · simp [Value.cells] at hcs
    obtain ⟨rfl, rfl, rfl⟩ := hcs
    obtain ⟨hx, _⟩ := Prod.mk.inj hx
    subst hx
    have z := sized_slice hsz ht hd hu
    rw [hB] at z
    simp at z hm
    subst hm
    exact Nat.le_trans (Nat.mul_le_mul_right _ (by omega)) z
end

end Go.Proofs.YtnndolcjljhhcaaDoorX
