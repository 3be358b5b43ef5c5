/- The engine, part 22: what a law's arguments hold; a law's call. For all worlds. -/
import Derived.Test.YtchdegcfohegfaaE21
import Derived.Deep.Slices
import Derived.Lib.SmallJoins
import Derived.SizedLaws
import Derived.ProofKit
namespace Go.Proofs.YtchdegcfohegfaaE
set_option linter.unusedVariables false
set_option linter.unusedSimpArgs false
open Go.RowKit Go.ChangeShapes Go.WideShapes

def okD : (t : Ty) → T t → Prop
  | .int k, n => (Lit.int k n).wf = true
  | .bool, _ => True
  | .str, s => s.size ≤ maxLen
  | .slice _ t, xs => List.length xs ≤ maxLen ∧ ∀ x ∈ (xs : List (T t)), okD t x
  | .vslice _ t, x => x.1.length ≤ maxLen ∧ ∀ y ∈ x.1, okD t y
  | .pair a b, x => okD a x.1 ∧ okD b x.2

structure Opn (P : Program) (U : TypeId) (t : Ty) : Prop where
  cz : P.cellsOf U = sz t
  go : ∀ {H : Type} {enc : TypeId × Value → H} {w : World} {base : Nat} {held : Bool} {fuel : Nat} {cs : List Value} {x : DataW H × List MemPlace},
    DataW.trod enc P w base (fun _ => true) held fuel U cs = some x → ∃ (a : T t) (F : List Nat), Rd w t a cs F ∧ okD t a

theorem Opn.int {P : Program} {U : TypeId} {k : IntKind} (hc : P.cellsOf U = 1) (hu : P.underlying U = some (.int k)) : Opn P U (.int k) :=
  ⟨hc, fun h => by
    obtain ⟨n, rfl, _, hw⟩ := DataW.trod_int hu h
    exact ⟨n, [], ⟨rfl, rfl⟩, hw⟩⟩
theorem Opn.bool {P : Program} {U : TypeId} (hc : P.cellsOf U = 1) (hu : P.underlying U = some .bool) : Opn P U .bool :=
  ⟨hc, fun h => by
    obtain ⟨b, rfl, _⟩ := DataW.trod_bool hu h
    exact ⟨b, [], ⟨rfl, rfl⟩, trivial⟩⟩
theorem Opn.string {P : Program} {U : TypeId} (hc : P.cellsOf U = 1) (hu : P.underlying U = some .string) : Opn P U .str :=
  ⟨hc, fun h => by
    obtain ⟨s, rfl, _, hs⟩ := DataW.trod_string hu h
    exact ⟨s, [], ⟨rfl, rfl⟩, hs⟩⟩
theorem cells_atE {w : World} {base : Nat} {a : Addr} {n : Nat} {cs : List Value} (h : w.cells? base a n = some cs) : cs.length = n ∧ ∀ i u, cs[i]? = some u → w.cell? (a.add i) = some u := by
  obtain ⟨_, hl, hc⟩ := World.cells?_some h
  refine ⟨hl, fun i u hi => ?_⟩
  have hlt : i < n := by
    have := (List.getElem?_eq_some_iff.1 hi).1
    omega
  rw [hc i hlt]
  exact hi
theorem rows_of {α : Type} {R : α → List Value → List Nat → Prop} {ok : α → Prop} {n : Nat} {w : World} {a : Addr} : ∀ len : Nat,
    (∀ i, i < len → ∃ (y : α) (c : List Value) (F : List Nat), ok y ∧ c.length = n ∧ R y c F ∧ ∀ j u, c[j]? = some u → w.cell? (a.add (i * n + j)) = some u) →
    ∃ (xs : List α) (cs : List Value) (F : List Nat), xs.length = len ∧ cs.length = len * n ∧ rowR R xs cs F ∧ At w a cs ∧ ∀ x ∈ xs, ok x
  | 0, _ => ⟨[], [], [], rfl, by simp, ⟨rfl, rfl⟩, fun j u h => by simp at h, by simp⟩
  | len + 1, h => by
    obtain ⟨xs, cs, F, h1, h2, h3, h4, h5⟩ := rows_of len (fun i hi => h i (by omega))
    obtain ⟨y, c, G, g1, g2, g3, g4⟩ := h len (by omega)
    refine ⟨xs ++ [y], cs ++ c, F ++ (G ++ []), by simp [h1], by rw [List.length_append, h2, g2, Nat.add_mul, Nat.one_mul], rowR_append h3 ⟨c, [], G, [], by simp, rfl, g3, rfl, rfl⟩, ?_, ?_⟩
    · intro j u hu
      by_cases hj : j < cs.length
      · rw [List.getElem?_append_left hj] at hu
        exact h4 j u hu
      · rw [List.getElem?_append_right (by omega)] at hu
        have := g4 _ u hu
        rw [← h2, Nat.add_sub_cancel' (by omega)] at this
        exact this
    · intro x hx
      rcases List.mem_append.1 hx with hx | hx
      · exact h5 x hx
      · rw [List.mem_singleton.1 hx]; exact g1

theorem Opn.slice {P : Program} {U e : TypeId} {t : Ty} (hc : P.cellsOf U = 1) (hu : P.underlying U = some (.slice e)) (he : Opn P e t) : Opn P U (.slice e t) := by
  refine ⟨hc, fun {H enc w base held fuel cs x} h => ?_⟩
  rcases Go.Deep.open_slice hu h with ⟨rfl, _⟩ | ⟨a, len, cap, m, n, D, Pl, rfl, _, hl, hm, hmm, _, hx⟩
  · exact ⟨([] : List (T t)), [], ⟨none, 0, rfl, Nat.le_refl _, .inl ⟨rfl, rfl⟩⟩, by simp, by simp⟩
  · have hle : len ≤ m := by simp at hmm; omega
    have hel : ∀ i, i < len → ∃ (y : T t) (c : List Value) (F : List Nat), okD t y ∧ c.length = sz t ∧ Rd w t y c F ∧ ∀ j u, c[j]? = some u → w.cell? (a.add (i * sz t + j)) = some u := by
      intro i hi
      obtain ⟨c, hc1, hc2⟩ := hx i (by omega)
      obtain ⟨y, F, hy, hok⟩ := he.go hc2
      obtain ⟨hl1, hcell⟩ := cells_atE hc1
      refine ⟨y, c, F, hok, by rw [hl1, he.cz], hy, fun j u hj => ?_⟩
      have := hcell j u hj
      rw [Go.Deep.add_add, he.cz] at this
      exact this
    obtain ⟨xs, ds, F, h1, h2, h3, h4, h5⟩ := rows_of len hel
    have hmx : len ≤ maxLen := Nat.le_trans hl hm
    by_cases h0 : xs = []
    · subst h0
      have h0 : len = 0 := by simpa using h1.symm
      subst h0
      exact ⟨([] : List (T t)), [], ⟨some a, cap, rfl, Nat.zero_le _, .inl ⟨rfl, rfl⟩⟩, by simp, by simp⟩
    · exact ⟨xs, a.block :: F, ⟨some a, cap, by rw [h1], by rw [h1]; exact hl, .inr ⟨h0, a, ds, F, rfl, rfl, h4, h3⟩⟩, by rw [h1]; exact hmx, h5⟩

structure OpnF (P : Program) (fs : List Field) (o : Nat) (t : Ty) : Prop where
  go : ∀ {H : Type} {enc : TypeId × Value → H} {w : World} {base : Nat} {held : Bool} {fuel : Nat} {cs : List Value} {xs : List (DataW H × List MemPlace)},
    (∀ (i : Nat) (f : Field), fs[i]? = some f → DataW.trod enc P w base (fun _ => true) held fuel f.type ((cs.drop f.offset).take (P.cellsOf f.type)) = xs[i]?) → xs.length = fs.length →
    ∃ (a : T t) (F : List Nat), Rd w t a ((cs.drop o).take (sz t)) F ∧ okD t a
theorem OpnF.one {P : Program} {f : Field} {o : Nat} {t : Ty} (ho : f.offset = o) (h : Opn P f.type t) : OpnF P [f] o t := by
  refine ⟨fun {H enc w base held fuel cs xs} hx hl => ?_⟩
  match xs, hl with
  | [x], _ =>
    obtain ⟨a, F, hk, hok⟩ := h.go ((hx 0 f rfl).trans rfl)
    rw [ho, h.cz] at hk
    exact ⟨a, F, hk, hok⟩
theorem OpnF.cons {P : Program} {f : Field} {fs : List Field} {o : Nat} {t t' : Ty} (ho : f.offset = o) (h : Opn P f.type t) (h' : OpnF P fs (o + sz t) t') : OpnF P (f :: fs) o (.pair t t') := by
  refine ⟨fun {H enc w base held fuel cs xs} hx hl => ?_⟩
  match xs, hl with
  | x :: xs, hl =>
    obtain ⟨a, F, hk, hok⟩ := h.go ((hx 0 f rfl).trans rfl)
    rw [ho, h.cz] at hk
    obtain ⟨b, G, hk', hok'⟩ := h'.go (fun i g hg => hx (i + 1) g hg) (Nat.succ.inj hl)
    refine ⟨(a, b), F ++ G, ⟨_, _, F, G, ?_, rfl, hk, hk'⟩, hok, hok'⟩
    show (cs.drop o).take (sz t + sz t') = _
    rw [List.take_add, List.drop_drop]
theorem Opn.struct {P : Program} {U : TypeId} {fs : Array Field} {t : Ty} (hc : P.cellsOf U = sz t) (hu : P.underlying U = some (.struct fs)) (h : OpnF P fs.toList 0 t) : Opn P U t := by
  refine ⟨hc, fun {H enc w base held fuel cs x} hx => ?_⟩
  obtain ⟨xs, n, _, _, hl, hlen, hg⟩ := DataW.trod_struct hu hx
  obtain ⟨a, F, hk, hok⟩ := h.go (fun i f hf => hg i f (by simpa using hf)) (by simpa using hlen)
  rw [List.drop_zero, ← hc, ← hl, List.take_length] at hk
  exact ⟨a, F, hk, hok⟩

/-! ### arguments -/
section
variable {H : Type} {enc : TypeId × Value → H} {P : Program} {w : World} {base : Nat} {held : Bool} {U : TypeId} {v : Value} {x : DataW H} {p : List MemPlace} {r : Reach} {b0 : Nat}
/-- An argument of one cell. -/
theorem arg_one {t : Ty} (hO : Opn P U t) (hv : v.cells.toList = [v]) (h : DataW.Trod enc P w base (fun _ => true) held U v x p) :
    ∃ (a : T t) (F : List Nat), Rd w t a [v] F ∧ okD t a := by
  obtain ⟨fuel, hf⟩ := h
  obtain ⟨a, F, h1, h2⟩ := hO.go hf
  rw [hv] at h1
  exact ⟨a, F, h1, h2⟩
theorem arg_sliceE {e : TypeId} {t : Ty} (hu : P.underlying U = some (.slice e)) (hO : Opn P U (.slice e t)) (hv : Value.okWide P w r b0 U v) (h : DataW.Trod enc P w base (fun _ => true) held U v x p) :
    ∃ (l : List (T t)) (A : Option Addr) (c : Nat), v = .slice A l.length c ∧ okD (.slice e t) l ∧ VR .nil w (fun g => g < w.heap.size) (.slc e t l) v := by
  obtain ⟨a, len, cap, rfl⟩ := okWide_slice hu hv
  obtain ⟨l, F, h1, h2⟩ := arg_one hO (by simp [Value.cells]) h
  refine ⟨l, a, cap, ?_, h2, ⟨F, h1, Rd_lt h1⟩⟩
  obtain ⟨A, c, hcs, _⟩ := h1
  simp at hcs
  obtain ⟨rfl, rfl, rfl⟩ := hcs
  rfl
theorem arg_intE {k : IntKind} (hu : P.underlying U = some (.int k)) (hc : P.cellsOf U = 1) (hv : Value.okWide P w r b0 U v) (h : DataW.Trod enc P w base (fun _ => true) held U v x p) :
    ∃ n : Int, v = .int k n ∧ (Lit.int k n).wf = true ∧ VR .nil w (fun g => g < w.heap.size) (.int k n) v := by
  obtain ⟨a1, rfl, _, _, w1⟩ := open_int hu hv h
  exact ⟨a1, rfl, w1, rfl⟩
theorem arg_structE {fs : Array Field} {t : Ty} (hu : P.underlying U = some (.struct fs)) (hO : Opn P U t) (hv : Value.okWide P w r b0 U v) (h : DataW.Trod enc P w base (fun _ => true) held U v x p) :
    ∃ (a : T t) (cs : Array Value), v = .agg cs ∧ okD t a ∧ VR .nil w (fun g => g < w.heap.size) (.agg (cells t a)) v := by
  obtain ⟨cs, rfl, _⟩ := okWide_struct hu hv
  obtain ⟨fuel, hf⟩ := h
  obtain ⟨a, F, hk, hok⟩ := hO.go hf
  refine ⟨a, cs, rfl, hok, cs.toList, rfl, VRs_cells (by simpa [Value.cells] using hk) (Rd_lt (by simpa [Value.cells] using hk))⟩
/-- A slice of whatever elements is no longer than its weight allows. -/
theorem sized_anyE {ts : List TypeId} {ds : List (DataW H)} {j : Nat} {e : TypeId} {a : Option Addr} {len cap : Nat}
    (hsz : (DataW.weightsEach P ts ds).all (· ≤ reachBytes) = true) (ht : ts[j]? = some U) (hd : ds[j]? = some x) (hu : P.underlying U = some (.slice e)) {B : Nat} (hB : P.bytesOf e = B)
    (h : DataW.Trod enc P w base (fun _ => true) held U (.slice a len cap) x p) : len * B ≤ 140737488351232 := by
  obtain ⟨fuel, hf⟩ := h
  rcases Go.Deep.open_slice hu hf with ⟨hcs, _⟩ | ⟨y, l, c, m, n, D, Pl, hcs, _, hl, _, hm, hx, _⟩
  · simp [Value.cells] at hcs
    obtain ⟨rfl, rfl, rfl⟩ := hcs
    simp
  · simp [Value.cells] at hcs
    obtain ⟨rfl, rfl, rfl⟩ := hcs
    obtain ⟨hx, _⟩ := Prod.mk.inj hx
    subst hx
    have z := sized_slice hsz ht hd hu
    rw [hB] at z
    simp at z hm
    subst hm
    exact Nat.le_trans (Nat.mul_le_mul_right _ (by omega)) z
end

/-! ### a law's call -/
theorem law_calls {P : Program} {n : FuncId} {S : Spec} (hm : Meets P n S) (hr : S.rts = [(.bool, false)]) (ho : S.own = true) (ht : S.rt = .bool) {k : Nat} {args : List AVal} {vals : List Value} {w : World}
    (hf : S.f k args = some (cast (congrArg T ht.symm) true)) (ha : argsR w (fun g => g < w.heap.size) args vals) (hdp : S.deep = false := by rfl) :
    Calls P n vals.toArray w fun e w' => e = .returned (.bool true) ∧ Below w.heap.size w w' := by
  refine (hm k args _ vals w _ (fun _ h => h) hf ha).mono fun e w' ⟨u, he, hk, cs, hu, hl, _, hres⟩ => ?_
  refine ⟨?_, hk.below⟩
  rw [he, hu, hr]
  rw [hdp, if_neg (by simp), ho, if_pos rfl] at hres
  obtain ⟨bs, h1, _⟩ := hres
  obtain ⟨vw, rts, own, rt, f⟩ := S
  cases ht
  obtain ⟨rfl, _⟩ := h1
  rfl
end Go.Proofs.YtchdegcfohegfaaE
