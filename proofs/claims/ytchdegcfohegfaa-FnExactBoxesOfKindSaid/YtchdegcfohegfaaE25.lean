/- The engine, part 25: a function whose run is shown by hand in part; slices.Clone. -/
import Derived.Test.YtchdegcfohegfaaE21
import Derived.Lib.SliceRun
namespace Go.Proofs.YtchdegcfohegfaaE
set_option linter.unusedVariables false
set_option linter.unusedSimpArgs false
set_option linter.unusedSectionVars false
open Pr
section
variable {P : Program} {ti : TI} {N : Nat} {X Y : Nat → Prop} {w0 w w' : World} {β β' : Beta} {σ σ' : St} {a a' : Act} {env : Env}

/-- A function's contract. -/
theorem meets_of_arr (hti : TiOk P ti) {n : FuncId} {fn : Func} {body : Code} (hf : P.funcs[n]? = some fn) (hb : fn.body = some body) (hN : fn.ntmps = N) {S : Spec}
    (hrun : ∀ k args r, S.f k args = some r → args.length ≤ N ∧ ∀ (vals : List Value) (w : World) (Z0 : Nat → Prop) (a0 : Act) (b : Frame) (cs : List Frame) (Post : Act → World → Prop), argsR w Z0 args vals →
      a0.tmps = vals.toArray ++ Array.replicate (N - vals.toArray.size) undef → Rel ti N (fun _ => False) (fun g => w.heap.size ≤ g ∨ Z0 g) w .nil (initS 0 args) a0 w → SOdd (initS 0 args) →
      (∀ tick σ a w', finT ti S.own fn.results.toList S.rts S.rt σ = some r → Live ti N (fun _ => False) (fun g => w.heap.size ≤ g ∨ Z0 g) w tick σ a w' → Post a w') →
      Arr P Post b cs (lone (b.at a0 [.code body]) cs w)) (hdp : S.deep = false := by rfl) : Meets P n S := by
  intro k args r vals w Z0 hZ0 hS hargs
  obtain ⟨hlen, h⟩ := hrun k args r hS
  have hvl := argsR_len hargs
  intro cs
  let b : Frame := { (default : Frame) with fn := n, kind := .normal }
  let a0 : Act := { tmps := vals.toArray ++ Array.replicate (fn.ntmps - vals.toArray.size) undef, defers := [] }
  have henter : Frame.enter P n vals.toArray .normal = b.at a0 [.code body] := by
    simp [Frame.enter, Frame.at, hf, hb, b, a0]
  have hR : Rel ti N (fun _ => False) (fun g => w.heap.size ≤ g ∨ Z0 g) w .nil (initS 0 args) a0 w := by
    have hno : ∀ l, isOwn (look (initS 0 args) l) = true → False := by
      intro l hl
      have hne : look (initS 0 args) l ≠ .dead := fun e => by rw [e] at hl; cases hl
      obtain ⟨j, v, _, _, e⟩ := initS_look rfl hne
      rw [e] at hl
      cases hl
    refine ⟨.refl _ _, fun g hg => .inl hg, fun g hg => hg.elim, ?_, rfl, ?_, ?_, fun l g c len hl => (hno l hl).elim, fun l l' g c len c' len' hl => (hno l hl).elim, fun l b _ hx => hx.elim, fun l g hl => (hno l (isDeep_own hl)).elim, fun l l' g hl => (hno l (isDeep_own hl)).elim, fun l l' g c n hl => (hno l hl).elim⟩
    · show (vals.toArray ++ Array.replicate (fn.ntmps - vals.toArray.size) undef).size = N
      simp only [Array.size_append, List.size_toArray, Array.size_replicate]
      omega
    · intro t v hv
      obtain ⟨j, v', h1, h2, h3⟩ := initS_look hv (by simp)
      cases h3
      rw [Nat.zero_add] at h2
      obtain rfl := tmpL_inj h2
      obtain ⟨u, h4, h5⟩ := argsR_get hargs h1
      have : a0.tmps.getD t undef = u := by
        show (vals.toArray ++ Array.replicate (fn.ntmps - vals.toArray.size) undef).getD t undef = u
        have hlt : t < vals.length := (List.getElem?_eq_some_iff.1 h4).1
        rw [Array.getD_eq_getD_getElem?, Array.getElem?_append_left (by simpa using hlt), List.getElem?_toArray, h4]
        rfl
      rw [this]
      exact VR_mono (fun _ _ h => h) (fun g hg => ⟨⟨⟨hZ0 g hg, .inr hg⟩, fun l c len hl => (hno l hl).elim, fun l hl => (hno l (isDeep_own hl)).elim⟩, rfl⟩) h5
    · intro l
      cases hc : look (initS 0 args) l with
      | dead => trivial
      | val v => trivial
      | row own e t xs => obtain ⟨j, v, _, _, e⟩ := initS_look hc (by simp); cases e
      | mem own e cs => obtain ⟨j, v, _, _, e⟩ := initS_look hc (by simp); cases e
      | deep e t k xs op => obtain ⟨j, v, _, _, e⟩ := initS_look hc (by simp); cases e
  have hodd : SOdd (initS 0 args) := by
    intro l hl
    have hne : look (initS 0 args) l ≠ .dead := fun e => by rw [e] at hl; cases hl
    obtain ⟨j, v, _, _, e⟩ := initS_look rfl hne
    rw [e] at hl
    cases hl
  obtain ⟨a', w', todo, ⟨u, hres, hd, hk, hRes⟩, hst⟩ := h vals w Z0 a0 b cs
    (fun a' w' => ∃ u, (results fn a'.tmps).run P w' = .ok u w' ∧ a'.defers = [] ∧ Kept (fun _ => False) w w' ∧ ResR S w w' Z0 r u) hargs (by rw [← hN]) hR hodd (by
      intro tick σ a' w' hfin ⟨β, R0, hs0, _⟩
      unfold finT at hfin
      split at hfin
      · rename_i as has
        obtain ⟨cs', c1, c2, c3, c4⟩ := resCells_sound hti R0 has
        obtain ⟨R, zR⟩ := flats_sound as R0 hs0
        have c1 := VRs_mono (fun _ _ h => h) (fun g hg => ⟨zR g hg, rfl⟩) c1
        refine ⟨_, results_run c4, R.dfr, R.kept, cs', rfl, c2, c3, ?_⟩
        cases hown : S.own with
        | true =>
          rw [hown] at hfin
          rw [hdp, if_neg (by simp), if_pos rfl]
          split at hfin
          · rename_i x us' hx
            cases hfin
            obtain ⟨ds, vs', bs, ls, e1, e2, e3, e4, e5, e6, e7, e8⟩ := outT_own R hx c1
            obtain rfl : vs' = [] := e2
            rw [List.append_nil] at e1
            subst e1
            refine ⟨bs, OwnR_mono ?_ e3, ?_, e7⟩
            · intro f hf
              refine ⟨hf.1.1, hf.1.2, fun c n hm => ?_⟩
              obtain ⟨l, _, c2, n2, hb2, ho2⟩ := e8 _ hm f rfl
              exact hf.2 l c2 n2 ho2 hb2
            · intro g c n hm
              obtain ⟨l, _, c2, n2, hb2, ho2⟩ := e8 _ hm g rfl
              exact (R.new l g c2 n2 ho2 hb2).elim id (fun h => h.elim)
          · cases hfin
        | false =>
          rw [hown] at hfin
          rw [hdp, if_neg (by simp), if_neg (by simp)]
          split at hfin
          · rename_i x us' hx
            cases hfin
            obtain ⟨ds, vs', F, e1, e2, e3, e4⟩ := outT_frz R hx c1
            obtain rfl : vs' = [] := e2
            rw [List.append_nil] at e1
            subst e1
            exact ⟨F, e3, e4⟩
          · cases hfin
      · cases hfin)
  rw [← henter] at hst
  exact ⟨.returned u, w', _, ⟨u, rfl, hk, hRes⟩, hst, rfl, rfl, hd, rfl, fn, hf, hres⟩

theorem run_eql_nil {T e : TypeId} (h : P.underlying T = some (.slice e)) {A : Option Addr} {n c : Nat} : (binOp .eql T (.slice A n c) (.slice none 0 0)).run P w = .ok (.bool A.isNone) w := by
  exact Go.Lib.run_eql_slice_nil w T e A n c 0 0 h

/-- The state behind the test of slices.Clone. -/
def stC (e : TypeId) (t : Ty) (xs : List (T t)) (b : Bool) : St := put (put (put (initS 0 [.slc e t xs]) (setTmp (some 2) .nilslc)) (setTmp (some 3) (.slc e t xs))) (setTmp (some 4) (.bool b))

/-- slices.Clone: out of its runs at a nil slice (A) and at others (B). -/
theorem meets_clone (hti : TiOk P ti) (henv : EnvOk P env) (hm : P.follows .mixedOrders = true) {n : FuncId} {fn : Func} (hf : P.funcs[n]? = some fn) {i0 i1 : Nat} {o0 o1 o2 : Oper} {A B : Code} {T T' e' : TypeId}
    (hb : fn.body = some (.seq (.region i0 #[o0] false) (.seq (.seq (.region i1 #[o1, o2] false) (.cond (.tmp 4) A .skip)) B)))
    (h0 : o0.op = .assign (.const (.slice none 0 0))) (d0 : o0.dst = some 2) (g0 : o0.guard = none)
    (h1 : o1.op = .move (.tmp 0)) (d1 : o1.dst = some 3) (g1 : o1.guard = none)
    (h2 : o2.op = .binOp .eql T (.tmp 3) (.const (.slice none 0 0)) T') (d2 : o2.dst = some 4) (g2 : o2.guard = none)
    (hu : P.underlying T = some (.slice e')) (hN : fn.ntmps = N) (hN5 : 5 ≤ N) {S : Spec}
    (hrun : ∀ k args r, S.f k args = some r → ∃ (e : TypeId) (t : Ty) (xs : List (Go.Proofs.YtchdegcfohegfaaE.T t)), args = [.slc e t xs] ∧
      (xs = [] → runCode ti env N [] (exec ti env N [] (finT ti S.own fn.results.toList S.rts S.rt) k) k A 1 (stC e t xs true) [.code B] (resume ti env N [] (exec ti env N [] (finT ti S.own fn.results.toList S.rts S.rt) k) k (finT ti S.own fn.results.toList S.rts S.rt) [.code B]) = some r) ∧
      runCode ti env N [] (exec ti env N [] (finT ti S.own fn.results.toList S.rts S.rt) k) k B 1 (stC e t xs false) [] (resume ti env N [] (exec ti env N [] (finT ti S.own fn.results.toList S.rts S.rt) k) k (finT ti S.own fn.results.toList S.rts S.rt) []) = some r) (hdp : S.deep = false := by rfl) : Meets P n S := by
  refine meets_of_arr hti hf hb hN (hdp := hdp) fun k args r hS => ?_
  obtain ⟨e, t, xs, rfl, hA, hB⟩ := hrun k args r hS
  refine ⟨by simp only [List.length_singleton]; omega, fun vals w Z0 a0 b cs Post hargs htm R hodd hpost => ?_⟩
  obtain ⟨u, us, rfl, hv, hus⟩ := hargs
  obtain rfl : us = [] := hus
  obtain ⟨F, ⟨Ad, c, hcs, hc, hsl⟩, hZ⟩ := hv
  obtain rfl : u = .slice Ad xs.length c := by simpa using hcs
  have t0 : a0.tmps.getD 0 undef = .slice Ad xs.length c := by rw [htm]; simp [Array.getD_eq_getD_getElem?, Array.getElem?_append]
  have R1 := R.set (d := some 2) (fun t h => by cases h; omega) (v := .nilslc) (u := .slice none 0 0) rfl
  have v0 := R1.tmp 0 (.slc e t xs) rfl
  have t1 : (a0.put (some 2) (.slice none 0 0)).tmps.getD 0 undef = .slice Ad xs.length c := by
    rw [put_getD R.size (by omega), if_neg (by decide)]; exact t0
  rw [t1] at v0
  have R2 := R1.set (d := some 3) (fun t h => by cases h; omega) v0
  have R3 := R2.set (d := some 4) (fun t h => by cases h; omega) (v := .bool Ad.isNone) (u := .bool Ad.isNone) rfl
  have hl : Live ti N (fun _ => False) (fun g => w.heap.size ≤ g ∨ Z0 g) w 1 (stC e t xs Ad.isNone) (((a0.put (some 2) (.slice none 0 0)).put (some 3) (.slice Ad xs.length c)).put (some 4) (.bool Ad.isNone)) w :=
    ⟨_, R3, ((hodd.put rfl).put rfl).put rfl, fun _ _ => rfl⟩
  have hwp0 : (Code.region i0 #[o0] false).wp P (fun e a' w' => e = .normal ∧ a' = a0.put (some 2) (.slice none 0 0) ∧ w' = w) a0 w :=
    wp_region_list (wpList_plain g0 fun K hK => wp_val (w' := w) (u := .slice none 0 0) (by simp [execOp, h0, Act.eval]) (by rw [d0]; exact hK _ _ (wpList_nil ⟨rfl, rfl, rfl⟩)))
  have e3 : ((a0.put (some 2) (.slice none 0 0)).put (some 3) (.slice Ad xs.length c)).tmps.getD 3 undef = .slice Ad xs.length c := by
    rw [put_getD R1.size (by omega), if_pos rfl]
  have hwp1 : (Code.region i1 #[o1, o2] false).wp P (fun e a' w' => e = .normal ∧ a' = ((a0.put (some 2) (.slice none 0 0)).put (some 3) (.slice Ad xs.length c)).put (some 4) (.bool Ad.isNone) ∧ w' = w) (a0.put (some 2) (.slice none 0 0)) w := by
    refine wp_region_list (wpList_plain g1 fun K hK => wp_val (w' := w) (u := .slice Ad xs.length c) (by simp [execOp, h1, Act.eval, t1]) ?_)
    rw [d1]
    refine hK _ _ (wpList_plain g2 fun K' hK' => wp_val (w' := w) (u := .bool Ad.isNone) ?_ (by rw [d2]; exact hK' _ _ (wpList_nil ⟨rfl, rfl, rfl⟩)))
    simp [execOp, h2, Act.eval, e3, eqGuard, run_eql_nil hu]
  have hrec := exec_sound (X := fun _ => False) (Y := fun g => w.heap.size ≤ g ∨ Z0 g) (w0 := w) (b := b) (cs := cs) (hs := []) hti henv hm hpost k
  refine .head step_seq ?_
  obtain ⟨_, _, _, ⟨rfl, rfl, rfl⟩, st0⟩ := hwp0 b _ cs
  refine .steps st0 (.head step_seq (.head step_seq ?_))
  obtain ⟨_, _, _, ⟨rfl, rfl, rfl⟩, st1⟩ := hwp1 b _ cs
  refine .steps st1 ?_
  have he : (((a0.put (some 2) (.slice none 0 0)).put (some 3) (.slice Ad xs.length c)).put (some 4) (.bool Ad.isNone)).eval (.tmp 4) = .bool Ad.isNone := by
    show Array.getD _ 4 undef = _
    rw [put_getD R2.size (by omega), if_pos rfl]
  refine .head (step_cond he) ?_
  cases Ad with
  | none =>
    have hx : xs = [] := by
      rcases hsl with ⟨h, _⟩ | ⟨_, a, _, _, h, _⟩
      · exact h
      · cases h
    exact runCode_sound hti henv hm hpost hrec A 1 _ _ _ [.code B] _ (hA hx) (resume_sound hti henv hm hpost hrec [.code B]) hl
  | some ad =>
    exact .head step_skip (runCode_sound hti henv hm hpost hrec B 1 _ _ _ [] _ hB (resume_sound hti henv hm hpost hrec []) hl)
end
end Go.Proofs.YtchdegcfohegfaaE
