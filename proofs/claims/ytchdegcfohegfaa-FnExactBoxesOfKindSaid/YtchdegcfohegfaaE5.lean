/- The engine, part 5: more operations that leave memory as it is: reads. -/
import Derived.Test.YtchdegcfohegfaaE4
import Derived.Laws.Rows
namespace Go.Proofs.YtchdegcfohegfaaE
set_option linter.unusedVariables false
set_option linter.unusedSimpArgs false
set_option linter.unusedSectionVars false
open Pr

section
variable {P : Program} {ti : TI} {N : Nat} {X Y : Nat → Prop} {w0 w w' : World} {β β' : Beta} {σ σ' : St} {a a' : Act}

theorem idx_sound {Z : Nat → Prop} {v : AVal} {u : Value} {n : Int} (hv : VR β w Z v u) (h : (idxA v).E σ n) : ∃ k, u = .int k n := by
  cases v <;> simp only [idxA, E_ret, E_fail] at h
  subst h
  exact ⟨_, hv⟩

theorem opds_sound (R : Rel ti N X Y w0 β σ a w) : ∀ {xs : List Operand} {vs : List AVal}, (opds xs).E σ vs → vs.length = xs.length ∧ ∀ (i : Nat) v x, vs[i]? = some v → xs[i]? = some x → VR β w (Zs Y β σ w) v (a.eval x)
  | [], vs, h => by rw [opds, E_ret] at h; subst h; exact ⟨rfl, fun i v x h => by simp at h⟩
  | x :: xs, vs, h => by
    simp only [opds, E_bind, E_ret] at h
    obtain ⟨v, h1, us, h2, rfl⟩ := h
    obtain ⟨h3, h4⟩ := opds_sound R h2
    refine ⟨by simp [h3], fun i v' x' hv hx => ?_⟩
    cases i with
    | zero => simp at hv hx; subst hv; subst hx; exact opd_sound R h1
    | succ i => exact h4 i v' x' (by simpa using hv) (by simpa using hx)

theorem VR_one_of {Z : Nat → Prop} {c : AVal} {v : Value} (h : VR1 β w Z c v) : VR β w Z c v := by
  cases c <;> first | exact h | exact h.elim

theorem VR2_of {Z : Nat → Prop} {c : AVal} {v : Value} (h : VR2 β w Z c v) : VR β w Z c v := by
  cases c <;> first | exact h | exact h.elim

theorem VR_asCells {Z : Nat → Prop} {v : AVal} {u : Value} (h : VR β w Z v u) (hn : (asCells v).length ≠ 0 → True) (ho : v ≠ .undef) (ht : ∀ l, v ≠ .tup l) : VRs β w Z (asCells v) u.cells.toList := by
  cases v with
  | agg cs =>
    obtain ⟨us, rfl, h2⟩ := h
    simpa [asCells, Value.cells] using h2
  | tup l => exact absurd rfl (ht l)
  | undef => exact absurd rfl ho
  | _ =>
    have h1 := h
    simp only [VR, VR2] at h1
    have h3 := VR1_one (by rintro x rfl e; cases e) h1
    have h4 : u.cells = #[u] := by cases u <;> first | rfl | (simp [Value.oneCell'] at h3)
    rw [h4]
    exact ⟨u, [], rfl, h1, h3, rfl⟩

theorem asVal_sound {Z : Nat → Prop} {g : Bool} {cs : List AVal} {us : List Value} {x : AVal} (hv : VRs β w Z cs us) (h : (asVal g cs).E σ x) :
    VR β w Z x (if g then .agg us.toArray else us.headD undef) ∧ (g = false → us.length = 1) := by
  unfold asVal at h
  cases g with
  | true =>
    have h : (Pr.ret (.agg cs) : Pr AVal).E σ x := h
    rw [E_ret] at h
    subst h
    exact ⟨⟨us, rfl, hv⟩, by simp⟩
  | false =>
    have h : (match cs with | [c] => Pr.ret c | _ => (.fail : Pr AVal)).E σ x := h
    split at h
    · rw [E_ret] at h
      subst h
      obtain ⟨u, us', rfl, h1, _, h2⟩ := hv
      obtain rfl : us' = [] := h2
      exact ⟨VR_one_of h1, fun _ => rfl⟩
    · exact (E_fail.1 h).elim

theorem Addr_add_add (ad : Addr) (m n : Nat) : (ad.add m).add n = ad.add (m + n) := by
  unfold Addr.add
  by_cases hm : m = 0
  · subst hm; simp
  · by_cases hn : n = 0
    · subst hn; simp
    · have : ¬ m + n = 0 := by omega
      simp [hm, hn, Nat.add_assoc]

/-- A variable is read. -/
theorem run_load {hti : TiOk P ti} {t : TypeId} (k : (ti.at t).ud.kn = true) {ad : Addr} {us : List Value} (hl : us.length = sz (ti.at t).ty) (hat : At w ad us) (h1 : (ti.at t).ud.agg = false → us.length = 1) :
    (Instr.loadAt t (.pointer (some ad))).run P w = .ok (if (ti.at t).ud.agg then .agg us.toArray else us.headD undef) w := by
  unfold Instr.loadAt loadVar
  simp only [Instr.sureAddr, Sem.run_bind, Sem.run_pure, Result.andThen_ok, hti.agg k]
  cases hg : (ti.at t).ud.agg with
  | true =>
    have := run_loadCells_list (P := P) w ad us hat
    rw [hl] at this
    simp [hti.size k, this]
  | false =>
    have h2 := h1 hg
    obtain ⟨u, rfl⟩ := List.length_eq_one_iff.1 h2
    have h3 := hat 0 u rfl
    rw [Addr.add_zero'] at h3
    simp [load, Sem.run, h3]

theorem At_block {g off : Nat} {vs : List Value} {e : TypeId} {fz : Nat × Nat} (hg : w.heap[g]? = some (.cells vs.toArray e fz)) (n : Nat) : At w ⟨g, off, none⟩ ((vs.drop off).take n) := by
  intro j u hu
  rw [Addr.add_lit, cell_of_row w g _ _ e fz hg]
  rw [List.getElem?_take] at hu
  split at hu
  · rw [List.getElem?_drop] at hu
    simpa using hu
  · cases hu

theorem At_array {g off : Nat} {cur : Array Value} {e : TypeId} {fz : Nat × Nat} (hg : w.heap[g]? = some (.cells cur e fz)) (n : Nat) : At w ⟨g, off, none⟩ ((cur.toList.drop off).take n) := by
  refine At_block (vs := cur.toList) (e := e) (fz := fz) ?_ n
  simpa using hg

theorem At_take {ad : Addr} {cs : List Value} (n : Nat) (h : At w ad cs) : At w ad (cs.take n) := fun j u hu => by
  rw [List.getElem?_take] at hu
  split at hu
  · exact h j u hu
  · cases hu

/-- A part of a content. -/
theorem sub_sound : ∀ {t : Ty} {x : T t} {off n : Nat} {u : Ty} {y : T u} {ad : Addr} {cs F}, sub t x off n = some ⟨u, y⟩ → At w ad cs → Rd w t x cs F →
    sz u = n ∧ ∃ F', (∀ g ∈ F', g ∈ F) ∧ At w (ad.add off) ((cs.drop off).take n) ∧ Rd w u y ((cs.drop off).take n) F' := by
  intro t
  induction t with
  | pair p q hp hq =>
    intro x off n u y ad cs F h hat hr
    unfold sub at h
    cases hb : (Nat.beq off 0 && Nat.beq (sz p + sz q) n) with
    | true =>
      rw [hb] at h
      cases h
      rw [Bool.and_eq_true] at hb
      obtain rfl := Nat.eq_of_beq_eq_true hb.1
      obtain rfl := Nat.eq_of_beq_eq_true hb.2
      have hl := Rd_len hr
      simp only [sz] at hl
      rw [Addr.add_zero', List.drop_zero, List.take_of_length_le (by omega)]
      exact ⟨rfl, F, fun _ h => h, hat, hr⟩
    | false =>
      rw [hb] at h
      obtain ⟨c1, c2, F1, F2, rfl, rfl, h1, h2⟩ := hr
      have l1 := Rd_len h1
      cases hlt : Nat.blt off (sz p) with
      | true =>
        rw [hlt] at h
        have h : sub p x.1 off n = some ⟨u, y⟩ := h
        obtain ⟨e, F', hF, hA, hR⟩ := hp h (fun j v hv => hat j v (by rw [List.getElem?_append_left (List.getElem?_eq_some_iff.1 hv).1]; exact hv)) h1
        have lr := Rd_len hR
        have hle : off + n ≤ c1.length := by
          rw [List.length_take, List.length_drop] at lr
          have := sz_pos u
          omega
        have e2 : ((c1 ++ c2).drop off).take n = (c1.drop off).take n := by
          rw [List.drop_append_of_le_length (by omega), List.take_append_of_le_length (by rw [List.length_drop]; omega)]
        rw [e2]
        exact ⟨e, F', fun g hg => List.mem_append_left _ (hF g hg), hA, hR⟩
      | false =>
        rw [hlt] at h
        have h : sub q x.2 (off - sz p) n = some ⟨u, y⟩ := h
        have hge : sz p ≤ off := by
          have : ¬ off < sz p := by
            intro hh
            rw [show Nat.blt off (sz p) = true from (by rw [Nat.blt, Nat.ble_eq]; exact hh)] at hlt
            cases hlt
          omega
        have hat2 : At w (ad.add (sz p)) c2 := fun j v hv => by
          have := hat (sz p + j) v (by rw [List.getElem?_append_right (by omega), show sz p + j - c1.length = j by omega]; exact hv)
          rwa [Addr_add_add]
        obtain ⟨e, F', hF, hA, hR⟩ := hq h hat2 h2
        rw [Addr_add_add, show sz p + (off - sz p) = off by omega] at hA
        have e2 : (c1 ++ c2).drop off = c2.drop (off - sz p) := by
          rw [List.drop_append, List.drop_eq_nil_of_le (by omega), List.nil_append, l1]
        rw [e2]
        exact ⟨e, F', fun g hg => List.mem_append_right _ (hF g hg), hA, hR⟩
  | _ =>
    intro x off n u y ad cs F h hat hr
    simp only [sub] at h
    have hb : (Nat.beq off 0 && Nat.beq n 1) = true := by
      cases hb : (Nat.beq off 0 && Nat.beq n 1) with
      | true => rfl
      | false => rw [hb] at h; cases h
    rw [hb] at h
    cases h
    rw [Bool.and_eq_true] at hb
    obtain rfl := Nat.eq_of_beq_eq_true hb.1
    obtain rfl := Nat.eq_of_beq_eq_true hb.2
    have hl := Rd_len hr
    simp only [sz] at hl
    rw [Addr.add_zero', List.drop_zero, List.take_of_length_le (by omega)]
    exact ⟨rfl, F, fun _ h => h, hat, hr⟩

theorem Addr_add_block (ad : Addr) (n : Nat) : (ad.add n).block = ad.block := by unfold Addr.add; split <;> rfl

/-- An element's cells in an own row. -/
theorem row_elem {Z : Nat → Prop} {e : TypeId} {t : Ty} {xs : List (T t)} {g c len i : Nat} (h : RowOk w Z e t xs (some g, c, len)) (hi : i < xs.length) :
    ∃ us F, At w ⟨g, i * sz t, none⟩ us ∧ Rd w t (xs.getD i (dflt t)) us F ∧ ∀ f ∈ F, Z f := by
  obtain ⟨_, cur, F, hg, _, _, _, hr, hF⟩ := h
  obtain ⟨F', h1, h2⟩ := rowR_get (n := sz t) (fun _ _ _ => Rd_len) hr (List.getElem?_eq_getElem hi)
  refine ⟨(cur.toList.drop (i * sz t)).take (sz t), F', ?_, ?_, fun f hf => hF f (h1 f hf)⟩
  · exact At_array hg _
  · rw [List.getD_eq_getElem?_getD, List.getElem?_eq_getElem hi, Option.getD_some]
    have hle : i * sz t + sz t ≤ xs.length * sz t := by
      have := Nat.mul_le_mul_right (sz t) (Nat.succ_le_of_lt hi)
      rw [Nat.succ_mul] at this
      exact this
    have e2 : ((cur.toList.take (xs.length * sz t)).drop (i * sz t)).take (sz t) = (cur.toList.drop (i * sz t)).take (sz t) := by
      rw [List.drop_take, List.take_take, Nat.min_eq_left (by omega)]
    rw [← e2]
    exact h2

theorem VRs_cut {Z : Nat → Prop} {cs : List AVal} {vs : List Value} (h : VRs β w Z cs vs) (off n : Nat) : VRs β w Z (cutA cs off n) ((vs.drop off).take n) := VRs_take n (VRs_drop off h)

section pure
variable (hti : TiOk P ti) (R : Rel ti N X Y w0 β σ a w)
include hti R

theorem loadA_sound {t : TypeId} (k : (ti.at t).ud.kn = true) {v : AVal} {u : Value} {x : AVal} (hv : VR β w (Zs Y β σ w) v u) (h : (loadA ti t v).E σ x) :
    ∃ r, (Instr.loadAt t u).run P w = .ok r w ∧ VR β w (Zs Y β σ w) x r := by
  cases v <;> simp only [loadA, E_fail] at h
  case ptr l off =>
    rw [E_get] at h
    obtain ⟨g, c, len, hb, rfl⟩ := hv
    split at h
    · rename_i own e cs hc
      have ho := R.obj l
      rw [hc] at ho
      obtain ⟨b, hb', ⟨g', vs, e1, hg, hvs, _⟩, _⟩ := ho
      rw [hb] at hb'
      cases hb'
      cases e1
      cases hle : Nat.ble (off + sz (ti.at t).ty) cs.length with
      | false => rw [hle] at h; exact (E_fail.1 h).elim
      | true =>
        rw [hle] at h
        have hle := Nat.le_of_ble_eq_true hle
        have hl := VRs_len hvs
        obtain ⟨h1, h2⟩ := asVal_sound (VRs_cut hvs off (sz (ti.at t).ty)) h
        exact ⟨_, run_load (hti := hti) k (by rw [List.length_take, List.length_drop]; omega) (At_block hg _) h2, h1⟩
    · exact (E_fail.1 h).elim
  case eptr l i s off =>
    rw [E_get] at h
    obtain ⟨g, c, len, hb, rfl⟩ := hv
    split at h
    · rename_i own e t' xs hc
      have ho := R.obj l
      rw [hc] at ho
      obtain ⟨b, hb', hrow, _⟩ := ho
      rw [hb] at hb'
      cases hb'
      cases hle : (Nat.ble (off + sz (ti.at t).ty) (sz t') && Nat.beq s (sz t')) with
      | false => rw [hle] at h; exact (E_fail.1 h).elim
      | true =>
        rw [hle] at h
        rw [Bool.and_eq_true] at hle
        have h : (Pr.guard (Nat.blt i xs.length) (asVal (ti.at t).ud.agg (cutA (cells t' (xs.getD i (dflt t'))) off (sz (ti.at t).ty)))).E σ x := h
        rw [E_guard] at h
        obtain ⟨hlt, h⟩ := h
        have hlt : i < xs.length := Nat.le_of_ble_eq_true hlt
        obtain rfl := Nat.eq_of_beq_eq_true hle.2
        have hle := Nat.le_of_ble_eq_true hle.1
        obtain ⟨us, F, hat, hr, hF⟩ := row_elem hrow hlt
        have hl := Rd_len hr
        obtain ⟨h1, h2⟩ := asVal_sound (VRs_cut (VRs_cells hr hF) off (sz (ti.at t).ty)) h
        refine ⟨_, run_load (hti := hti) k (by rw [List.length_take, List.length_drop]; omega) ?_ h2, h1⟩
        have : At w ((⟨g, i * sz t', none⟩ : Addr).add off) (us.drop off) := fun j u hu => by
          rw [List.getElem?_drop] at hu
          have := hat _ _ hu
          rwa [← Addr_add_add] at this
        rw [Addr.add_lit] at this
        exact At_take _ this
    · exact (E_fail.1 h).elim
  case fptr t' y =>
    obtain ⟨ad, cs, F, rfl, hat, hr, _, hF⟩ := hv
    cases hb : Nat.beq (sz t') (sz (ti.at t).ty) with
    | false => rw [hb] at h; exact (E_fail.1 h).elim
    | true =>
      rw [hb] at h
      have hb := Nat.eq_of_beq_eq_true hb
      have hl := Rd_len hr
      obtain ⟨h1, h2⟩ := asVal_sound (VRs_cells hr hF) h
      exact ⟨_, run_load (hti := hti) k (by rw [hl, hb]) hat h2, h1⟩

theorem idxAddrA_sound {t e : TypeId} (k : (ti.at t).ud = .slice e) {v : AVal} {u : Value} {kk : IntKind} {i : Int} {x : AVal} (hv : VR β w (Zs Y β σ w) v u) (h : (idxAddrA ti e v i).E σ x) :
    ∃ r, (Instr.indexAt t u (.int kk i)).run P w = .ok r w ∧ VR β w (Zs Y β σ w) x r := by
  have hu : P.underlying t = some (.slice e) := hti.slice k
  have ke := hti.sl t e k
  have run : ∀ (A : Addr) (n c : Nat), 0 ≤ i → i < (n : Int) → (Instr.indexAt t (.slice (some A) n c) (.int kk i)).run P w = .ok (.pointer (some (A.add (i.toNat * sz (ti.at e).ty)))) w := by
    intro A n c h0 h1
    simp [Instr.indexAt, run_underlying hu, asIntOf, h0, h1, hti.size ke]
  have bnd : ∀ {n : Nat}, boundA i n = true → 0 ≤ i ∧ i < (n : Int) := by
    intro n hb
    simpa [boundA] using hb
  cases v <;> simp only [idxAddrA, E_fail] at h
  case slc e' t' xs =>
    cases hs : Nat.beq (sz t') (sz (ti.at e).ty) with
    | false => rw [hs] at h; exact (E_fail.1 h).elim
    | true =>
    rw [hs] at h
    have hs := Nat.eq_of_beq_eq_true hs
    have h : (Pr.guard (boundA i xs.length) (.ret (.fptr t' (xs.getD i.toNat (dflt t'))))).E σ x := h
    rw [E_guard, E_ret] at h
    obtain ⟨hb, rfl⟩ := h
    obtain ⟨h0, h1⟩ := bnd hb
    obtain ⟨F, ⟨A, c, hcs, hc, hsl⟩, hF⟩ := hv
    cases hcs
    have hlt : i.toNat < xs.length := by omega
    rcases hsl with ⟨rfl, _⟩ | ⟨hx, ad, cs, F', rfl, rfl, hat, hrow⟩
    · simp at hlt
    · refine ⟨_, run ad _ c h0 h1, ?_⟩
      obtain ⟨F2, hF2, hr⟩ := rowR_get (n := sz t') (fun _ _ _ => Rd_len) hrow (List.getElem?_eq_getElem hlt)
      rw [← hs]
      refine ⟨_, _, F2, rfl, ?_, by rw [List.getD_eq_getElem?_getD, List.getElem?_eq_getElem hlt]; exact hr, ?_, fun g hg => hF g (List.mem_cons_of_mem _ (hF2 g hg))⟩
      · refine At_take _ ?_
        intro j u hu
        rw [List.getElem?_drop] at hu
        have := hat _ _ hu
        rwa [← Addr_add_add] at this
      · rw [Addr_add_block]; exact hF _ (List.mem_cons_self ..)
  case vslc e' t' xs n =>
    cases hs : Nat.beq (sz t') (sz (ti.at e).ty) with
    | false => rw [hs] at h; exact (E_fail.1 h).elim
    | true =>
    rw [hs] at h
    have hs := Nat.eq_of_beq_eq_true hs
    have h : (Pr.guard (boundA i n) (.ret (.fptr t' (xs.getD i.toNat (dflt t'))))).E σ x := h
    rw [E_guard, E_ret] at h
    obtain ⟨hb, rfl⟩ := h
    obtain ⟨h0, h1⟩ := bnd hb
    obtain ⟨F, ⟨A, c, hcs, hn, hc, hsl⟩, hF⟩ := hv
    cases hcs
    have hn : n ≤ xs.length := hn
    have hlt : i.toNat < xs.length := by omega
    rcases hsl with ⟨hx, _⟩ | ⟨hx, ad, cs, F', rfl, rfl, hat, hrow⟩
    · rw [show xs = [] from hx] at hlt; simp at hlt
    · refine ⟨_, run ad _ c h0 h1, ?_⟩
      obtain ⟨F2, hF2, hr⟩ := rowR_get (n := sz t') (fun _ _ _ => Rd_len) hrow (List.getElem?_eq_getElem hlt)
      rw [← hs]
      refine ⟨_, _, F2, rfl, ?_, by rw [List.getD_eq_getElem?_getD, List.getElem?_eq_getElem hlt]; exact hr, ?_, fun g hg => hF g (List.mem_cons_of_mem _ (hF2 g hg))⟩
      · refine At_take _ ?_
        intro j u hu
        rw [List.getElem?_drop] at hu
        have := hat _ _ hu
        rwa [← Addr_add_add] at this
      · rw [Addr_add_block]; exact hF _ (List.mem_cons_self ..)
  case ref l n =>
    rw [E_get] at h
    obtain ⟨b, c, len, hb, hval⟩ := hv
    split at h
    · rename_i own e2 t' xs hc
      have ho := R.obj l
      rw [hc] at ho
      obtain ⟨b', hb', hrow, _⟩ := ho
      rw [hb] at hb'
      cases hb'
      have hlen : len = xs.length := hrow.1
      cases hs : Nat.beq (sz t') (sz (ti.at e).ty) with
      | false => rw [hs] at h; exact (E_fail.1 h).elim
      | true =>
      rw [hs] at h
      have hs := Nat.eq_of_beq_eq_true hs
      have key : 0 ≤ i ∧ i < ((n.getD len : Nat) : Int) ∧ x = .eptr l i.toNat (sz t') 0 := by
        cases n with
        | none =>
          have h : (Pr.guard (boundA i xs.length) (.ret (.eptr l i.toNat (sz t') 0))).E σ x := h
          rw [E_guard, E_ret] at h
          obtain ⟨hb, rfl⟩ := h
          obtain ⟨h0, h1⟩ := bnd hb
          exact ⟨h0, by rw [Option.getD_none, hlen]; exact h1, rfl⟩
        | some m =>
          have h : (Pr.guard (boundA i m) (.guard (Nat.ble m xs.length) (.ret (.eptr l i.toNat (sz t') 0)))).E σ x := h
          rw [E_guard, E_guard, E_ret] at h
          obtain ⟨hb, _, rfl⟩ := h
          obtain ⟨h0, h1⟩ := bnd hb
          exact ⟨h0, h1, rfl⟩
      obtain ⟨h0, h1, rfl⟩ := key
      cases b with
      | none =>
        obtain ⟨_, h2, h3⟩ := hval
        rw [h2, h3] at h1
        omega
      | some g =>
        obtain ⟨rfl, _⟩ := hval
        refine ⟨_, run _ _ c h0 h1, g, c, len, hb, ?_⟩
        rw [Addr.add_lit, ← hs]
        simp
    · rename_i own e2 cs hc
      have ho := R.obj l
      rw [hc] at ho
      obtain ⟨b', hb', ⟨g', vs, e1, hg, hvs, hlv, hcl, _⟩, _⟩ := ho
      rw [hb] at hb'
      cases hb'
      cases e1
      have hee : Nat.beq e2 e = true := by
        cases he : Nat.beq e2 e with
        | true => rfl
        | false => rw [he] at h; exact (E_fail.1 h).elim
      rw [hee] at h
      obtain rfl := Nat.eq_of_beq_eq_true hee
      have h : (Pr.guard (boundA i (n.getD (cs.length / sz (ti.at e2).ty))) (.ret (.ptr l (i.toNat * sz (ti.at e2).ty)))).E σ x := h
      rw [E_guard, E_ret] at h
      obtain ⟨hb2, rfl⟩ := h
      obtain ⟨h0, h1⟩ := bnd hb2
      obtain ⟨rfl, _⟩ := hval
      have hcl : len = c := hcl
      have hl := VRs_len hvs
      have h1' : i < ((n.getD len : Nat) : Int) := by
        cases n with
        | none =>
          rw [Option.getD_none, hcl]
          have hd : cs.length / sz (ti.at e2).ty = c := by
            rw [← hl]
            show vs.length / _ = _
            rw [hlv]
            exact Nat.mul_div_cancel _ (sz_pos _)
          rw [Option.getD_none, hd] at h1
          exact h1
        | some m => exact h1
      exact ⟨_, run _ _ c h0 h1', g', c, len, hb, by rw [Addr.add_lit]; simp⟩
    · rename_i e2 t' k' xs op hc
      have ho := R.obj l
      rw [hc] at ho
      obtain ⟨b', hb', hl0, _⟩ := ho
      rw [hb] at hb'
      cases hb'
      have hlen : len = xs.length := hl0
      cases hs : (Nat.beq (sz t') (sz (ti.at e).ty) && n.isNone) with
      | false => rw [hs] at h; exact (E_fail.1 h).elim
      | true =>
      rw [hs] at h
      rw [Bool.and_eq_true] at hs
      obtain ⟨hs, hn⟩ := hs
      have hs := Nat.eq_of_beq_eq_true hs
      cases n with
      | some m => cases hn
      | none =>
      have h : (Pr.guard (boundA i xs.length) (.ret (.eptr l i.toNat (sz t') 0))).E σ x := h
      rw [E_guard, E_ret] at h
      obtain ⟨hb2, rfl⟩ := h
      obtain ⟨h0, h1⟩ := bnd hb2
      cases b with
      | none =>
        obtain ⟨_, h2, h3⟩ := hval
        rw [← hlen, h2] at h1
        omega
      | some g =>
        obtain ⟨rfl, _⟩ := hval
        refine ⟨_, run _ _ c h0 (by rw [Option.getD_none, hlen]; exact h1), g, c, len, hb, ?_⟩
        rw [Addr.add_lit, ← hs]
        simp
    · exact (E_fail.1 h).elim

theorem fldAddrA_sound {s : TypeId} {f : Nat} {v : AVal} {u : Value} {x : AVal} (hv : VR β w (Zs Y β σ w) v u) (h : (fldAddrA ti s f v).E σ x) :
    ∃ r, (Instr.fieldAt s u f).run P w = .ok r w ∧ VR β w (Zs Y β σ w) x r := by
  unfold fldAddrA at h
  split at h
  · rename_i fs hs
    obtain ⟨fields, hu, hf⟩ := hti.und hs rfl
    split at h
    · rename_i off ft ho
      have hkn : (ti.at ft).ud.kn = true ∧ ∃ fd : Field, fields[f]? = some fd ∧ fd.offset = off ∧ fd.type = ft := by
        have hfo : ∀ (l : List (Nat × TypeId)) (n : Nat) (p), fieldOff l n = some p → l[n]? = some p := by
          intro l
          induction l with
          | nil => intro n p h; simp [fieldOff] at h
          | cons q l ih => intro n p h; cases n with
            | zero => simpa [fieldOff] using h
            | succ n => simpa using ih n p h
        have h1 := hfo _ _ _ ho
        refine ⟨hti.st s fs hs _ (List.mem_of_getElem? h1), ?_⟩
        rw [← hf, List.getElem?_map] at h1
        cases h2 : fields.toList[f]? with
        | none => rw [h2] at h1; cases h1
        | some fd =>
          rw [h2] at h1
          simp only [Option.map_some, Option.some.injEq, Prod.mk.injEq] at h1
          exact ⟨fd, by simpa using h2, h1.1, h1.2⟩
      obtain ⟨hk, fd, h1, rfl, rfl⟩ := hkn
      have run : ∀ ad : Addr, (Instr.fieldAt s (.pointer (some ad)) f).run P w = .ok (.pointer (some (ad.add fd.offset))) w := by
        intro ad
        have hz : sz (ti.at fd.type).ty ≠ 0 := by have := sz_pos (ti.at fd.type).ty; omega
        simp [Instr.fieldAt, run_underlying hu, h1, Instr.sureAddr, fieldPlace, hti.size hk, hz]
      cases v <;> simp only [E_fail] at h
      case ptr l o =>
        rw [E_ret] at h
        subst h
        obtain ⟨g, c, len, hb, rfl⟩ := hv
        exact ⟨_, run _, g, c, len, hb, by rw [Addr.add_lit]⟩
      case eptr l i s o =>
        rw [E_ret] at h
        subst h
        obtain ⟨g, c, len, hb, rfl⟩ := hv
        exact ⟨_, run _, g, c, len, hb, by rw [Addr.add_lit, Nat.add_assoc]⟩
      case fptr t y =>
        split at h
        · rename_i u' y' hsub
          rw [E_ret] at h
          subst h
          obtain ⟨ad, cs, F, rfl, hat, hr, hz, hF⟩ := hv
          obtain ⟨_, F', hF', hA, hR⟩ := sub_sound hsub hat hr
          exact ⟨_, run _, _, _, F', rfl, hA, hR, by rw [Addr_add_block]; exact hz, fun g hg => hF g (hF' g hg)⟩
        · exact (E_fail.1 h).elim
    · exact (E_fail.1 h).elim
  · exact (E_fail.1 h).elim
end pure
end
end Go.Proofs.YtchdegcfohegfaaE
