/- The engine, part 13: append. -/
import Derived.Test.YtchdegcfohegfaaE12
namespace Go.Proofs.YtchdegcfohegfaaE
set_option linter.unusedVariables false
set_option linter.unusedSimpArgs false
set_option linter.unusedSectionVars false
open Pr

section
variable {P : Program} {ti : TI} {N : Nat} {X Y : Nat → Prop} {w0 w w' : World} {β β' : Beta} {σ σ' : St} {a a' : Act}

theorem rowR_appendOf {t : Ty} {xs ys : List (T t)} {cs ds F G} (h : rowR (Rd w t) xs cs F) (h' : rowR (Rd w t) ys ds G) : rowR (Rd w t) (xs ++ ys) (cs ++ ds) (F ++ G) := rowR_append h h'

theorem appFree_frz {x : AVal} {ws : Ws} (h : (appFree x).E σ ws) : FrzW σ ws := by
  unfold appFree at h
  split at h
  · rw [E_get] at h
    split at h
    · exact (freezes_frz h).1
    · rw [E_ret] at h; subst h; exact fun p hp => (by cases hp)
  · rw [E_ret] at h; subst h; exact fun p hp => (by cases hp)

/-- What is appended: its cells are there. -/
theorem appSrc_sound (R : Rel ti N X Y w0 β σ a w) {e : TypeId} {x : AVal} {u : Value} {ys : List (T (ti.at e).ty)} {fs : Ws} (h : (appSrc ti e x).E σ ys) (hf : (appFree x).E σ fs) (hv : VR β w (Zs Y β σ w) x u) :
    ∃ A c, u = .slice A ys.length c ∧ ((ys = []) ∨ ∃ ad news F, A = some ad ∧ At w ad news ∧ rowR (Rd w (ti.at e).ty) ys news F ∧ ∀ f ∈ F, Zs Y β (put σ fs) w f) := by
  have hfw := appFree_frz hf
  obtain ⟨R1, hZ1⟩ := R.frz hfw
  have ofSlc : ∀ {n : Option Nat} {e' : TypeId} {zs : List (T (ti.at e).ty)}, (∀ g, Zs Y β σ w g → Zs Y β σ w g) → VR1 β w (Zs Y β σ w) (.slc e' (ti.at e).ty zs) u →
      ∃ A c, u = .slice A zs.length c ∧ ((zs = []) ∨ ∃ ad news F, A = some ad ∧ At w ad news ∧ rowR (Rd w (ti.at e).ty) zs news F ∧ ∀ f ∈ F, Zs Y β (put σ fs) w f) := by
    intro n e' zs _ hvv
    obtain ⟨F, ⟨A, c, hcs, hc, hs⟩, hF⟩ := hvv
    have hcs : u = .slice A zs.length c := by injection hcs
    refine ⟨A, c, hcs, ?_⟩
    rcases hs with ⟨h0, _⟩ | ⟨hx, ad, cs, F', rfl, rfl, hat, hr⟩
    · exact .inl h0
    · exact .inr ⟨ad, cs, F', rfl, hat, hr, fun f hf => hZ1 f (hF f (List.mem_cons_of_mem _ hf))⟩
  -- a row of ours
  have ofRow : ∀ {l : Loc} {n : Option Nat} {zs : List (T (ti.at e).ty)} {b : Option Nat × Nat × Nat} {Z : Nat → Prop}, x = .ref l n → β l = some b → RowOk w Z e (ti.at e).ty zs b → (∀ g, Z g → Zs Y β (put σ fs) w g) →
      ∃ A c, u = .slice A (seen n zs).length c ∧ ((seen n zs = []) ∨ ∃ ad news F, A = some ad ∧ At w ad news ∧ rowR (Rd w (ti.at e).ty) (seen n zs) news F ∧ ∀ f ∈ F, Zs Y β (put σ fs) w f) := by
    intro l n zs b Z hx hb hrow hZ
    subst hx
    obtain ⟨bb, c, len, hb', hval⟩ := hv
    rw [hb] at hb'
    cases hb'
    obtain ⟨hlen, hr⟩ := hrow
    have hlen : len = zs.length := hlen
    cases bb with
    | none =>
      obtain ⟨rfl, h1, h2⟩ := hval
      have hx : zs = [] := hr
      subst hx
      have hs0 : seen n ([] : List (T (ti.at e).ty)) = [] := by cases n <;> simp [seen]
      exact ⟨none, 0, by rw [hs0]; rfl, .inl hs0⟩
    | some g =>
      obtain ⟨rfl, h1, h2⟩ := hval
      obtain ⟨cur, F, h3, h4, h5, h6, h7, h8⟩ := hr
      have hsl : (seen n zs).length = n.getD len := by
        cases n with
        | none => exact hlen.symm
        | some j => show (zs.take j).length = j; rw [List.length_take]; exact Nat.min_eq_left (by rw [← hlen]; exact h1)
      refine ⟨some ⟨g, 0, none⟩, c, by rw [hsl], .inr ?_⟩
      have hrow : ∃ F', (∀ g ∈ F', g ∈ F) ∧ rowR (Rd w (ti.at e).ty) (seen n zs) (cur.toList.take ((seen n zs).length * sz (ti.at e).ty)) F' := by
        rw [hsl]
        cases n with
        | none =>
          refine ⟨F, fun _ h => h, ?_⟩
          rw [Option.getD_none, show len = zs.length from hlen]
          exact h7
        | some j =>
          obtain ⟨F', g1, g2⟩ := rowR_take (n := sz (ti.at e).ty) (fun _ _ _ => Rd_len) j h7
          refine ⟨F', g1, ?_⟩
          rw [List.take_take, Nat.min_eq_left (Nat.mul_le_mul_right _ (by rw [← hlen]; exact h1))] at g2
          exact g2
      obtain ⟨F', g1, g2⟩ := hrow
      refine ⟨_, _, F', rfl, ?_, g2, fun f hf => hZ f (h8 f (g1 f hf))⟩
      have := At_array (off := 0) h3 ((seen n zs).length * sz (ti.at e).ty)
      rwa [List.drop_zero] at this
  unfold appSrc at h
  split at h
  · rw [E_ret] at h
    subst h
    exact ⟨none, 0, hv, .inl rfl⟩
  · rename_i e' t' xs
    split at h
    · rename_i zs hz
      rw [E_ret] at h
      subst h
      simp only [enc1] at hz
      cases hee : Nat.beq e' e with
      | false => rw [hee] at hz; cases hz
      | true =>
        rw [hee] at hz
        have hz : encRow (ti.at e).ty t' xs = some zs := hz
        have hv1 : VR1 β w (Zs Y β σ w) (.slc e' t' xs) u := hv
        have hgen : ∀ {t'' : Ty} (he : t' = t'') , VR1 β w (Zs Y β σ w) (.slc e' t'' (he ▸ xs)) u := by
          rintro _ rfl
          exact hv1
        obtain ⟨he, hzz⟩ := encRow_spec hz
        have := hgen he
        rw [← hzz] at this
        exact ofSlc (n := none) (fun _ h => h) this
    · exact (E_fail.1 h).elim
  · rename_i l n
    rw [E_get] at h
    split at h
    · rename_i own e' t' xs hc
      split at h
      · rename_i own' zs hz
        rw [E_ret] at h
        subst h
        rw [← hc] at hz
        obtain ⟨b, hb, hrow, _⟩ := rowOf_sound R hz
        exact ofRow rfl hb hrow hZ1
      · exact (E_fail.1 h).elim
    · rename_i own e' cs hc
      cases hee : Nat.beq e' e with
      | false => rw [hee] at h; exact (E_fail.1 h).elim
      | true =>
        rw [hee] at h
        obtain rfl := Nat.eq_of_beq_eq_true hee
        simp only [cond_true, E_bind] at h
        obtain ⟨ds, h1, h2⟩ := h
        split at h2
        · rename_i zs hz
          rw [E_ret] at h2
          subst h2
          have hf' := hf
          unfold appFree at hf'
          rw [E_get, hc] at hf'
          have hf' : (freezes (refsOf (.agg cs))).E σ fs := hf'
          obtain ⟨_, hfl⟩ := freezes_frz hf'
          have ho := R.obj l
          rw [hc] at ho
          obtain ⟨b, hb, ⟨g, vs, g1, g2, g3, g4, g5, g6⟩, _⟩ := ho
          have hds := snaps0_sound (β'' := β) R hZ1 h1 g3 (fun l' hl' ho' g' c2 n2 hb2 => frz_Z R hfw (hfl l' hl') ho' hb2)
          have hdl := VRs_len hds
          obtain ⟨hzl, F, hr, hF⟩ := Rd_encAll hz hds
          have hn : ds.length / sz (ti.at e').ty = b.2.1 := by rw [← hdl, g4]; exact Nat.mul_div_cancel _ (sz_pos _)
          rw [hn] at hzl
          refine ofRow (Z := Zs Y β (put σ fs) w) rfl hb ⟨by rw [hzl]; exact g5, ?_⟩ (fun _ h => h)
          rw [g1]
          refine ⟨vs.toArray, F, g2, by omega, g6, by simpa using g4, ?_, hF⟩
          rw [hzl, List.take_of_length_le (by simp; omega)]
          simpa using hr
        · exact (E_fail.1 h2).elim
    · exact (E_fail.1 h).elim
  · exact (E_fail.1 h).elim

theorem run_append_zero {t ty e : TypeId} {i : TypeInfo} (ht : P.underlying t = some (.slice e)) (hi : P.info? e = some i) {B : Option Addr} {n cap : Nat} (hn : n ≤ cap) {A : Option Addr} {c : Nat} :
    (Builtin.append_ #[t, t] ty #[.slice B n cap, .slice A 0 c]).run P w = .ok (.slice B n cap) w := by
  cases A <;> cases B <;> simp [Builtin.append_, run_underlying ht, sizeOf, typeInfo, hi, Builtin.lenOf, hn, Builtin.firstCells, loadCells, loadCellsFrom, storeCells]

theorem zeroCells_size (z : Array Value) (n : Nat) : (Builtin.zeroCells z n).size = n * z.size := by simp [Builtin.zeroCells]

section
variable (hti : TiOk P ti) (R : Rel ti N X Y w0 β σ a w) {o : Oper} {new : Loc} (hd : ∀ t, o.dst = some t → t < N) {ws : Ws}
  (hodd : ∀ t, new ≠ tmpL t) (hf : ∀ j, new ≤ j → j < new + 128 → β j = none)
include hti R hd hodd hf

theorem op_append (hodd2 : ∀ l, isObj (look σ l) = true → ∀ t, l ≠ tmpL t) {c : Call} {t e : TypeId} {s x : Operand} (hc : c = { callee := .builtin .append, args := #[s, x], argTypes := #[t, t] }) (ho : o.op = .call c) (k : (ti.at t).ud = .slice e) {sv xv : AVal}
    (h1 : (opd s).E σ sv) (h2 : (opd x).E σ xv) (h : ((appendA ti e new sv xv).bind fun r => .ret (r.1 ++ setTmp o.dst r.2)).E σ ws) : Sound P ti N X Y w0 β σ a w o new ws := by
  simp only [appendA, E_bind, E_guard, E_ret] at h
  obtain ⟨r, ⟨⟨bw, xs⟩, g1, ys, g2, fs, g3, hbd, g4⟩, rfl⟩ := h
  cases hdj : disj (locsOf bw) (locsOf fs) with
  | false => rw [show disj (locsOf (bw, xs).1) (locsOf fs) = false from hdj] at g4; exact (E_fail.1 g4).elim
  | true =>
  rw [show disj (locsOf (bw, xs).1) (locsOf fs) = true from hdj] at g4
  simp only [cond_true, E_ret] at g4
  subst g4
  have hbd : (xs.length + ys.length) * (ti.at e).bytes ≤ 140737488355328 := by simpa using hbd
  have hu : P.underlying t = _ := hti.slice k
  have hke := hti.sl t e k
  obtain ⟨i, z, i1, i2, i3, i4, i5⟩ := (hti.td e hke).info
  have hby := hti.by0 e hke
  have hsp := sz_pos (ti.at e).ty
  have hzs : z.cells.size = sz (ti.at e).ty := by rw [i5]; simpa using zeroC_len (ti.at e).ty
  have hmax : xs.length + ys.length ≤ 140737488355328 := by
    have : (xs.length + ys.length) * 1 ≤ (xs.length + ys.length) * (ti.at e).bytes := Nat.mul_le_mul_left _ hby
    omega
  obtain ⟨A, c2, hxe, hsrc⟩ := appSrc_sound R g2 g3 (opd_sound R h2)
  have hfw := appFree_frz g3
  obtain ⟨R1, hZ1⟩ := R.frz hfw
  -- the row that is appended to
  have hbase : ∃ (B : Option Nat) (cap : Nat), a.eval s = .slice (B.map fun g => ⟨g, 0, none⟩) xs.length cap ∧ xs.length ≤ cap ∧ cap ≤ maxLen ∧ (B = none → xs = [] ∧ cap = 0) ∧
      (∀ g, B = some g → ∃ cur F l cap' len, w.heap[g]? = some (.cells cur e (0, 0)) ∧ cur.size = cap * sz (ti.at e).ty ∧ rowR (Rd w (ti.at e).ty) xs (cur.toList.take (xs.length * sz (ti.at e).ty)) F ∧ (∀ f ∈ F, Zs Y β σ w f) ∧
        bw = [(l, .dead)] ∧ β l = some (some g, cap', len) ∧ isOwn (look σ l) = true) ∧ (bw = [] ∨ ∃ l, bw = [(l, .dead)] ∧ ∀ t, l ≠ tmpL t) := by
    have hsv := opd_sound R h1
    unfold appBase at g1
    split at g1
    · rw [E_ret] at g1
      cases g1
      exact ⟨none, 0, hsv, Nat.zero_le _, Nat.zero_le _, fun _ => ⟨rfl, rfl⟩, fun g hg => (by cases hg), .inl rfl⟩
    · rename_i l n
      rw [E_get] at g1
      split at g1
      · rename_i zs hz
        rw [E_ret] at g1
        cases g1
        obtain ⟨b, hb, ⟨hlen, hr⟩, hown, _, hobj⟩ := rowOf_sound R hz
        obtain ⟨bb, cap, len, hb', hval⟩ := hsv
        rw [hb] at hb'
        cases hb'
        have hlen : len = zs.length := hlen
        cases bb with
        | none =>
          obtain ⟨hx, e1, e2⟩ := hval
          have hz0 : zs = [] := hr
          subst hz0
          have hs0 : seen n ([] : List (T (ti.at e).ty)) = [] := by cases n <;> simp [seen]
          exact ⟨none, 0, by rw [hs0]; exact hx, by rw [hs0]; exact Nat.zero_le _, Nat.zero_le _, fun _ => ⟨hs0, rfl⟩, fun g hg => (by cases hg), .inr ⟨l, rfl, hodd2 l hobj⟩⟩
        | some g =>
          obtain ⟨hx, e1, e2⟩ := hval
          obtain ⟨cur, F, h3, h4, h5, h6, h7, h8⟩ := hr
          have hsl : (seen n zs).length = n.getD len := by
            cases n with
            | none => exact hlen.symm
            | some j => show (zs.take j).length = j; rw [List.length_take]; exact Nat.min_eq_left (by rw [← hlen]; exact e1)
          have hrow : ∃ F', (∀ g ∈ F', g ∈ F) ∧ rowR (Rd w (ti.at e).ty) (seen n zs) (cur.toList.take ((seen n zs).length * sz (ti.at e).ty)) F' := by
            rw [hsl]
            cases n with
            | none =>
              refine ⟨F, fun _ h => h, ?_⟩
              rw [Option.getD_none, show len = zs.length from hlen]
              exact h7
            | some j =>
              obtain ⟨F', q1, q2⟩ := rowR_take (n := sz (ti.at e).ty) (fun _ _ _ => Rd_len) j h7
              refine ⟨F', q1, ?_⟩
              rw [List.take_take, Nat.min_eq_left (Nat.mul_le_mul_right _ (by rw [← hlen]; exact e1))] at q2
              exact q2
          obtain ⟨F', q1, q2⟩ := hrow
          exact ⟨some g, cap, by rw [hx]; show Value.slice (some ⟨g, 0, none⟩) (n.getD len) cap = Value.slice (some ⟨g, 0, none⟩) (seen n zs).length cap; rw [hsl], by rw [hsl]; omega, h5, fun h => (by cases h), fun g' hg' => (by
            cases hg'
            exact ⟨cur, F', l, cap, len, h3, h6, q2, fun f hf => h8 f (q1 f hf), rfl, hb, hown rfl⟩), .inr ⟨l, rfl, hodd2 l hobj⟩⟩
      · exact (E_fail.1 g1).elim
    · exact (E_fail.1 g1).elim
  obtain ⟨B, cap, hse, hnc, hcm, hB0, hB1, hbw⟩ := hbase
  have hl2 : ∀ l, (l ∉ locsOf bw ∧ look (put (put σ fs) bw) l = look (put σ fs) l) ∨ (look (put (put σ fs) bw) l = .dead ∧ ∀ t, l ≠ tmpL t) := by
    intro l
    rcases hbw with rfl | ⟨l2, rfl, ho2⟩
    · exact .inl ⟨by simp [locsOf], rfl⟩
    · by_cases e1 : l2 = l
      · subst e1
        exact .inr ⟨by rw [put_cons, put_nil, look_cons, if_pos rfl], ho2⟩
      · exact .inl ⟨by simp [locsOf]; exact fun h => e1 h.symm, by rw [put_cons, put_nil, look_cons, if_neg e1]⟩
  have hown1 : ∀ l, isOwn (look (put σ fs) l) = true → isOwn (look σ l) = true := by
    intro l h
    rcases hfw.look l with e2 | e2
    · rw [← e2]; exact h
    · rw [e2, isOwn_freeze] at h; cases h
  have hside : ∀ l, isOwn (look (put σ fs) l) = true → l ∉ locsOf bw → ∀ g c n, β l = some (some g, c, n) → B ≠ some g := by
    intro l h hn g c n hb hB
    obtain ⟨cur, F, l2, cap2, len2, _, _, _, _, hbw2, hb2, ho2⟩ := hB1 g hB
    have := R.apart l l2 g c n cap2 len2 (hown1 l h) ho2 hb hb2
    subst this
    rw [hbw2] at hn
    exact hn (List.mem_cons_self ..)
  have hZB : ∀ g, B = some g → ¬ Zs Y β (put σ fs) w g := by
    intro g hg hz
    obtain ⟨cur, F, l2, cap2, len2, _, _, _, _, hbw2, hb2, ho2⟩ := hB1 g hg
    refine hz.2 l2 cap2 len2 ?_ hb2
    rw [look_put_notin]
    · exact ho2
    · intro hm
      rw [hbw2] at hdj
      simp only [disj, locsOf, List.all_cons, List.all_nil, Bool.and_true, Bool.not_eq_true'] at hdj
      rw [memN_iff.2 hm] at hdj
      cases hdj
  -- the end of each case: the new row lies in block g'
  have fin : ∀ {B' : Option Nat} {cap' : Nat} {w' : World}, w.heap.size ≤ w'.heap.size → w'.os = w.os → w'.tape = w.tape → w'.output = w.output → (∀ k, k < w.heap.size → B ≠ some k → w'.heap[k]? = w.heap[k]?) →
      (∀ g', B' = some g' → (B = some g' ∨ w.heap.size ≤ g')) → (B' ≠ none → xs.length + ys.length ≤ cap') →
      (∀ Z' : Nat → Prop, (∀ k, Zs Y β (put σ fs) w k → Z' k ∧ w'.heap[k]? = w.heap[k]?) → RowOk w' Z' e (ti.at e).ty (xs ++ ys) (B', cap', xs.length + ys.length)) → (B' = none → xs.length + ys.length = 0) →
      (Builtin.append_ #[t, t] o.type #[a.eval s, a.eval x]).run P w = .ok (.slice (B'.map fun g => ⟨g, 0, none⟩) (xs.length + ys.length) (if B' = none then 0 else cap')) w' →
      Sound P ti N X Y w0 β σ a w o new (fs ++ bw ++ [(new, .row true e (ti.at e).ty (xs ++ ys))] ++ setTmp o.dst (.ref new none)) := by
    intro B' cap' w' hsz hos htp hout hblk hB' hcap hrow hnil hrun next Q hn
    have hfresh := hf0 hti R hd hodd hf
    have hlk : ∀ l, look ((new, .row true e (ti.at e).ty (xs ++ ys)) :: put (put σ fs) bw) l = if new = l then .row true e (ti.at e).ty (xs ++ ys) else look (put (put σ fs) bw) l := fun l => look_cons _ _ _ _
    have hnew1 : ∀ l, β l ≠ none → new ≠ l := by rintro l h rfl; exact h hfresh
    -- an own object behind: the new one, or an elder one aside of the base
    have hcase : ∀ l, isOwn (look ((new, .row true e (ti.at e).ty (xs ++ ys)) :: put (put σ fs) bw) l) = true → new = l ∨ (new ≠ l ∧ l ∉ locsOf bw ∧ isOwn (look (put σ fs) l) = true) := by
      intro l h
      rw [hlk] at h
      by_cases e1 : new = l
      · exact .inl e1
      · rw [if_neg e1] at h
        rcases hl2 l with ⟨h1, h2⟩ | ⟨h1, _⟩
        · rw [h2] at h; exact .inr ⟨e1, h1, h⟩
        · rw [h1] at h; cases h
    have hdp : ∀ l, isDeep (look ((new, .row true e (ti.at e).ty (xs ++ ys)) :: put (put σ fs) bw) l) = true → look ((new, .row true e (ti.at e).ty (xs ++ ys)) :: put (put σ fs) bw) l = look (put σ fs) l := by
      intro l h
      rw [hlk] at h ⊢
      by_cases e1 : new = l
      · rw [if_pos e1] at h; cases h
      · rw [if_neg e1] at h ⊢
        rcases hl2 l with ⟨h1, h2⟩ | ⟨h1, _⟩
        · exact h2
        · rw [h1] at h; cases h
    have htop : ∀ l g c n, isOwn (look ((new, .row true e (ti.at e).ty (xs ++ ys)) :: put (put σ fs) bw) l) = true → upd β new (B', cap', xs.length + ys.length) l = some (some g, c, n) → (∃ l0 c0 n0, isOwn (look (put σ fs) l0) = true ∧ β l0 = some (some g, c0, n0)) ∨ w.heap.size ≤ g := by
      intro l g c n ho2 hb2
      rcases hcase l ho2 with rfl | ⟨h1, h2, h3⟩
      · rw [upd_at, if_pos rfl] at hb2
        cases hb2
        rcases hB' g rfl with h | h
        · obtain ⟨cur, F, l2, cap2, len2, _, _, _, _, hbw2, hb2, ho2⟩ := hB1 g h
          refine .inl ⟨l2, cap2, len2, ?_, hb2⟩
          rw [look_put_notin]
          · exact ho2
          · intro hm
            rw [hbw2] at hdj
            simp only [disj, locsOf, List.all_cons, List.all_nil, Bool.and_true, Bool.not_eq_true'] at hdj
            rw [memN_iff.2 hm] at hdj
            cases hdj
        · exact .inr h
      · rw [upd_at, if_neg (fun e1 => h1 e1.symm)] at hb2
        exact .inl ⟨l, c, n, h3, hb2⟩
    have hZ3 : ∀ k, Zs Y β (put σ fs) w k → Zs Y (upd β new (B', cap', xs.length + ys.length)) ((new, .row true e (ti.at e).ty (xs ++ ys)) :: put (put σ fs) bw) w' k ∧ w'.heap[k]? = w.heap[k]? := by
      intro k hk
      have hkB : B ≠ some k := fun h => hZB k h hk
      exact ⟨R1.stepZ (upd_inn ..) hsz hdp htop k hk, hblk k hk.1.1 hkB⟩
    have R3 : Rel ti N X Y w0 (upd β new (B', cap', xs.length + ys.length)) ((new, .row true e (ti.at e).ty (xs ++ ys)) :: put (put σ fs) bw) a w' := by
      refine R1.step (upd_ext hfresh) (upd_inn ..) ⟨hos.trans R.kept.os, htp.trans R.kept.tape, hout.trans R.kept.output, Nat.le_trans R.kept.size hsz, fun k hk hx => ?_⟩ hsz hZ3 (fun l h => ⟨hdp l h, fun f hf => hblk f (R1.dlt (by rw [← hdp l h]; exact h) hf) (fun hB => ?_)⟩) htop R.size R.dfr ?_ ?_ ?_
      · refine (hblk k (Nat.lt_of_lt_of_le hk R.kept.size) ?_).trans (R.kept.block k hk hx)
        intro hB
        obtain ⟨cur, F, l2, cap2, len2, _, _, _, _, _, hb2, ho2⟩ := hB1 k hB
        rcases R.new l2 k cap2 len2 ho2 hb2 with h | h
        · omega
        · exact hx h
      · obtain ⟨cur, F, l2, cap2, len2, _, _, _, _, _, hb2, ho2⟩ := hB1 f hB
        have h2 : isDeep (look (put σ fs) l) = true := by rw [← hdp l h]; exact h
        refine R.dtop l2 l f cap2 len2 ho2 hb2 ?_ hf
        rcases hfw.look l with e2 | e2
        · rw [← e2]; exact h2
        · have := isDeep_own h2; rw [e2, isOwn_freeze] at this; cases this
      · intro tt v hv
        rw [hlk, if_neg (hodd tt)] at hv
        rcases hl2 (tmpL tt) with ⟨_, h2⟩ | ⟨_, h2⟩
        · rw [h2] at hv; exact .inl ⟨hv, rfl⟩
        · exact absurd rfl (h2 tt)
      · intro l
        rw [hlk]
        by_cases e1 : new = l
        · subst e1
          rw [if_pos rfl]
          exact .inr ⟨_, by rw [upd_at, if_pos rfl], hrow _ hZ3, fun h => by cases h⟩
        · rw [if_neg e1]
          rcases hl2 l with ⟨h1, h2⟩ | ⟨h1, _⟩
          · rw [h2]
            exact .inl ⟨rfl, fun g c n h3 hb => hblk g (own_block R1 h3 hb) (hside l h3 h1 g c n hb)⟩
          · rw [h1]; exact .inr trivial
      · intro l1 l2 g c1 n1 c2 n2 ho1 ho2 hb1 hb2
        have clash : ∀ l c n, new ≠ l → l ∉ locsOf bw → isOwn (look (put σ fs) l) = true → β l = some (some g, c, n) → B' = some g → False := by
          intro l c n h1 h2 h3 hb hB2
          rcases hB' g hB2 with h | h
          · exact hside l h3 h2 g c n hb h
          · have := own_block R1 h3 hb; omega
        rw [upd_at] at hb1 hb2
        rcases hcase l1 ho1 with rfl | ⟨p1, p2, p3⟩ <;> rcases hcase l2 ho2 with rfl | ⟨q1, q2, q3⟩
        · rfl
        · rw [if_pos rfl] at hb1
          rw [if_neg (fun e1 => q1 e1.symm)] at hb2
          injection hb1 with hb1
          injection hb1 with hb1 _
          exact (clash l2 c2 n2 q1 q2 q3 hb2 hb1).elim
        · rw [if_pos rfl] at hb2
          rw [if_neg (fun e1 => p1 e1.symm)] at hb1
          injection hb2 with hb2
          injection hb2 with hb2 _
          exact (clash l1 c1 n1 p1 p2 p3 hb1 hb2).elim
        · rw [if_neg (fun e1 => p1 e1.symm)] at hb1
          rw [if_neg (fun e1 => q1 e1.symm)] at hb2
          exact R1.apart l1 l2 g c1 n1 c2 n2 p3 q3 hb1 hb2
    have R4 := R3.set (d := o.dst) (v := .ref new none) (u := .slice (B'.map fun g => ⟨g, 0, none⟩) (xs.length + ys.length) (if B' = none then 0 else cap')) hd (by
      refine ⟨B', cap', xs.length + ys.length, by rw [upd_at, if_pos rfl], ?_⟩
      cases B' with
      | none =>
        have := hnil rfl
        exact ⟨by rw [if_pos rfl, this]; rfl, this, rfl⟩
      | some g => exact ⟨by rw [if_neg (by simp)]; rfl, Nat.le_refl _, hcap (by simp)⟩)
    have e9 : put σ (fs ++ bw ++ [(new, .row true e (ti.at e).ty (xs ++ ys))] ++ setTmp o.dst (.ref new none)) = put ((new, .row true e (ti.at e).ty (xs ++ ys)) :: put (put σ fs) bw) (setTmp o.dst (.ref new none)) := by
      rw [put_append, put_append, put_append, put_cons, put_nil]
    refine wp_val (u := .slice (B'.map fun g => ⟨g, 0, none⟩) (xs.length + ys.length) (if B' = none then 0 else cap')) ?_ (hn _ _ _ (by rw [e9]; exact R4) (upd_same hti R hd hodd hf _))
    subst hc
    simp only [execOp, ho, resolve, invoke, builtin, Sem.run_bind, Sem.run_pure, Result.andThen_ok, List.map_toArray, List.map_cons, List.map_nil, hrun]
  have hml : ∀ k : Nat, k ≤ 140737488355328 → k ≤ maxLen := fun k h => by simp only [maxLen]; omega
  rcases hsrc with hy0 | ⟨ad, news, Fn, rfl, hat, hnr, hFn⟩
  · -- nothing is appended
    subst hy0
    have hr := run_append_zero (P := P) (w := w) (ty := o.type) hu i1 (B := B.map fun g => ⟨g, 0, none⟩) hnc (A := A) (c := c2)
    rw [← hse] at hr
    refine fin (B' := B) (cap' := cap) (w' := w) (Nat.le_refl _) rfl rfl rfl (fun _ _ _ => rfl) (fun g h => .inl h) (fun _ => by simpa using hnc) ?_ (fun h => by simp [(hB0 h).1]) ?_
    · intro Z' hZ'
      refine ⟨by simp, ?_⟩
      cases hB2 : B with
      | none => simp [(hB0 hB2).1]
      | some g =>
        obtain ⟨cur, F, l2, cap2, len2, q1, q2, q3, q4, _⟩ := hB1 g hB2
        rw [List.append_nil]
        exact ⟨cur, F, q1, hnc, hcm, q2, q3, fun f hf => (hZ' f (hZ1 f (q4 f hf))).1⟩
    · rw [hxe]
      show (Builtin.append_ #[t, t] o.type #[a.eval s, Value.slice A 0 c2]).run P w = _
      rw [hr, hse]
      cases hB2 : B with
      | none => simp [(hB0 hB2).1, (hB0 hB2).2]
      | some g => simp
  · have hnl : news.length = ys.length * sz (ti.at e).ty := rowR_len (fun _ _ _ => Rd_len) hnr
    have hn1 : ∀ u ∈ news, u.oneCell' = true := rowR_all (fun _ _ _ h => Rd_one h) hnr
    by_cases hy0 : ys.length = 0
    · have hy0 : ys = [] := List.eq_nil_of_length_eq_zero hy0
      subst hy0
      have hr := run_append_zero (P := P) (w := w) (ty := o.type) hu i1 (B := B.map fun g => ⟨g, 0, none⟩) hnc (A := some ad) (c := c2)
      rw [← hse] at hr
      refine fin (B' := B) (cap' := cap) (w' := w) (Nat.le_refl _) rfl rfl rfl (fun _ _ _ => rfl) (fun g h => .inl h) (fun _ => by simpa using hnc) ?_ (fun h => by simp [(hB0 h).1]) ?_
      · intro Z' hZ'
        refine ⟨by simp, ?_⟩
        cases hB2 : B with
        | none => simp [(hB0 hB2).1]
        | some g =>
          obtain ⟨cur, F, l2, cap2, len2, q1, q2, q3, q4, _⟩ := hB1 g hB2
          rw [List.append_nil]
          exact ⟨cur, F, q1, hnc, hcm, q2, q3, fun f hf => (hZ' f (hZ1 f (q4 f hf))).1⟩
      · rw [hxe]
        show (Builtin.append_ #[t, t] o.type #[a.eval s, Value.slice (some ad) 0 c2]).run P w = _
        rw [hr, hse]
        cases hB2 : B with
        | none => simp [(hB0 hB2).1, (hB0 hB2).2]
        | some g => simp
    have hgl : ∀ (m n : Nat), (Builtin.zeroCells z.cells (m - n)).size = (m - n) * sz (ti.at e).ty := fun m n => by rw [zeroCells_size, hzs]
    cases hB2 : B with
    | none =>
      obtain ⟨hx0, hc0⟩ := hB0 hB2
      subst hx0
      rw [hB2] at hse
      have hr := run_append_nil (P := P) w t o.type e i z hu i1 i4 ad ys.length c2 news (by rw [i2]; exact hnl) hat (by omega) (by simp only [List.length_nil] at hmax; omega) (by rw [i3]; simp only [List.length_nil, Nat.zero_add] at hbd; omega)
      have hge := grownCap_ge w ys.length 0 e
      have hcmx := grownCap_le_maxLen w ys.length 0 e (hml _ (by simp only [List.length_nil] at hmax; omega))
      refine fin (B' := some w.heap.size) (cap' := grownCap w ys.length 0 e) (w' := w.drew.alloc (.cells (news.toArray ++ Builtin.zeroCells z.cells (grownCap w ys.length 0 e - ys.length)) e)) (by simp) rfl rfl rfl (fun k hk _ => RowKit.Below.heap_alloc w.drew _ k hk) (fun g h => by cases h; exact .inr (Nat.le_refl _)) (fun _ => by simpa using hge) ?_ (fun h => by cases h) ?_
      · intro Z' hZ'
        refine ⟨by simp, _, Fn, alloc_new w.drew _, by simpa using hge, hcmx, ?_, ?_, fun f hf => (hZ' f (hFn f hf)).1⟩
        · rw [Array.size_append, hgl, List.size_toArray, hnl, ← Nat.add_mul]
          congr 1
          show ys.length + (grownCap w ys.length 0 e - ys.length) = grownCap w ys.length 0 e
          omega
        · have e1 : (news.toArray ++ Builtin.zeroCells z.cells (grownCap w ys.length 0 e - ys.length)).toList.take (([] ++ ys).length * sz (ti.at e).ty) = news := by
            rw [Array.toList_append, List.nil_append, ← hnl]
            exact List.take_left
          rw [e1, List.nil_append]
          exact rowR_imp (fun y cs F' hF' hr => Rd_move (fun f hf => (hZ' f (hFn f (hF' f hf))).2) hr) hnr
      · rw [hxe, hse]
        show (Builtin.append_ #[t, t] o.type #[Value.slice none 0 cap, Value.slice (some ad) ys.length c2]).run P w = _
        rw [hc0, hr]
        simp
    | some g =>
      rw [hB2] at hse
      obtain ⟨cur, F, l2, cap2, len2, q1, q2, q3, q4, q5, q6, q7⟩ := hB1 g hB2
      have hol := rowR_len (fun _ _ _ => Rd_len) q3
      have hcl : (cur.toList.take (xs.length * sz (ti.at e).ty)).length = xs.length * sz (ti.at e).ty := hol
      have hxc : xs.length * sz (ti.at e).ty ≤ cur.size := by rw [q2]; exact Nat.mul_le_mul_right _ hnc
      have hQ : ∀ Z' : Nat → Prop, ∀ w' : World, (∀ k, Zs Y β (put σ fs) w k → Z' k ∧ w'.heap[k]? = w.heap[k]?) → rowR (Rd w' (ti.at e).ty) (xs ++ ys) (cur.toList.take (xs.length * sz (ti.at e).ty) ++ news) (F ++ Fn) ∧ ∀ f ∈ F ++ Fn, Z' f := by
        intro Z' w' hZ'
        have hFF : ∀ f ∈ F ++ Fn, Zs Y β (put σ fs) w f := fun f hf => (List.mem_append.1 hf).elim (fun h => hZ1 f (q4 f h)) (fun h => hFn f h)
        exact ⟨rowR_imp (fun y cs F' hF' hr => Rd_move (fun f hf => (hZ' f (hFF f (hF' f hf))).2) hr) (rowR_append q3 hnr), fun f hf => (hZ' f (hFF f hf)).1⟩
      by_cases hroom : xs.length + ys.length ≤ cap
      · have hfit : xs.length * sz (ti.at e).ty + news.length ≤ cur.size := by rw [hnl, q2, ← Nat.add_mul]; exact Nat.mul_le_mul_right _ hroom
        have hr := run_append_room (P := P) w t o.type e i hu i1 g xs.length cap cur q1 ad ys.length c2 news (by rw [i2]; exact hnl) hat hn1 hroom (by rw [i2]; exact hfit)
        rw [i2] at hr
        refine fin (B' := some g) (cap' := cap) (w' := w.setRow g (cur.toList.take (xs.length * sz (ti.at e).ty) ++ news ++ cur.toList.drop (xs.length * sz (ti.at e).ty + news.length)).toArray) (by simp [World.setRow]) rfl rfl rfl (fun k hk hne => setRow_other w g k _ (fun h => hne (by rw [hB2, h]))) (fun g' h => by cases h; exact .inl hB2) (fun _ => hroom) ?_ (fun h => by cases h) ?_
        · intro Z' hZ'
          obtain ⟨r1, r2⟩ := hQ Z' _ hZ'
          refine ⟨by simp, _, F ++ Fn, setRow_heap w g cur _ e _ q1, by simpa using hroom, hcm, ?_, ?_, r2⟩
          · simp only [List.size_toArray, List.length_append, List.length_drop, Array.length_toList, hcl]
            rw [← q2]
            omega
          · have e1 : (cur.toList.take (xs.length * sz (ti.at e).ty) ++ news ++ cur.toList.drop (xs.length * sz (ti.at e).ty + news.length)).toArray.toList.take ((xs ++ ys).length * sz (ti.at e).ty) = cur.toList.take (xs.length * sz (ti.at e).ty) ++ news := by
              have : (xs ++ ys).length * sz (ti.at e).ty = (cur.toList.take (xs.length * sz (ti.at e).ty) ++ news).length := by
                rw [List.length_append, List.length_append, hcl, hnl, Nat.add_mul]
              rw [this]
              exact List.take_left
            rw [e1]
            exact r1
        · rw [hxe, hse]
          show (Builtin.append_ #[t, t] o.type #[Value.slice (some ⟨g, 0, none⟩) xs.length cap, Value.slice (some ad) ys.length c2]).run P w = _
          rw [hr]
          simp
      · have holds : ∀ j v, (cur.toList.take (xs.length * sz (ti.at e).ty))[j]? = some v → w.cell? ((⟨g, 0, none⟩ : Addr).add j) = some v := by
          have := At_array (off := 0) q1 (xs.length * sz (ti.at e).ty)
          rwa [List.drop_zero] at this
        have hr := run_append_grow (P := P) w t o.type e i z hu i1 i4 ⟨g, 0, none⟩ xs.length cap _ (by rw [i2]; exact hol) holds ad ys.length c2 news (by rw [i2]; exact hnl) hat (by omega) (by omega) (growslice_fits (by omega) (by rw [i3]; exact hbd))
        have hge := grownCap_ge w (xs.length + ys.length) cap e
        have hcmx := grownCap_le_maxLen w (xs.length + ys.length) cap e (hml _ hmax)
        refine fin (B' := some w.heap.size) (cap' := grownCap w (xs.length + ys.length) cap e) (w' := w.drew.alloc (.cells ((cur.toList.take (xs.length * sz (ti.at e).ty)).toArray ++ news.toArray ++ Builtin.zeroCells z.cells (grownCap w (xs.length + ys.length) cap e - (xs.length + ys.length))) e)) (by simp) rfl rfl rfl (fun k hk _ => RowKit.Below.heap_alloc w.drew _ k hk) (fun g h => by cases h; exact .inr (Nat.le_refl _)) (fun _ => hge) ?_ (fun h => by cases h) ?_
        · intro Z' hZ'
          obtain ⟨r1, r2⟩ := hQ Z' _ hZ'
          refine ⟨by simp, _, F ++ Fn, alloc_new w.drew _, by simpa using hge, hcmx, ?_, ?_, r2⟩
          · rw [Array.size_append, Array.size_append, hgl, List.size_toArray, List.size_toArray, hcl, hnl, ← Nat.add_mul, ← Nat.add_mul]
            congr 1
            show xs.length + ys.length + (grownCap w (xs.length + ys.length) cap e - (xs.length + ys.length)) = grownCap w (xs.length + ys.length) cap e
            omega
          · have e1 : ((cur.toList.take (xs.length * sz (ti.at e).ty)).toArray ++ news.toArray ++ Builtin.zeroCells z.cells (grownCap w (xs.length + ys.length) cap e - (xs.length + ys.length))).toList.take ((xs ++ ys).length * sz (ti.at e).ty) = cur.toList.take (xs.length * sz (ti.at e).ty) ++ news := by
              have : (xs ++ ys).length * sz (ti.at e).ty = (cur.toList.take (xs.length * sz (ti.at e).ty) ++ news).length := by
                rw [List.length_append, List.length_append, hcl, hnl, Nat.add_mul]
              rw [this, Array.toList_append, Array.toList_append]
              exact List.take_left
            rw [e1]
            exact r1
        · rw [hxe, hse]
          show (Builtin.append_ #[t, t] o.type #[Value.slice (some ⟨g, 0, none⟩) xs.length cap, Value.slice (some ad) ys.length c2]).run P w = _
          rw [hr]
          simp
end
end
end Go.Proofs.YtchdegcfohegfaaE
