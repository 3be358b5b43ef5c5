/- The engine, part 11: stores. -/
import Derived.Test.YtchdegcfohegfaaE10
namespace Go.Proofs.YtchdegcfohegfaaE
set_option linter.unusedVariables false
set_option linter.unusedSimpArgs false
set_option linter.unusedSectionVars false
open Pr

theorem splice {α : Type} (cur us : List α) (p n off q : Nat) (h1 : off + us.length ≤ n) (h2 : p + n ≤ q) (h3 : q ≤ cur.length) :
    (cur.take (p + off) ++ us ++ cur.drop (p + off + us.length)).take q = ((cur.take q).take p) ++ (((cur.drop p).take n).take off ++ us ++ ((cur.drop p).take n).drop (off + us.length)) ++ (cur.take q).drop (p + n) := by
  apply List.ext_getElem?
  intro j
  simp only [List.getElem?_append, List.getElem?_take, List.getElem?_drop, List.length_append, List.length_take, List.length_drop]
  grind

theorem memN_iff {n : Nat} {l : List Nat} : memN n l = true ↔ n ∈ l := by
  induction l with
  | nil => simp [memN]
  | cons m l ih =>
    simp only [memN, Bool.or_eq_true, List.mem_cons, ih]
    exact ⟨fun h => h.imp (fun h => Nat.eq_of_beq_eq_true h) id, fun h => h.imp (fun h => by rw [h]; exact Nat.beq_refl _) id⟩

theorem look_put_notin {ws : Ws} : ∀ {σ : St} {l : Loc}, l ∉ locsOf ws → look (put σ ws) l = look σ l := by
  induction ws with
  | nil => intro σ l _; rfl
  | cons p ws ih =>
    intro σ l h
    obtain ⟨l', c⟩ := p
    rw [put_cons, ih (fun hm => h (List.mem_cons_of_mem _ hm)), look_cons, if_neg]
    rintro rfl
    exact h (List.mem_cons_self ..)

theorem freezes_locs {σ : St} : ∀ {ls : List Loc} {ws : Ws}, (freezes ls).E σ ws → locsOf ws = ls
  | [], ws, h => by rw [freezes, E_ret] at h; subst h; rfl
  | l :: ls, ws, h => by
    simp only [freezes, E_get, E_bind, E_ret] at h
    obtain ⟨vs, h1, rfl⟩ := h
    show l :: locsOf vs = _
    rw [freezes_locs h1]

section
variable {P : Program} {ti : TI} {N : Nat} {X Y : Nat → Prop} {w0 w w' : World} {β β' : Beta} {σ σ' : St} {a a' : Act}

theorem frz_Z (R : Rel ti N X Y w0 β σ a w) {ws : Ws} (h : FrzW σ ws) {l : Loc} (hl : l ∈ locsOf ws) (ho : isObj (look σ l) = true) {g c len} (hb : β l = some (some g, c, len)) : Zs Y β (put σ ws) w g := by
  obtain ⟨_, hZ⟩ := R.frz h
  cases hown : isOwn (look σ l) with
  | true =>
    refine ⟨⟨own_block R hown hb, R.ownY hown hb⟩, fun l2 c2 n2 h2 hb2 => ?_, fun l2 h2 hm => R.dtop l l2 g c len hown hb (by
      rcases h.look l2 with e | e
      · rw [← e]; exact h2
      · have := isDeep_own h2; rw [e, isOwn_freeze] at this; cases this) hm⟩
    have h3 : isOwn (look σ l2) = true := by
      rcases h.look l2 with e | e
      · rw [← e]; exact h2
      · rw [e, isOwn_freeze] at h2; cases h2
    have := R.apart l l2 g c len c2 n2 hown h3 hb hb2
    subst this
    rw [h.own hl] at h2
    cases h2
  | false =>
    apply hZ
    have hc := R.obj l
    cases hcell : look σ l with
    | row own e t xs =>
      rw [hcell] at hc hown
      obtain ⟨b, hb', _, hz⟩ := hc
      rw [hb] at hb'
      cases hb'
      cases own with
      | true => cases hown
      | false => exact hz rfl g rfl
    | mem own e cs =>
      rw [hcell] at hc hown
      obtain ⟨b, hb', _, hz⟩ := hc
      rw [hb] at hb'
      cases hb'
      cases own with
      | true => cases hown
      | false => exact hz rfl g rfl
    | deep e t k xs op => rw [hcell] at hown; cases hown
    | dead => rw [hcell] at ho; cases ho
    | val v => rw [hcell] at ho; cases ho

theorem frz_Zi (R : Rel ti N X Y w0 β σ a w) {ws : Ws} (h : FrzW σ ws) {l : Loc} (hl : l ∈ locsOf ws) (hd : isDeep (look σ l) = true) {g} (hg : g ∈ β.inn l) : Zs Y β (put σ ws) w g := by
  have ho : Owns β σ l g := .inr ⟨hd, hg⟩
  refine .of (R.owns_lt ho) (R.owns_Y ho) fun l2 h2 => ?_
  have hown := h2.own
  have e : look (put σ ws) l2 = look σ l2 := by
    rcases h.look l2 with e | e
    · exact e
    · rw [e, isOwn_freeze] at hown; cases hown
  have h3 : Owns β σ l2 g := by unfold Owns at h2 ⊢; rw [e] at h2; exact h2
  have := R.owns_apart ho h3
  subst this
  rw [h.own hl] at hown
  cases hown

section
variable (hti : TiOk P ti) (R : Rel ti N X Y w0 β σ a w) {o : Oper} {new : Loc} {ws : Ws}
include hti R

theorem op_store (hodd2 : ∀ l, isObj (look σ l) = true → ∀ t, l ≠ tmpL t) {t : TypeId} {ad x : Operand} (ho : o.op = .store t ad x)
    (h : ((opd ad).bind fun p => (opd x).bind fun v => bif (ti.at t).ud.kn && o.dst.isNone then storeA ti t v p else .fail).E σ ws) : Sound P ti N X Y w0 β σ a w o new ws := by
  simp only [E_bind] at h
  obtain ⟨p, h1, v, h2, h3⟩ := h
  cases hk : ((ti.at t).ud.kn && o.dst.isNone) with
  | false => rw [hk] at h3; exact (E_fail.1 h3).elim
  | true =>
  rw [hk] at h3
  rw [Bool.and_eq_true] at hk
  obtain ⟨hk, hdn⟩ := hk
  have hdst : o.dst = none := by simpa using hdn
  replace h3 : (storeA ti t v p).E σ ws := h3
  have hp := opd_sound R h1
  have hv := opd_sound R h2
  -- what is run
  have run : ∀ {g off : Nat} {e : TypeId} {cur : Array Value} {us : List Value}, a.eval ad = .pointer (some ⟨g, off, none⟩) → (a.eval x).cells.toList = us → us.length = sz (ti.at t).ty → (∀ u ∈ us, u.oneCell' = true) → w.heap[g]? = some (.cells cur e (0, 0)) → off + us.length ≤ cur.size →
      ∀ (next : Act → World → Prop) (Q : Exit → Act → World → Prop), next a (w.setRow g (cur.toList.take off ++ us ++ cur.toList.drop (off + us.length)).toArray) → o.wp P a w next Q := by
    intro g off e cur us e1 e2 e3 e4 e5 e6 next Q hn
    have hst := run_storeCells_at P g off e us 0 cur w e5 (by simpa using e6) e4
    simp only [Nat.add_zero] at hst
    have hrun : (execOp a.eval o).run P w = .ok .skip (w.setRow g (cur.toList.take off ++ us ++ cur.toList.drop (off + us.length)).toArray) := by
      have hcs : (a.eval x).cells.size = sz (ti.at t).ty := by rw [← Array.length_toList, e2, e3]
      simp [execOp, ho, e1, Instr.storeAt, Instr.sureAddr, storeVar, hti.size hk, hcs, e2, hst]
    unfold Oper.wp
    rw [hrun]
    show next (a.put o.dst undef) _
    rw [hdst]
    exact hn
  unfold storeA at h3
  split at h3
  · rename_i l off
    rw [E_get] at h3
    split at h3
    · rename_i e cs hcell
      cases hb : (Nat.ble (off + sz (ti.at t).ty) cs.length && (cellsOk v && Nat.beq (asCells v).length (sz (ti.at t).ty))) with
      | false => rw [hb] at h3; exact (E_fail.1 h3).elim
      | true =>
        rw [hb] at h3
        rw [Bool.and_eq_true, Bool.and_eq_true] at hb
        obtain ⟨b1, b2, b3⟩ := hb
        have b1 := Nat.le_of_ble_eq_true b1
        have b3 := Nat.eq_of_beq_eq_true b3
        have h3 : (Pr.ret [(l, Cell.mem true e (putA cs off (asCells v)))]).E σ ws := h3
        rw [E_ret] at h3
        subst h3
        have hc := R.obj l
        rw [hcell] at hc
        obtain ⟨b, hbl, ⟨g, vs, g1, g2, g3, g4, g5, g6⟩, _⟩ := hc
        obtain ⟨g', c', len', hb', hpe⟩ := hp
        rw [hb'] at hbl
        cases hbl
        cases g1
        have hcv := cells_of hv b2
        have hcl := VRs_len hcv
        have hvl := VRs_len g3
        intro next Q hn
        refine run hpe rfl (by rw [hcl, b3]) (VRs_one hcv) g2 (by simp only [List.size_toArray]; omega) next Q (hn _ _ β ?_ (fun _ _ => rfl))
        rw [put_cons, put_nil]
        refine R.write (by rw [hcell]; rfl) hb' (hodd2 l (by rw [hcell]; rfl)) rfl rfl g2 ?_
        intro Z' hZ'
        refine ⟨_, hb', ⟨g, _, rfl, setRow_heap w g _ _ e _ g2, VRs_mono (fun _ _ h => h) hZ' (VRs_put g3 hcv off), ?_, g5, g6⟩, fun h => by cases h⟩
        rw [← g4]
        simp only [List.length_append, List.length_take, List.length_drop]
        omega
    · exact (E_fail.1 h3).elim
  · rename_i l i s off
    rw [E_get] at h3
    split at h3
    · rename_i e t' xs hcell
      cases hok : (!cellsOk v || memN l (refsOf v)) with
      | true => rw [hok] at h3; exact (E_fail.1 h3).elim
      | false =>
      rw [hok] at h3
      rw [Bool.or_eq_false_iff] at hok
      have hok1 : cellsOk v = true := by simpa using hok.1
      have hnot : l ∉ refsOf v := fun hm => by rw [memN_iff.2 hm] at hok; exact absurd hok.2 (by simp)
      simp only [cond_false, E_bind] at h3
      obtain ⟨vs', h4, h5⟩ := h3
      cases hb : (Nat.ble (off + sz (ti.at t).ty) (sz t') && Nat.beq vs'.length (sz (ti.at t).ty) && Nat.beq s (sz t')) with
      | false => rw [hb] at h5; exact (E_fail.1 h5).elim
      | true =>
      rw [hb] at h5
      rw [Bool.and_eq_true, Bool.and_eq_true] at hb
      obtain ⟨⟨b1, b2⟩, b3⟩ := hb
      have b1 := Nat.le_of_ble_eq_true b1
      have b2 := Nat.eq_of_beq_eq_true b2
      obtain rfl := Nat.eq_of_beq_eq_true b3
      simp only [cond_true, E_guard] at h5
      obtain ⟨hlt, h6⟩ := h5
      have hlt : i < xs.length := Nat.le_of_ble_eq_true hlt
      split at h6
      · rename_i y henc
        simp only [E_bind, E_ret] at h6
        obtain ⟨fs, h7, rfl⟩ := h6
        obtain ⟨hfw, hfl⟩ := freezes_frz h7
        obtain ⟨R1, hZ1⟩ := R.frz hfw
        have hlc : look (put σ fs) l = Cell.row true e t' xs := by
          rw [look_put_notin (by rw [freezes_locs h7]; exact hnot), hcell]
        have hc := R.obj l
        rw [hcell] at hc
        obtain ⟨b, hbl, hrow, _⟩ := hc
        obtain ⟨g, c', len', hb', hpe⟩ := hp
        rw [hb'] at hbl
        cases hbl
        have hcv := cells_of hv hok1
        have hvs' : VRs β w (Zs Y β (put σ fs) w) vs' (a.eval x).cells.toList := by
          refine snaps0_sound R hZ1 h4 hcv (fun l' hl' ho' g' c2 n2 hb2 => ?_)
          rw [refs_cells hok1] at hl'
          exact frz_Z R hfw (hfl l' hl') ho' hb2
        have hcl := VRs_len hvs'
        obtain ⟨ecs, F, hat, hr, hF⟩ := row_elem hrow hlt
        obtain ⟨hlen, cur, Fr, hg, hle, hcap, hsz, hrr, hFr⟩ := hrow
        have hle : xs.length ≤ c' := hle
        have hsz : cur.size = c' * sz t' := hsz
        have hq : xs.length * sz t' ≤ cur.size := by rw [hsz]; exact Nat.mul_le_mul_right _ hle
        have hpn : i * sz t' + sz t' ≤ xs.length * sz t' := by
          have := Nat.mul_le_mul_right (sz t') (Nat.succ_le_of_lt hlt)
          rw [Nat.succ_mul] at this
          exact this
        have hecs : VRs β w (Zs Y β (put σ fs) w) (cells t' (xs.getD i (dflt t'))) ((cur.toList.drop (i * sz t')).take (sz t')) := by
          obtain ⟨F', f1, f2⟩ := rowR_get (n := sz t') (fun _ _ _ => Rd_len) hrr (List.getElem?_eq_getElem hlt)
          have e2 : ((cur.toList.take (xs.length * sz t')).drop (i * sz t')).take (sz t') = (cur.toList.drop (i * sz t')).take (sz t') := by
            rw [List.drop_take, List.take_take, Nat.min_eq_left (by omega)]
          rw [e2] at f2
          rw [List.getD_eq_getElem?_getD, List.getElem?_eq_getElem hlt, Option.getD_some]
          exact VRs_cells f2 (fun f hf => hZ1 f (hFr f (f1 f hf)))
        obtain ⟨ncs, us', F2, e3, hry, hF2, hrest⟩ := Rd_enc henc (VRs_put hecs hvs' off)
        obtain rfl : us' = [] := hrest
        rw [List.append_nil] at e3
        have hncl := Rd_len hry
        intro next Q hn
        refine run hpe rfl (by rw [hcl, b2]) (VRs_one hvs') hg (by rw [hcl, b2, hsz]; rw [hsz] at hq; omega) next Q (hn _ _ β ?_ (fun _ _ => rfl))
        rw [put_append, put_cons, put_nil]
        refine R1.write (by rw [hlc]; rfl) hb' (hodd2 l (by rw [hcell]; rfl)) rfl rfl hg ?_
        intro Z' hZ'
        obtain ⟨F3, f3, f4⟩ := rowR_set (n := sz t') (fun _ _ _ => Rd_len) hrr hlt hry
        have hFZ : ∀ f ∈ F3, Zs Y β (put σ fs) w f := fun f hf => (f3 f hf).elim (fun h => hZ1 f (hFr f h)) (fun h => hF2 f h)
        refine ⟨_, hb', ⟨by rw [List.length_set]; exact hlen, _, F3, setRow_heap w g _ _ e _ hg, by rw [List.length_set]; exact hle, hcap, ?_, ?_, fun f hf => (hZ' f (hFZ f hf)).1⟩, fun h => by cases h⟩
        · have hcs := hsz
          simp only [List.size_toArray, List.length_append, List.length_take, List.length_drop, Array.length_toList, hcl, b2]
          omega
        · rw [List.length_set]
          have e5 := splice cur.toList (a.eval x).cells.toList (i * sz t') (sz t') off (xs.length * sz t') (by rw [hcl, b2]; exact b1) hpn (by rw [Array.length_toList]; exact hq)
          simp only [List.toList_toArray] at *
          rw [e5, e3]
          rw [hncl] at f4
          exact rowR_imp (fun y cs F' hF' hr => Rd_move (fun f hf => (hZ' f (hFZ f (hF' f hf))).2) hr) f4
      · exact (E_fail.1 h6).elim
    · exact (E_fail.1 h3).elim
  · exact (E_fail.1 h3).elim
end
end
end Go.Proofs.YtchdegcfohegfaaE
