/- The engine, part 12: slicing, append. -/
import Derived.Test.YtchdegcfohegfaaE11
namespace Go.Proofs.YtchdegcfohegfaaE
set_option linter.unusedVariables false
set_option linter.unusedSimpArgs false
set_option linter.unusedSectionVars false
open Pr

section
variable {P : Program} {ti : TI} {N : Nat} {X Y : Nat → Prop} {w0 w w' : World} {β β' : Beta} {σ σ' : St} {a a' : Act}

theorem run_slice (hti : TiOk P ti) {t e : TypeId} (k : (ti.at t).ud = .slice e) {A : Option Addr} {n c l h : Nat} (hn : n ≤ c) (hlh : l ≤ h) (hhc : h ≤ c) {lo hi : Option Value}
    (h1 : (lo = none ∧ l = 0) ∨ ∃ kk, lo = some (.int kk (l : Int))) (h2 : (hi = none ∧ h = n) ∨ ∃ kk, hi = some (.int kk (h : Int))) :
    (Instr.sliceAt t (.slice A n c) lo hi none).run P w = .ok (.slice (if c = l then A else A.map (·.add (l * sz (ti.at e).ty))) (h - l) (c - l)) w := by
  have hu : P.underlying t = _ := hti.slice k
  have hs := hti.size (hti.sl t e k) w
  have i1 : (h : Int) ≤ (c : Int) := by omega
  have i2 : (l : Int) ≤ (h : Int) := by omega
  rcases h1 with ⟨rfl, rfl⟩ | ⟨kk, rfl⟩ <;> rcases h2 with ⟨rfl, rfl⟩ | ⟨kk', rfl⟩
  all_goals simp [Instr.sliceAt, Instr.slice, run_underlying hu, Instr.sliceBounds, Instr.sliceBound, asIntOf, hs, i1, i2, hlh, hhc]

theorem slR_cut {t : Ty} {xs : List (T t)} {A : Option Addr} {F : List Nat} {l h : Nat} (hs : slR (Rd w t) w xs A F) (hlh : l ≤ h) :
    ∃ F', (∀ g ∈ F', g ∈ F) ∧ slR (Rd w t) w ((xs.take h).drop l) (A.map (·.add (l * sz t))) F' := by
  rcases hs with ⟨rfl, rfl⟩ | ⟨hx, ad, cs, F1, rfl, rfl, hat, hr⟩
  · exact ⟨[], by simp, .inl ⟨by simp, rfl⟩⟩
  · obtain ⟨F2, f1, f2⟩ := rowR_take (n := sz t) (fun _ _ _ => Rd_len) h hr
    obtain ⟨F3, f3, f4⟩ := rowR_drop (n := sz t) (fun _ _ _ => Rd_len) l f2
    by_cases he : (xs.take h).drop l = []
    · exact ⟨[], by simp, .inl ⟨he, rfl⟩⟩
    · refine ⟨ad.block :: F3, ?_, .inr ⟨he, ad.add (l * sz t), _, F3, rfl, by rw [Addr_add_block], ?_, f4⟩⟩
      · intro g hg
        rcases List.mem_cons.1 hg with rfl | hg
        · exact List.mem_cons_self ..
        · exact List.mem_cons_of_mem _ (f1 g (f3 g hg))
      · intro j u hu
        rw [List.getElem?_drop, List.getElem?_take] at hu
        split at hu
        · rw [Addr_add_add]; exact hat _ u hu
        · cases hu

/-- A content that is cut. -/
theorem VR1_cut {Z : Nat → Prop} {e : TypeId} {t : Ty} {xs : List (T t)} {A : Option Addr} {c l h n : Nat} {F : List Nat} (hlh : l ≤ h) (hh : h ≤ xs.length) (hc : xs.length ≤ c)
    (hs : slR (Rd w t) w xs A F) (hF : ∀ g ∈ F, Z g) : VR1 β w Z (.slc e t ((xs.take h).drop l)) (.slice (if c = l then A else A.map (·.add (l * sz t))) (h - l) (c - l)) := by
  have hlen : ((xs.take h).drop l).length = h - l := by rw [List.length_drop, List.length_take, Nat.min_eq_left hh]
  by_cases hcl : c = l
  · have he : (xs.take h).drop l = [] := List.eq_nil_of_length_eq_zero (by rw [hlen]; omega)
    rw [if_pos hcl]
    exact ⟨[], ⟨A, c - l, by rw [hlen], by rw [hlen]; omega, .inl ⟨he, rfl⟩⟩, by simp⟩
  · rw [if_neg hcl]
    obtain ⟨F', f1, f2⟩ := slR_cut hs hlh
    exact ⟨F', ⟨_, c - l, by rw [hlen], by rw [hlen]; omega, f2⟩, fun g hg => hF g (f1 g hg)⟩

/-- The object's cell as a row. -/
theorem Rel.asRow (R : Rel ti N X Y w0 β σ a w) {t : Ty} {e : TypeId} {l : Loc} {own : Bool} {xs : List (T t)} (h : rowOf ti t e (look σ l) = some (own, xs)) (hodd : ∀ t, l ≠ tmpL t) (keep : Bool) (hk : keep = true → own = true) :
    Rel ti N X Y w0 β ((l, .row keep e t xs) :: σ) a w ∧ (∀ g, Zs Y β σ w g → Zs Y β ((l, .row keep e t xs) :: σ) w g) := by
  obtain ⟨b, h1, h2, h3, h4, h5⟩ := rowOf_sound R h
  have ho : ∀ l', isOwn (look ((l, .row keep e t xs) :: σ) l') = true → isOwn (look σ l') = true := by
    intro l' hl'
    rw [look_cons] at hl'
    by_cases e : l = l'
    · subst e
      rw [if_pos rfl] at hl'
      cases keep with
      | true => exact h3 (hk rfl)
      | false => cases hl'
    · rw [if_neg e] at hl'; exact hl'
  have hdp : ∀ l', isDeep (look ((l, .row keep e t xs) :: σ) l') = true → look ((l, .row keep e t xs) :: σ) l' = look σ l' := by
    intro l' hd
    rw [look_cons] at hd ⊢
    by_cases e : l = l'
    · rw [if_pos e] at hd; cases hd
    · rw [if_neg e]
  have htop : ∀ l' g' c' n, isOwn (look ((l, .row keep e t xs) :: σ) l') = true → β l' = some (some g', c', n) → (∃ l0 c0 n0, isOwn (look σ l0) = true ∧ β l0 = some (some g', c0, n0)) ∨ w.heap.size ≤ g' := fun l' g' c' n h hb => .inl ⟨l', c', n, ho l' h, hb⟩
  have hZ : ∀ g, Zs Y β σ w g → Zs Y β ((l, .row keep e t xs) :: σ) w g := R.stepZ rfl (Nat.le_refl _) hdp htop
  refine ⟨R.step (fun _ _ h => h) rfl R.kept (Nat.le_refl _) (fun g hg => ⟨hZ g hg, rfl⟩) (fun l h => ⟨hdp l h, fun _ _ => rfl⟩) htop R.size R.dfr ?_ ?_ (fun l1 l2 g c1 n1 c2 n2 a1 a2 => R.apart l1 l2 g c1 n1 c2 n2 (ho l1 a1) (ho l2 a2)), hZ⟩
  · intro t' v hv
    rw [look_cons, if_neg (hodd t')] at hv
    exact .inl ⟨hv, rfl⟩
  · intro l'
    rw [look_cons]
    by_cases e : l = l'
    · subst e
      rw [if_pos rfl]
      right
      refine ⟨b, h1, h2.mono (fun g hg => ⟨hZ g hg, rfl⟩) (fun _ _ => rfl), fun hkf g hg => ?_⟩
      subst hkf
      cases own with
      | false => exact hZ g (h4 rfl g hg)
      | true =>
        refine ⟨⟨own_block R (h3 rfl) (by rw [h1, ← hg]), R.ownY (h3 rfl) (by rw [h1, ← hg])⟩, fun l2 c2 n2 ho2 hb2 => ?_, fun l2 hd2 hm => R.dtop l l2 g b.2.1 b.2.2 (h3 rfl) (by rw [h1, ← hg]) (by rw [← hdp l2 hd2]; exact hd2) hm⟩
        have := R.apart l l2 g b.2.1 b.2.2 c2 n2 (h3 rfl) (ho l2 ho2) (by rw [h1, ← hg]) hb2
        subst this
        rw [look_cons, if_pos rfl] at ho2
        cases ho2
    · rw [if_neg e]; exact .inl ⟨rfl, fun _ _ _ _ _ => rfl⟩

/-- A row is cut: the old place is given up, the new one has its block. -/
theorem Rel.cutRow (R : Rel ti N X Y w0 β σ a w) {t : Ty} {e : TypeId} {r new : Loc} {xs : List (T t)} (hro : rowOf ti t e (look σ r) = some (true, xs)) (hodd : ∀ t, new ≠ tmpL t) (hoddr : ∀ t, r ≠ tmpL t) (hfresh : β new = none)
    {b : Option Nat × Nat × Nat} (hb : β r = some b) {h : Nat} (hh : h ≤ xs.length) :
    Rel ti N X Y w0 (upd β new (b.1, b.2.1, h)) ((new, .row true e t (xs.take h)) :: (r, .dead) :: σ) a w := by
  obtain ⟨b', hb', hrow, hown, _, _⟩ := rowOf_sound R hro
  rw [hb] at hb'
  cases hb'
  have hown := hown rfl
  have hnr : new ≠ r := by rintro rfl; rw [hfresh] at hb; cases hb
  have hlk : ∀ l, look ((new, .row true e t (xs.take h)) :: (r, .dead) :: σ) l = if new = l then .row true e t (xs.take h) else if r = l then .dead else look σ l := fun l => by rw [look_cons, look_cons]
  have hcase : ∀ l, isOwn (look ((new, .row true e t (xs.take h)) :: (r, .dead) :: σ) l) = true → new = l ∨ (new ≠ l ∧ r ≠ l ∧ isOwn (look σ l) = true) := by
    intro l hl
    rw [hlk] at hl
    by_cases e1 : new = l
    · exact .inl e1
    · rw [if_neg e1] at hl
      by_cases e2 : r = l
      · rw [if_pos e2] at hl; cases hl
      · rw [if_neg e2] at hl; exact .inr ⟨e1, e2, hl⟩
  have hdp : ∀ l', isDeep (look ((new, .row true e t (xs.take h)) :: (r, .dead) :: σ) l') = true → look ((new, .row true e t (xs.take h)) :: (r, .dead) :: σ) l' = look σ l' := by
    intro l' hd
    rw [hlk] at hd ⊢
    by_cases e1 : new = l'
    · rw [if_pos e1] at hd; cases hd
    · rw [if_neg e1] at hd ⊢
      by_cases e2 : r = l'
      · rw [if_pos e2] at hd; cases hd
      · rw [if_neg e2]
  have htop : ∀ l' g' c' n, isOwn (look ((new, .row true e t (xs.take h)) :: (r, .dead) :: σ) l') = true → upd β new (b.1, b.2.1, h) l' = some (some g', c', n) → (∃ l0 c0 n0, isOwn (look σ l0) = true ∧ β l0 = some (some g', c0, n0)) ∨ w.heap.size ≤ g' := by
    intro l g c n ho hb2
    rcases hcase l ho with rfl | ⟨h1, h2, h3⟩
    · rw [upd_at, if_pos rfl] at hb2
      injection hb2 with hb2
      exact .inl ⟨r, b.2.1, b.2.2, hown, by rw [hb]; injection hb2 with e1 _; rw [← e1]⟩
    · rw [upd_at, if_neg (fun e1 => h1 e1.symm)] at hb2
      exact .inl ⟨l, c, n, h3, hb2⟩
  have hZ : ∀ k, Zs Y β σ w k → Zs Y (upd β new (b.1, b.2.1, h)) ((new, .row true e t (xs.take h)) :: (r, .dead) :: σ) w k := R.stepZ (upd_inn ..) (Nat.le_refl _) hdp htop
  refine R.step (upd_ext hfresh) (upd_inn ..) R.kept (Nat.le_refl _) (fun g hg => ⟨hZ g hg, rfl⟩) (fun l h => ⟨hdp l h, fun _ _ => rfl⟩) htop R.size R.dfr ?_ ?_ ?_
  · intro tt v hv
    rw [hlk, if_neg (hodd tt), if_neg (hoddr tt)] at hv
    exact .inl ⟨hv, rfl⟩
  · intro l
    rw [hlk]
    by_cases e1 : new = l
    · subst e1
      rw [if_pos rfl]
      refine .inr ⟨_, by rw [upd_at, if_pos rfl], ?_, fun h => by cases h⟩
      have hrow := hrow.mono (w' := w) (Z' := Zs Y (upd β new (b.1, b.2.1, h)) ((new, .row true e t (xs.take h)) :: (r, .dead) :: σ) w) (fun g hg => ⟨hZ g hg, rfl⟩) (fun _ _ => rfl)
      obtain ⟨hl, hr⟩ := hrow
      refine ⟨by rw [List.length_take, Nat.min_eq_left hh], ?_⟩
      show match b.1 with | none => _ | some g => _
      cases hb1 : b.1 with
      | none => rw [hb1] at hr; have hr : xs = [] := hr; subst hr; simp
      | some g =>
        rw [hb1] at hr
        obtain ⟨cur, F, h3, h4, h5, h6, h7, h8⟩ := hr
        obtain ⟨F', q1, q2⟩ := rowR_take (n := sz t) (fun _ _ _ => Rd_len) h h7
        rw [List.take_take, Nat.min_eq_left (Nat.mul_le_mul_right _ hh)] at q2
        refine ⟨cur, F', h3, ?_, h5, h6, ?_, fun f hf => h8 f (q1 f hf)⟩
        · have : b.2.2 = xs.length := hl
          show (xs.take h).length ≤ b.2.1
          rw [List.length_take]; omega
        · rw [List.length_take, Nat.min_eq_left hh]; exact q2
    · rw [if_neg e1]
      by_cases e2 : r = l
      · rw [if_pos e2]; exact .inr trivial
      · rw [if_neg e2]; exact .inl ⟨rfl, fun _ _ _ _ _ => rfl⟩
  · intro l1 l2 g c1 n1 c2 n2 ho1 ho2 hb1 hb2
    have clash : ∀ l c n, r ≠ l → isOwn (look σ l) = true → β l = some (some g, c, n) → b.1 = some g → False := by
      intro l c n h2 h3 hb3 hg
      exact h2 (R.apart r l g b.2.1 b.2.2 c n hown h3 (by rw [hb, ← hg]) hb3)
    rw [upd_at] at hb1 hb2
    rcases hcase l1 ho1 with rfl | ⟨p1, p2, p3⟩ <;> rcases hcase l2 ho2 with rfl | ⟨q1, q2, q3⟩
    · rfl
    · rw [if_pos rfl] at hb1
      rw [if_neg (fun e1 => q1 e1.symm)] at hb2
      injection hb1 with hb1
      injection hb1 with hb1 _
      exact (clash l2 c2 n2 q2 q3 hb2 hb1).elim
    · rw [if_pos rfl] at hb2
      rw [if_neg (fun e1 => p1 e1.symm)] at hb1
      injection hb2 with hb2
      injection hb2 with hb2 _
      exact (clash l1 c1 n1 p2 p3 hb1 hb2).elim
    · rw [if_neg (fun e1 => p1 e1.symm)] at hb1
      rw [if_neg (fun e1 => q1 e1.symm)] at hb2
      exact R.apart l1 l2 g c1 n1 c2 n2 p3 q3 hb1 hb2

theorem bnd_sound (R : Rel ti N X Y w0 β σ a w) {x : Option Operand} {z : Option AVal} {d n : Int} (h4 : (opdO x).E σ z) (h5 : (bndA d z).E σ n) : (x = none ∧ n = d) ∨ ∃ y k, x = some y ∧ a.eval y = .int k n := by
  cases x with
  | none =>
    rw [opdO, E_ret] at h4
    subst h4
    rw [bndA, E_ret] at h5
    exact .inl ⟨rfl, h5.symm⟩
  | some y =>
    simp only [opdO, E_bind, E_ret] at h4
    obtain ⟨z', h6, rfl⟩ := h4
    obtain ⟨k, hk⟩ := idx_sound (opd_sound R h6) h5
    exact .inr ⟨y, k, rfl, hk⟩

theorem opdO_none {x : Option Operand} (h : (opdO x).E σ none) : x = none := by
  cases x with
  | none => rfl
  | some y =>
    simp only [opdO, E_bind, E_ret] at h
    obtain ⟨_, _, h⟩ := h
    cases h

theorem opdO_some (R : Rel ti N X Y w0 β σ a w) {x : Option Operand} {z : AVal} (h : (opdO x).E σ (some z)) : ∃ y, x = some y ∧ VR β w (Zs Y β σ w) z (a.eval y) := by
  cases x with
  | none => rw [opdO, E_ret] at h; cases h
  | some y =>
    simp only [opdO, E_bind, E_ret] at h
    obtain ⟨z', h6, h7⟩ := h
    cases h7
    exact ⟨y, rfl, opd_sound R h6⟩

section
variable (hti : TiOk P ti) (R : Rel ti N X Y w0 β σ a w) {o : Oper} {new : Loc} (hd : ∀ t, o.dst = some t → t < N) {ws : Ws}
include hti R hd

theorem op_sliceObj (hodd : ∀ t, new ≠ tmpL t) (hfr0 : ∀ j, new ≤ j → j < new + 128 → β j = none) (hodd2 : ∀ l, isObj (look σ l) = true → ∀ t, l ≠ tmpL t) {t e : TypeId} {x : Operand} {lo hi : Option Operand} (k : (ti.at t).ud = .slice e) (ho : o.op = .slice t x lo hi none) {v : AVal} {lv hv : Option AVal} (h1 : (opd x).E σ v) (h2 : (opdO lo).E σ lv) (h3 : (opdO hi).E σ hv)
    (h : ((sliceA ti e new v lv hv).bind fun r => .ret (r.1 ++ setTmp o.dst r.2)).E σ ws) : Sound P ti N X Y w0 β σ a w o new ws := by
  rw [E_bind] at h
  obtain ⟨r, h4, h5⟩ := h
  rw [E_ret] at h5
  subst h5
  have hval := opd_sound R h1
  -- the end of each case
  have fin : ∀ {ws1 : Ws} {z : AVal} {u : Value}, r = (ws1, z) → Rel ti N X Y w0 β (put σ ws1) a w → VR β w (Zs Y β (put σ ws1) w) z u →
      (Instr.sliceAt t (a.eval x) (lo.map a.eval) (hi.map a.eval) none).run P w = .ok u w → Sound P ti N X Y w0 β σ a w o new (r.1 ++ setTmp o.dst r.2) := by
    rintro ws1 z u rfl R1 hz hrun next Q hn
    have R2 := R1.set hd hz
    rw [← put_append] at R2
    exact wp_val (by simp [execOp, ho, hrun]) (hn _ _ β R2 (fun _ _ => rfl))
  unfold sliceA at h4
  split at h4
  · rename_i e' t' xs
    simp only [E_bind] at h4
    obtain ⟨l, g1, h', g2, g3⟩ := h4
    cases hte : tyEq t' (ti.at e).ty with
    | false => rw [hte] at g3; exact (E_fail.1 g3).elim
    | true =>
      rw [hte] at g3
      have hte := tyEq_eq hte
      simp only [cond_true, E_guard, E_ret] at g3
      obtain ⟨b1, b2, rfl⟩ := g3
      have b1 : 0 ≤ h' ∧ h' ≤ (xs.length : Int) := by simpa [boundE] using b1
      have b2 : 0 ≤ l ∧ l ≤ h' := by simpa using b2
      obtain ⟨F, ⟨A, c, hcs, hc, hs⟩, hF⟩ := hval
      have hcs : a.eval x = .slice A xs.length c := by injection hcs
      refine fin (ws1 := []) rfl R (z := .slc e' t' ((xs.take h'.toNat).drop l.toNat)) (VR1_cut (β := β) (c := c) (n := 0) (by omega) (by omega) hc hs hF) ?_
      have hsz : sz t' = sz (ti.at e).ty := by rw [hte]
      rw [hcs, hsz]
      refine run_slice hti k hc (by omega) (by omega) ?_ ?_
      · rcases bnd_sound R h2 g1 with ⟨rfl, rfl⟩ | ⟨y, kk, rfl, e2⟩
        · exact .inl ⟨rfl, rfl⟩
        · exact .inr ⟨kk, by simp [e2, Int.toNat_of_nonneg b2.1]⟩
      · rcases bnd_sound R h3 g2 with ⟨rfl, rfl⟩ | ⟨y, kk, rfl, e2⟩
        · exact .inl ⟨rfl, by simp⟩
        · exact .inr ⟨kk, by simp [e2, Int.toNat_of_nonneg b1.1]⟩
  · rename_i e' t' xs m
    simp only [E_bind] at h4
    obtain ⟨l, g1, h', g2, g3⟩ := h4
    cases hte : tyEq t' (ti.at e).ty with
    | false => rw [hte] at g3; exact (E_fail.1 g3).elim
    | true =>
      rw [hte] at g3
      have hte := tyEq_eq hte
      simp only [cond_true, E_guard, E_ret] at g3
      obtain ⟨b1, b2, rfl⟩ := g3
      have b1 : 0 ≤ h' ∧ h' ≤ (xs.length : Int) := by simpa [boundE] using b1
      have b2 : 0 ≤ l ∧ l ≤ h' := by simpa using b2
      obtain ⟨F, ⟨A, c, hcs, hm, hc, hs⟩, hF⟩ := hval
      have hcs : a.eval x = .slice A m c := by injection hcs
      have hm : m ≤ xs.length := hm
      have hc : xs.length ≤ c := hc
      refine fin (ws1 := []) rfl R (z := .slc e' t' ((xs.take h'.toNat).drop l.toNat)) (VR1_cut (β := β) (c := c) (n := 0) (by omega) (by omega) hc hs hF) ?_
      have hsz : sz t' = sz (ti.at e).ty := by rw [hte]
      rw [hcs, hsz]
      refine run_slice hti k (n := m) (by omega) (by omega) (by omega) ?_ ?_
      · rcases bnd_sound R h2 g1 with ⟨rfl, rfl⟩ | ⟨y, kk, rfl, e2⟩
        · exact .inl ⟨rfl, rfl⟩
        · exact .inr ⟨kk, by simp [e2, Int.toNat_of_nonneg b2.1]⟩
      · rcases bnd_sound R h3 g2 with ⟨rfl, rfl⟩ | ⟨y, kk, rfl, e2⟩
        · exact .inl ⟨rfl, by simp⟩
        · exact .inr ⟨kk, by simp [e2, Int.toNat_of_nonneg b1.1]⟩
  · simp only [E_bind, E_guard, E_ret] at h4
    obtain ⟨l, g1, h', g2, b1, b2, rfl⟩ := h4
    have b1 : h' = 0 := by simpa using b1
    have b2 : l = 0 := by simpa using b2
    subst b1
    subst b2
    have hcs : a.eval x = .slice none 0 0 := hval
    refine fin (ws1 := []) rfl R (z := .nilslc) (u := .slice none 0 0) rfl ?_
    rw [hcs]
    have := run_slice (w := w) hti k (A := none) (n := 0) (c := 0) (l := 0) (h := 0) (lo := lo.map a.eval) (hi := hi.map a.eval) (Nat.le_refl _) (Nat.le_refl _) (Nat.le_refl _) ?_ ?_
    · simpa using this
    · rcases bnd_sound R h2 g1 with ⟨rfl, _⟩ | ⟨y, kk, rfl, e2⟩
      · exact .inl ⟨rfl, rfl⟩
      · exact .inr ⟨kk, by simp [e2]⟩
    · rcases bnd_sound R h3 g2 with ⟨rfl, _⟩ | ⟨y, kk, rfl, e2⟩
      · exact .inl ⟨rfl, rfl⟩
      · exact .inr ⟨kk, by simp [e2]⟩
  · rename_i r' n
    rw [E_get] at h4
    split at h4
    · rename_i own xs hro
      obtain ⟨b, hb, hrow, hown, hfr, hobj⟩ := rowOf_sound R hro
      have hoddr := hodd2 r' hobj
      have hval' := hval
      obtain ⟨bb, c, len, hb', hv2⟩ := hval
      rw [hb] at hb'
      cases hb'
      have hlen : len = xs.length := hrow.1
      -- a cut of the row, frozen
      have cut : ∀ {l h' : Int} {lv' : AVal} {hv' : Option AVal}, lv = some lv' → (idxA lv').E σ l → 0 ≤ l → l ≤ h' → h'.toNat ≤ (seen n xs).length → (h'.toNat ≤ xs.length) →
          ((hi = none ∧ h'.toNat = n.getD len) ∨ ∃ kk, hi.map a.eval = some (.int kk (h'.toNat : Int))) → r = ([(r', .row false e (ti.at e).ty xs)], .slc e (ti.at e).ty (((seen n xs).take h'.toNat).drop l.toNat)) → Sound P ti N X Y w0 β σ a w o new (r.1 ++ setTmp o.dst r.2) := by
        intro l h' lv' hv' e1 e2 b1 b2 b3 b4 e3 e4
        subst e1
        obtain ⟨y, hy, hyv⟩ := opdO_some R h2
        obtain ⟨kk, hkk⟩ := idx_sound hyv e2
        subst hy
        obtain ⟨R1, hZ1⟩ := R.asRow hro hoddr false (by simp)
        have hsl := row_slc (Z' := Zs Y β ((r', .row false e (ti.at e).ty xs) :: σ) w) hb hrow hval' hZ1 (fun g hg => ?_)
        · obtain ⟨F, ⟨A, c2, hcs, hc2, hs⟩, hF⟩ := hsl
          have hcs : a.eval x = .slice A (seen n xs).length c2 := by injection hcs
          refine fin (u := .slice (if c2 = l.toNat then A else A.map (·.add (l.toNat * sz (ti.at e).ty))) (h'.toNat - l.toNat) (c2 - l.toNat)) e4 (by rw [put_cons, put_nil]; exact R1) (by rw [put_cons, put_nil]; exact VR1_cut (β := β) (n := 0) (by omega) b3 hc2 hs hF) ?_
          rw [hcs]
          refine run_slice hti k hc2 (by omega) (by omega) (.inr ⟨kk, by simp [hkk, Int.toNat_of_nonneg b1]⟩) ?_
          rcases e3 with ⟨rfl, e3⟩ | e3
          · left
            refine ⟨rfl, ?_⟩
            rw [e3]
            cases n with
            | none => exact hlen
            | some j =>
              show j = (xs.take j).length
              have : h'.toNat = j := e3
              rw [List.length_take]
              omega
          · exact .inr e3
        · have hc1 := R1.obj r'
          rw [look_cons, if_pos rfl] at hc1
          obtain ⟨b', hb2, _, hz⟩ := hc1
          rw [hb] at hb2
          cases hb2
          exact hz rfl g hg
      split at h4
      · rename_i hv'
        rw [E_bind] at h4
        obtain ⟨h', g2, h4⟩ := h4
        cases hcut : (ti.at e).cut && own with
        | true =>
          rw [hcut] at h4
          simp only [cond_true, E_guard, E_ret] at h4
          obtain ⟨b1, rfl⟩ := h4
          rw [Bool.and_eq_true] at hcut
          obtain ⟨_, rfl⟩ := hcut
          have b1 : 0 ≤ h' ∧ h' ≤ (xs.length : Int) := by simpa [boundE] using b1
          obtain rfl := opdO_none h2
          obtain ⟨y, rfl, hyv⟩ := opdO_some R h3
          obtain ⟨kk, hkk⟩ := idx_sound hyv g2
          have hfresh : β new = none := hfr0 new (Nat.le_refl _) (Nat.lt_add_of_pos_right (by decide))
          have R1 := R.cutRow hro hodd hoddr hfresh hb (h := h'.toNat) (by omega)
          have hsame : ∀ l, ¬ (new ≤ l ∧ l < new + 128) → upd β new (bb, c, h'.toNat) l = β l := by
            intro l hl
            rw [upd_at]
            rw [if_neg]
            rintro rfl
            exact hl ⟨Nat.le_refl _, Nat.lt_add_of_pos_right (by decide)⟩
          have fin2 : ∀ {u : Value}, VR (upd β new (bb, c, h'.toNat)) w (Zs Y (upd β new (bb, c, h'.toNat)) ((new, .row true e (ti.at e).ty (xs.take h'.toNat)) :: (r', .dead) :: σ) w) (.ref new none) u →
              (Instr.sliceAt t (a.eval x) ((none : Option Operand).map a.eval) ((some y).map a.eval) none).run P w = .ok u w → Sound P ti N X Y w0 β σ a w o new ([(r', .dead), (new, .row true e (ti.at e).ty (xs.take h'.toNat))] ++ setTmp o.dst (.ref new none)) := by
            intro u hz hrun next Q hn
            have R2 := R1.set hd hz
            simp only [Option.map_none, Option.map_some] at hrun
            exact wp_val (u := u) (w' := w) (by simp [execOp, ho, hrun]) (hn _ _ _ (by rw [put_append, put_cons, put_cons, put_nil]; exact R2) hsame)
          have hup : upd β new (bb, c, h'.toNat) new = some (bb, c, h'.toNat) := by rw [upd_at, if_pos rfl]
          cases bb with
          | none =>
            obtain ⟨hx, e1, e2⟩ := hv2
            have hx0 : h'.toNat = 0 := by omega
            refine fin2 (u := .slice none 0 0) ⟨_, _, _, hup, rfl, hx0, rfl⟩ ?_
            rw [hx]
            have := run_slice (w := w) hti k (A := none) (n := 0) (c := 0) (l := 0) (h := 0) (lo := none) (hi := (some y).map a.eval) (Nat.le_refl _) (Nat.le_refl _) (Nat.le_refl _) (.inl ⟨rfl, rfl⟩) (.inr ⟨kk, by simp [hkk]; omega⟩)
            simpa using this
          | some g =>
            obtain ⟨hx, e1, e2⟩ := hv2
            refine fin2 (u := .slice (some ⟨g, 0, none⟩) h'.toNat c) ⟨_, _, _, hup, rfl, Nat.le_refl _, by show h'.toNat ≤ c; omega⟩ ?_
            rw [hx]
            have := run_slice (w := w) hti k (A := some ⟨g, 0, none⟩) (n := n.getD len) (c := c) (l := 0) (h := h'.toNat) (lo := none) (hi := (some y).map a.eval) (by omega) (Nat.zero_le _) (by omega) (.inl ⟨rfl, rfl⟩) (.inr ⟨kk, by simp [hkk, Int.toNat_of_nonneg b1.1]⟩)
            rw [Option.map_none, this]
            simp [Addr.add_zero']
        | false =>
        rw [hcut] at h4
        simp only [cond_false, E_guard, E_ret] at h4
        obtain ⟨b1, rfl⟩ := h4
        have b1 : 0 ≤ h' ∧ h' ≤ (xs.length : Int) := by simpa [boundE] using b1
        obtain rfl := opdO_none h2
        obtain ⟨y, rfl, hyv⟩ := opdO_some R h3
        obtain ⟨kk, hkk⟩ := idx_sound hyv g2
        obtain ⟨R1, hZ1⟩ := R.asRow hro hoddr own id
        cases bb with
        | none =>
          obtain ⟨hx, e1, e2⟩ := hv2
          have hx0 : h'.toNat = 0 := by omega
          refine fin (ws1 := [(r', .row own e (ti.at e).ty xs)]) (z := .ref r' (some h'.toNat)) (u := .slice none 0 0) rfl (by rw [put_cons, put_nil]; exact R1) ⟨_, _, _, hb, rfl, e1, by rw [hx0]; rfl⟩ ?_
          rw [hx]
          have := run_slice (w := w) hti k (A := none) (n := 0) (c := 0) (l := 0) (h := 0) (lo := none) (hi := (some y).map a.eval) (Nat.le_refl _) (Nat.le_refl _) (Nat.le_refl _) (.inl ⟨rfl, rfl⟩) (.inr ⟨kk, by simp [hkk]; omega⟩)
          simpa using this
        | some g =>
          obtain ⟨hx, e1, e2⟩ := hv2
          refine fin (ws1 := [(r', .row own e (ti.at e).ty xs)]) (z := .ref r' (some h'.toNat)) (u := .slice (some ⟨g, 0, none⟩) h'.toNat c) rfl (by rw [put_cons, put_nil]; exact R1) ⟨_, _, _, hb, rfl, by show h'.toNat ≤ len; omega, e2⟩ ?_
          rw [hx]
          have := run_slice (w := w) hti k (A := some ⟨g, 0, none⟩) (n := n.getD len) (c := c) (l := 0) (h := h'.toNat) (lo := none) (hi := (some y).map a.eval) (by omega) (Nat.zero_le _) (by omega) (.inl ⟨rfl, rfl⟩) (.inr ⟨kk, by simp [hkk, Int.toNat_of_nonneg b1.1]⟩)
          rw [Option.map_none, this]
          simp [Addr.add_zero']
      · rw [E_ret] at h4
        subst h4
        obtain rfl := opdO_none h2
        obtain rfl := opdO_none h3
        refine fin (ws1 := []) (z := .ref r' n) (u := a.eval x) rfl R hval' ?_
        cases bb with
        | none =>
          obtain ⟨hx, e1, e2⟩ := hv2
          rw [hx]
          have := run_slice (w := w) hti k (A := none) (n := 0) (c := 0) (l := 0) (h := 0) (lo := none) (hi := none) (Nat.le_refl _) (Nat.le_refl _) (Nat.le_refl _) (.inl ⟨rfl, rfl⟩) (.inl ⟨rfl, rfl⟩)
          simpa using this
        | some g =>
          obtain ⟨hx, e1, e2⟩ := hv2
          rw [hx]
          have := run_slice (w := w) hti k (A := some ⟨g, 0, none⟩) (n := n.getD len) (c := c) (l := 0) (h := n.getD len) (lo := none) (hi := none) (by omega) (Nat.zero_le _) (by omega) (.inl ⟨rfl, rfl⟩) (.inl ⟨rfl, rfl⟩)
          simpa [Addr.add_zero'] using this
      · rename_i lv' hv'
        simp only [E_bind, E_guard, E_ret] at h4
        obtain ⟨l, g1, h', g2, b1, b2, rfl⟩ := h4
        have b1 : (0 ≤ h' ∧ h' ≤ (xs.length : Int)) ∧ h'.toNat ≤ (seen n xs).length := by
          rw [Bool.and_eq_true] at b1
          exact ⟨by simpa [boundE] using b1.1, Nat.le_of_ble_eq_true b1.2⟩
        have b2 : 0 ≤ l ∧ l ≤ h' := by simpa using b2
        obtain ⟨y, hy, hyv⟩ := opdO_some R h3
        obtain ⟨kk, hkk⟩ := idx_sound hyv g2
        refine cut (hv' := some hv') rfl g1 b2.1 b2.2 b1.2 (by omega) (.inr ⟨kk, by rw [hy]; simp [hkk, Int.toNat_of_nonneg b1.1.1]⟩) rfl
      · rename_i lv'
        simp only [E_bind, E_guard, E_ret] at h4
        obtain ⟨l, g1, b1, rfl⟩ := h4
        have b1 : (seen n xs).length ≤ xs.length ∧ 0 ≤ l ∧ l ≤ ((seen n xs).length : Int) := by
          rw [Bool.and_eq_true] at b1
          exact ⟨Nat.le_of_ble_eq_true b1.1, by simpa [boundE] using b1.2⟩
        have hsn : (seen n xs).length = n.getD len := by
          cases n with
          | none => exact hlen.symm
          | some j =>
            show (xs.take j).length = j
            rw [List.length_take]
            have : j ≤ len := by
              cases bb with
              | none => have := hv2.2.2; have : j = 0 := this; omega
              | some g => exact hv2.2.1
            omega
        refine cut (h' := ((seen n xs).length : Int)) (hv' := none) rfl g1 b1.2.1 b1.2.2 (by omega) (by omega) (.inl ⟨opdO_none h3, by rw [Int.toNat_natCast, hsn]⟩) (by rw [Int.toNat_natCast, List.take_length])
    · exact (E_fail.1 h4).elim
  · exact (E_fail.1 h4).elim
end
end
end Go.Proofs.YtchdegcfohegfaaE
