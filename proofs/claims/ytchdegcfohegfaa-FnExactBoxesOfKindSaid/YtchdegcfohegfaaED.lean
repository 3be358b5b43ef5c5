/- The engine, part D: rows with own rows in them: what goes over, append, loads, stores. -/
import Derived.Test.YtchdegcfohegfaaE15
namespace Go.Proofs.YtchdegcfohegfaaE
set_option linter.unusedVariables false
set_option linter.unusedSimpArgs false
set_option linter.unusedSectionVars false
open Pr

section
variable {P : Program} {ti : TI} {N : Nat} {X Y : Nat → Prop} {w0 w w' : World} {β β' : Beta} {σ σ' : St} {a a' : Act}

theorem nodupN_nd : ∀ {ls : List Nat}, nodupN ls = true → ls.Nodup
  | [], _ => List.nodup_nil
  | x :: xs, h => by
    simp only [nodupN, Bool.and_eq_true, Bool.not_eq_true'] at h
    refine List.nodup_cons.2 ⟨fun hm => ?_, nodupN_nd h.2⟩
    rw [memN_iff.2 hm] at h
    cases h.1

theorem refs_app (a b : List AVal) : refsOf (.agg (a ++ b)) = refsOf (.agg a) ++ refsOf (.agg b) := by
  induction a with
  | nil => rfl
  | cons x a ih =>
    show refsOf x ++ refsOf (.agg (a ++ b)) = (refsOf x ++ refsOf (.agg a)) ++ refsOf (.agg b)
    rw [ih, List.append_assoc]

theorem absC_sound (R : Rel ti N X Y w0 β σ a w) {Z : Nat → Prop} : ∀ {t : Ty} {cs : List AVal} {x : T t} {rest : List AVal} {us : List Value}, (absC ti t cs).E σ (x, rest) → VRs β w Z cs us → (refsOf (.agg cs)).Nodup →
    ∃ c1 us' cs1 F, us = c1 ++ us' ∧ cs = cs1 ++ rest ∧ VRs β w Z rest us' ∧ RdO w t x c1 F ∧ F.Nodup ∧ ∀ f ∈ F, ∃ m ∈ refsOf (.agg cs1), Owns β σ m f := by
  intro t
  induction t with
  | pair p q hp hq =>
    intro cs x rest us h hv hn
    simp only [absC, E_bind, E_ret] at h
    obtain ⟨⟨x1, r1⟩, h1, ⟨x2, r2⟩, h2, h3⟩ := h
    cases h3
    obtain ⟨c1, us1, cs1, F1, rfl, rfl, v1, q1, n1, o1⟩ := hp h1 hv hn
    rw [refs_app, List.nodup_append] at hn
    obtain ⟨c2, us2, cs2, F2, rfl, rfl, v2, q2, n2, o2⟩ := hq h2 v1 hn.2.1
    refine ⟨c1 ++ c2, us2, cs1 ++ cs2, F1 ++ F2, (List.append_assoc ..).symm, (List.append_assoc ..).symm, v2, ⟨c1, c2, F1, F2, rfl, rfl, q1, q2⟩, List.nodup_append.2 ⟨n1, n2, fun f hf f' hf' e => ?_⟩, fun f hf => ?_⟩
    · subst e
      obtain ⟨m1, k1, k2⟩ := o1 f hf
      obtain ⟨m2, k3, k4⟩ := o2 f hf'
      have := R.owns_apart k2 k4
      subst this
      refine hn.2.2 m1 k1 m1 ?_ rfl
      show m1 ∈ refsOf (.agg (cs2 ++ r2))
      rw [refs_app]
      exact List.mem_append_left _ k3
    · rw [refs_app]
      rcases List.mem_append.1 hf with hf | hf
      · obtain ⟨m, k1, k2⟩ := o1 f hf
        exact ⟨m, List.mem_append_left _ k1, k2⟩
      · obtain ⟨m, k1, k2⟩ := o2 f hf
        exact ⟨m, List.mem_append_right _ k1, k2⟩
  | slice e t _ =>
    intro cs x rest us h hv hn
    cases cs with
    | nil => simp only [absC] at h; exact (E_fail.1 h).elim
    | cons c cs =>
      obtain ⟨u, us', rfl, hu, _, hv'⟩ := hv
      have fin : ∀ {F}, rest = cs → RdO w (.slice e t) x [u] F → F.Nodup → (∀ f ∈ F, ∃ m ∈ refsOf (.agg [c]), Owns β σ m f) →
          ∃ c1 us2 cs1 F, u :: us' = c1 ++ us2 ∧ c :: cs = cs1 ++ rest ∧ VRs β w Z rest us2 ∧ RdO w (.slice e t) x c1 F ∧ F.Nodup ∧ ∀ f ∈ F, ∃ m ∈ refsOf (.agg cs1), Owns β σ m f := by
        rintro F rfl h1 h2 h3
        exact ⟨[u], us', [c], F, rfl, rfl, hv', h1, h2, h3⟩
      simp only [absC] at h
      split at h
      · rw [E_ret] at h
        cases h
        exact fin (F := []) rfl ⟨none, 0, by rw [show u = _ from hu]; rfl, rfl, rfl⟩ List.nodup_nil (by simp)
      · rename_i m
        rw [E_get] at h
        have hmem : m ∈ refsOf (.agg [AVal.ref m none]) := List.mem_singleton.2 rfl
        obtain ⟨b, cc, len, hb, hval⟩ := hu
        split at h
        · rename_i own ys hro
          cases hc : (own && noSlice t) with
          | false => rw [hc] at h; exact (E_fail.1 h).elim
          | true =>
          rw [hc] at h
          simp only [cond_true, E_ret] at h
          cases h
          rw [Bool.and_eq_true] at hc
          obtain ⟨b', hb', ⟨hl0, hrow⟩, hown, _, _⟩ := rowOf_sound R hro
          rw [hb] at hb'
          cases hb'
          have hown := hown hc.1
          have hlen : len = List.length x := hl0
          clear hl0
          cases b with
          | none =>
            obtain ⟨rfl, h1, _⟩ := hval
            have hy : x = [] := hrow
            subst hy
            exact fin (F := []) rfl ⟨none, 0, rfl, rfl, rfl⟩ List.nodup_nil (by simp)
          | some g =>
            obtain ⟨rfl, h1, h2⟩ := hval
            obtain ⟨cur, F, g1, g2, g3, g4, g5, _⟩ := hrow
            refine fin (F := [g]) rfl ⟨some g, cc, ?_, cur, [], g1, g2, g3, g4, rowRd_RdO hc.2 g5, rfl⟩ (by simp) ?_
            · rw [Option.getD_none, hlen]; rfl
            · intro f hf
              rw [List.mem_singleton.1 hf]
              exact ⟨m, hmem, .inl ⟨hown, cc, len, hb⟩⟩
        · split at h
          · rename_i e' t' k ys hcell2
            cases hc : (Nat.beq e' e && Nat.beq k 0) with
            | false => rw [hc] at h; exact (E_fail.1 h).elim
            | true =>
            rw [hc] at h
            simp only [cond_true] at h
            rw [Bool.and_eq_true] at hc
            obtain rfl := Nat.eq_of_beq_eq_true hc.1
            obtain rfl := Nat.eq_of_beq_eq_true hc.2
            split at h
            · rename_i zs hz
              rw [E_ret] at h
              cases h
              obtain ⟨rfl, rfl⟩ := encRow_spec hz
              have ho := R.obj m
              rw [hcell2] at ho
              obtain ⟨b', hb', hl0, _, hd⟩ := ho
              rw [hb] at hb'
              cases hb'
              have hlen : len = List.length x := hl0
              clear hl0
              have hdp : isDeep (look σ m) = true := by rw [hcell2]; rfl
              cases b with
              | none =>
                obtain ⟨rfl, h1, _⟩ := hval
                have hy : x = [] := hd
                subst hy
                exact fin (F := []) rfl ⟨none, 0, rfl, rfl, rfl⟩ List.nodup_nil (by simp)
              | some g =>
                obtain ⟨rfl, h1, h2⟩ := hval
                obtain ⟨d1, _, cur, d2, d3, d4, d5, F, d6, d7, d8⟩ := hd
                rw [Nat.zero_mul, List.drop_zero, List.drop_zero] at d6
                refine fin (F := g :: F) rfl ⟨some g, cc, ?_, cur, F, d2, d3, d4, d5, d6, rfl⟩ (List.nodup_cons.2 ⟨fun hm => d1 (d8 g hm), d7⟩) ?_
                · rw [Option.getD_none, hlen]; rfl
                · intro f hf
                  rcases List.mem_cons.1 hf with rfl | hf
                  · exact ⟨m, hmem, .inl ⟨isDeep_own hdp, cc, len, hb⟩⟩
                  · exact ⟨m, hmem, .inr ⟨hdp, d8 f hf⟩⟩
            · exact (E_fail.1 h).elim
          · exact (E_fail.1 h).elim
      · exact (E_fail.1 h).elim
  | vslice e t _ => intro cs x rest us h; cases cs <;> (simp only [absC] at h; exact (E_fail.1 h).elim)
  | _ =>
    intro cs x rest us h hv hn
    cases cs with
    | nil => simp only [absC] at h; exact (E_fail.1 h).elim
    | cons c cs =>
      obtain ⟨u, us', rfl, hu, _, hv'⟩ := hv
      simp only [absC] at h
      split at h
      · rename_i y hy
        rw [E_ret] at h
        cases h
        obtain ⟨F, hF, _⟩ := Rd_enc1 hy hu
        exact ⟨[u], us', [c], [], rfl, rfl, hv', ⟨hF.1, rfl⟩, List.nodup_nil, by simp⟩
      · exact (E_fail.1 h).elim

theorem absAll_sound (R : Rel ti N X Y w0 β σ a w) {Z : Nat → Prop} {t : Ty} : ∀ {n : Nat} {cs : List AVal} {xs : List (T t)} {us : List Value}, (absAll ti t n cs).E σ xs → VRs β w Z cs us → (refsOf (.agg cs)).Nodup →
    ∃ F, rowR (RdO w t) xs us F ∧ F.Nodup ∧ (∀ f ∈ F, ∃ m ∈ refsOf (.agg cs), Owns β σ m f) ∧ xs.length = n
  | 0, cs, xs, us, h, hv, hn => by
    simp only [absAll] at h
    split at h
    · rw [E_ret] at h
      subst h
      have : us = [] := hv
      subst this
      exact ⟨[], ⟨rfl, rfl⟩, List.nodup_nil, by simp, rfl⟩
    · exact (E_fail.1 h).elim
  | n + 1, cs, xs, us, h, hv, hn => by
    simp only [absAll, E_bind, E_ret] at h
    obtain ⟨⟨x, r⟩, h1, ys, h2, rfl⟩ := h
    obtain ⟨c1, us1, cs1, F1, rfl, rfl, v1, q1, n1, o1⟩ := absC_sound R h1 hv hn
    have hn' := hn
    rw [refs_app, List.nodup_append] at hn'
    obtain ⟨F2, q2, n2, o2, hl⟩ := absAll_sound R h2 v1 hn'.2.1
    refine ⟨F1 ++ F2, ⟨c1, us1, F1, F2, rfl, rfl, q1, q2⟩, List.nodup_append.2 ⟨n1, n2, fun f hf f' hf' e => ?_⟩, fun f hf => ?_, by rw [List.length_cons, hl]⟩
    · subst e
      obtain ⟨m1, k1, k2⟩ := o1 f hf
      obtain ⟨m2, k3, k4⟩ := o2 f hf'
      have := R.owns_apart k2 k4
      subst this
      exact hn'.2.2 m1 k1 m1 k3 rfl
    · rw [refs_app]
      rcases List.mem_append.1 hf with hf | hf
      · obtain ⟨m, k1, k2⟩ := o1 f hf
        exact ⟨m, List.mem_append_left _ k1, k2⟩
      · obtain ⟨m, k1, k2⟩ := o2 f hf
        exact ⟨m, List.mem_append_right _ k1, k2⟩

theorem locsOf_deads : ∀ ls : List Loc, locsOf (deads ls) = ls
  | [] => rfl
  | l :: ls => by show l :: locsOf (deads ls) = _; rw [locsOf_deads ls]
theorem look_deads : ∀ {ls : List Loc} {σ : St} {l : Loc}, (l ∈ ls ∧ look (put σ (deads ls)) l = .dead) ∨ (l ∉ ls ∧ look (put σ (deads ls)) l = look σ l)
  | [], σ, l => .inr ⟨by simp, rfl⟩
  | x :: ls, σ, l => by
    show (_ ∧ look (put σ ((x, .dead) :: deads ls)) l = .dead) ∨ (_ ∧ look (put σ ((x, .dead) :: deads ls)) l = look σ l)
    rw [put_cons]
    rcases look_deads (ls := ls) (σ := (x, .dead) :: σ) (l := l) with ⟨h1, h2⟩ | ⟨h1, h2⟩
    · exact .inl ⟨List.mem_cons_of_mem _ h1, h2⟩
    · by_cases e : x = l
      · subst e
        exact .inl ⟨List.mem_cons_self .., by rw [h2, look_cons, if_pos rfl]⟩
      · refine .inr ⟨fun h => ?_, by rw [h2, look_cons, if_neg e]⟩
        rcases List.mem_cons.1 h with e2 | h
        · exact e e2.symm
        · exact h1 h

/-- What append does to memory: rows of cells. -/
theorem append_run (hti : TiOk P ti) {t e ty : TypeId} (k : (ti.at t).ud = .slice e) {B : Option Nat} {n cap m c2 : Nat} {ad : Addr} {news : List Value} (hnc : n ≤ cap) (hcm : cap ≤ maxLen) (hB0 : B = none → n = 0 ∧ cap = 0)
    {cur : Array Value} (hB1 : ∀ g, B = some g → w.heap[g]? = some (.cells cur e (0, 0)) ∧ cur.size = cap * sz (ti.at e).ty)
    (hat : At w ad news) (hnl : news.length = m * sz (ti.at e).ty) (hn1 : ∀ u ∈ news, u.oneCell' = true) (hm : 0 < m) (hold1 : B ≠ none → ∀ u ∈ cur.toList.take (n * sz (ti.at e).ty), u.oneCell' = true) (hbd : (n + m) * (ti.at e).bytes ≤ 140737488355328) :
    ∃ (g' cap' : Nat) (cur' : Array Value) (w' : World), (Builtin.append_ #[t, t] ty #[.slice (B.map fun g => ⟨g, 0, none⟩) n cap, .slice (some ad) m c2]).run P w = .ok (.slice (some ⟨g', 0, none⟩) (n + m) cap') w' ∧
      w.heap.size ≤ w'.heap.size ∧ w'.os = w.os ∧ w'.tape = w.tape ∧ w'.output = w.output ∧ (∀ k, k < w.heap.size → B ≠ some k → w'.heap[k]? = w.heap[k]?) ∧ (B = some g' ∨ w.heap.size ≤ g') ∧
      w'.heap[g']? = some (.cells cur' e (0, 0)) ∧ cur'.size = cap' * sz (ti.at e).ty ∧ n + m ≤ cap' ∧ cap' ≤ maxLen ∧ cur'.toList.take ((n + m) * sz (ti.at e).ty) = (if B = none then [] else cur.toList.take (n * sz (ti.at e).ty)) ++ news := by
  have hu : P.underlying t = _ := hti.slice k
  have hke := hti.sl t e k
  obtain ⟨i, z, i1, i2, i3, i4, i5⟩ := (hti.td e hke).info
  have hby := hti.by0 e hke
  have hsp := sz_pos (ti.at e).ty
  have hzs : z.cells.size = sz (ti.at e).ty := by rw [i5]; simpa using zeroC_len (ti.at e).ty
  have hmax : n + m ≤ 140737488355328 := by
    have : (n + m) * 1 ≤ (n + m) * (ti.at e).bytes := Nat.mul_le_mul_left _ hby
    omega
  have hml : ∀ k : Nat, k ≤ 140737488355328 → k ≤ maxLen := fun k h => by simp only [maxLen]; omega
  have hgl : ∀ (m n : Nat), (Builtin.zeroCells z.cells (m - n)).size = (m - n) * sz (ti.at e).ty := fun m n => by rw [zeroCells_size, hzs]
  cases hB2 : B with
  | none =>
    obtain ⟨rfl, rfl⟩ := hB0 hB2
    have hr := run_append_nil (P := P) w t ty e i z hu i1 i4 ad m c2 news (by rw [i2]; exact hnl) hat (by omega) (by omega) (by rw [i3]; simp only [Nat.zero_add] at hbd; omega)
    have hge := grownCap_ge w m 0 e
    have hcmx := grownCap_le_maxLen w m 0 e (hml _ (by omega))
    refine ⟨w.heap.size, grownCap w m 0 e, _, w.drew.alloc (.cells (news.toArray ++ Builtin.zeroCells z.cells (grownCap w m 0 e - m)) e), ?_, by simp, rfl, rfl, rfl, fun k hk _ => RowKit.Below.heap_alloc w.drew _ k hk, .inr (Nat.le_refl _), alloc_new w.drew _, ?_, by simpa using hge, hcmx, ?_⟩
    · rw [Nat.zero_add]; exact hr
    · rw [Array.size_append, hgl, List.size_toArray, hnl, ← Nat.add_mul]
      congr 1
      show m + (grownCap w m 0 e - m) = grownCap w m 0 e
      omega
    · rw [if_pos rfl, List.nil_append, Nat.zero_add, Array.toList_append, ← hnl]
      exact List.take_left
  | some g =>
    obtain ⟨q1, q2⟩ := hB1 g hB2
    have hold1 := hold1 (by rw [hB2]; simp)
    have hxc : n * sz (ti.at e).ty ≤ cur.size := by rw [q2]; exact Nat.mul_le_mul_right _ hnc
    have hcl : (cur.toList.take (n * sz (ti.at e).ty)).length = n * sz (ti.at e).ty := by rw [List.length_take, Array.length_toList]; exact Nat.min_eq_left hxc
    by_cases hroom : n + m ≤ cap
    · have hfit : n * sz (ti.at e).ty + news.length ≤ cur.size := by rw [hnl, q2, ← Nat.add_mul]; exact Nat.mul_le_mul_right _ hroom
      have hr := run_append_room (P := P) w t ty e i hu i1 g n cap cur q1 ad m c2 news (by rw [i2]; exact hnl) hat hn1 hroom (by rw [i2]; exact hfit)
      rw [i2] at hr
      refine ⟨g, cap, _, w.setRow g (cur.toList.take (n * sz (ti.at e).ty) ++ news ++ cur.toList.drop (n * sz (ti.at e).ty + news.length)).toArray, ?_, by simp [World.setRow], rfl, rfl, rfl, fun k hk hne => setRow_other w g k _ (fun h => hne (by rw [h])), .inl rfl, setRow_heap w g cur _ e _ q1, ?_, hroom, hcm, ?_⟩
      · show (Builtin.append_ #[t, t] ty #[Value.slice (some ⟨g, 0, none⟩) n cap, Value.slice (some ad) m c2]).run P w = _
        rw [hr]
      · simp only [List.size_toArray, List.length_append, List.length_drop, Array.length_toList, hcl]
        rw [← q2]
        omega
      · have : (n + m) * sz (ti.at e).ty = (cur.toList.take (n * sz (ti.at e).ty) ++ news).length := by
          rw [List.length_append, hcl, hnl, Nat.add_mul]
        rw [if_neg (by simp), this]
        exact List.take_left
    · have holds : ∀ j v, (cur.toList.take (n * sz (ti.at e).ty))[j]? = some v → w.cell? ((⟨g, 0, none⟩ : Addr).add j) = some v := by
        have := At_array (off := 0) q1 (n * sz (ti.at e).ty)
        rwa [List.drop_zero] at this
      have hr := run_append_grow (P := P) w t ty e i z hu i1 i4 ⟨g, 0, none⟩ n cap _ (by rw [i2]; exact hcl) holds ad m c2 news (by rw [i2]; exact hnl) hat (by omega) (by omega) (growslice_fits (by omega) (by rw [i3]; exact hbd))
      have hge := grownCap_ge w (n + m) cap e
      have hcmx := grownCap_le_maxLen w (n + m) cap e (hml _ hmax)
      refine ⟨w.heap.size, grownCap w (n + m) cap e, _, w.drew.alloc (.cells ((cur.toList.take (n * sz (ti.at e).ty)).toArray ++ news.toArray ++ Builtin.zeroCells z.cells (grownCap w (n + m) cap e - (n + m))) e), ?_, by simp, rfl, rfl, rfl, fun k hk _ => RowKit.Below.heap_alloc w.drew _ k hk, .inr (Nat.le_refl _), alloc_new w.drew _, ?_, hge, hcmx, ?_⟩
      · show (Builtin.append_ #[t, t] ty #[Value.slice (some ⟨g, 0, none⟩) n cap, Value.slice (some ad) m c2]).run P w = _
        rw [hr]
      · rw [Array.size_append, Array.size_append, hgl, List.size_toArray, List.size_toArray, hcl, hnl, ← Nat.add_mul, ← Nat.add_mul]
        congr 1
        show n + m + (grownCap w (n + m) cap e - (n + m)) = grownCap w (n + m) cap e
        omega
      · have : (n + m) * sz (ti.at e).ty = (cur.toList.take (n * sz (ti.at e).ty) ++ news).length := by
          rw [List.length_append, hcl, hnl, Nat.add_mul]
        rw [if_neg (by simp), this, Array.toList_append, Array.toList_append]
        exact List.take_left

theorem VRs_ones {Z : Nat → Prop} : ∀ {cs : List AVal} {us : List Value}, VRs β w Z cs us → ∀ u ∈ us, u.oneCell' = true
  | [], us, h => by rw [show us = [] from h]; simp
  | c :: cs, _, ⟨u, us, rfl, _, h1, h2⟩ => fun v hv => by
    rcases List.mem_cons.1 hv with rfl | hv
    · exact h1
    · exact VRs_ones h2 v hv

section
variable (hti : TiOk P ti) (R : Rel ti N X Y w0 β σ a w) {o : Oper} {new : Loc} (hd : ∀ t, o.dst = some t → t < N) {ws : Ws}
  (hodd : ∀ t, new ≠ tmpL t) (hf : ∀ j, new ≤ j → j < new + 128 → β j = none)
include hti R hd hodd hf

theorem op_appendD (hodd2 : ∀ l, isObj (look σ l) = true → ∀ t, l ≠ tmpL t) {c : Call} {t e : TypeId} {s x : Operand} (hc : c = { callee := .builtin .append, args := #[s, x], argTypes := #[t, t] }) (ho : o.op = .call c) (k : (ti.at t).ud = .slice e) {xv : AVal} {l : Loc} {xs : List (T (ti.at e).ty)}
    (hcell : look σ l = .deep e (ti.at e).ty 0 xs none) (h1 : (opd s).E σ (.ref l none)) (h2 : (opd x).E σ xv) (h : ((appendD ti e new l xs xv).bind fun r => .ret (r.1 ++ setTmp o.dst r.2)).E σ ws) : Sound P ti N X Y w0 β σ a w o new ws := by
  rw [E_bind] at h
  obtain ⟨r, h3, h4⟩ := h
  rw [E_ret] at h4
  subst h4
  unfold appendD at h3
  split at h3
  · rename_i m
    rw [E_get] at h3
    split at h3
    · rename_i own e' cs hm
      cases hcnd : (Nat.beq e' e && (nodupN (refsOf (.agg cs)) && (!memN l (refsOf (.agg cs)) && Nat.blt 0 (cs.length / sz (ti.at e).ty)))) with
      | false => rw [hcnd] at h3; exact (E_fail.1 h3).elim
      | true =>
      rw [hcnd] at h3
      simp only [cond_true, E_bind, E_guard, E_ret] at h3
      obtain ⟨zs, h5, hbd, rfl⟩ := h3
      simp only [Bool.and_eq_true, Bool.not_eq_true'] at hcnd
      obtain ⟨hee, hnd, hml, hpos⟩ := hcnd
      obtain rfl := Nat.eq_of_beq_eq_true hee
      have hnd := nodupN_nd hnd
      have hpos : 0 < cs.length / sz (ti.at e').ty := Nat.le_of_ble_eq_true hpos
      have hlr : l ∉ refsOf (.agg cs) := fun hh => by rw [memN_iff.2 hh] at hml; cases hml
      have hbd : (xs.length + zs.length) * (ti.at e').bytes ≤ 140737488355328 := by simpa using hbd
      -- what is appended
      have hov := R.obj m
      rw [hm] at hov
      obtain ⟨bm, hbm, ⟨gm, vs, m1, m2, m3, m4, m5, m6⟩, _⟩ := hov
      obtain ⟨bm', cm, lm, hbm', hvm⟩ := opd_sound R h2
      rw [hbm] at hbm'
      cases hbm'
      have m1 : bm' = some gm := m1
      subst m1
      obtain ⟨hxe, _, _⟩ := hvm
      obtain ⟨F, q1, q2, q3, q4⟩ := absAll_sound R h5 m3 hnd
      have hcs : cs.length / sz (ti.at e').ty = cm := by rw [← VRs_len m3, m4]; exact Nat.mul_div_cancel _ (sz_pos _)
      rw [hcs] at q4 hpos
      have m5 : lm = cm := m5
      have m4 : vs.length = cm * sz (ti.at e').ty := m4
      -- the row that is appended to
      have hol := R.obj l
      rw [hcell] at hol
      obtain ⟨bl, hbl, hl0, hil, hdl⟩ := hol
      obtain ⟨B, cap, len, hbl', hvl⟩ := opd_sound R h1
      rw [hbl] at hbl'
      cases hbl'
      have hll : len = xs.length := hl0
      clear hl0
      have hdeep : isDeep (look σ l) = true := by rw [hcell]; rfl
      have hbase : ∃ capv F0, ∃ cur : Array Value, a.eval s = .slice (B.map fun g => ⟨g, 0, none⟩) xs.length capv ∧ xs.length ≤ capv ∧ capv ≤ maxLen ∧ (B = none → xs.length = 0 ∧ capv = 0) ∧
          (∀ g, B = some g → w.heap[g]? = some (.cells cur e' (0, 0)) ∧ cur.size = capv * sz (ti.at e').ty) ∧ rowR (RdO w (ti.at e').ty) xs (if B = none then [] else cur.toList.take (xs.length * sz (ti.at e').ty)) F0 ∧ F0.Nodup ∧ (∀ f ∈ F0, f ∈ β.inn l) ∧ (∀ g, B = some g → g ∉ β.inn l) := by
        cases B with
        | none =>
          obtain ⟨e1, e2, _⟩ := hvl
          have hx0 : xs = [] := hdl
          subst hx0
          exact ⟨0, [], #[], e1, Nat.le_refl _, Nat.zero_le _, fun _ => ⟨rfl, rfl⟩, fun g hg => (by cases hg), ⟨rfl, rfl⟩, List.nodup_nil, by simp, fun g hg => (by cases hg)⟩
        | some g =>
          obtain ⟨e1, e2, e3⟩ := hvl
          obtain ⟨d1, _, cur, d2, d3, d4, d5, F0, d6, d7, d8⟩ := hdl
          rw [Nat.zero_mul, List.drop_zero, List.drop_zero] at d6
          exact ⟨cap, F0, cur, by rw [e1, Option.getD_none, hll]; rfl, d3, d4, fun h => (by cases h), fun g' hg' => (by cases hg'; exact ⟨d2, d5⟩), by rw [if_neg (by simp)]; exact d6, d7, d8, fun g' hg' => (by cases hg'; exact d1)⟩
      obtain ⟨capv, F0, cur, hse, hnc, hcm, hB0, hB1, hr0, hn0, hi0, hBi⟩ := hbase
      have hat : At w ⟨gm, 0, none⟩ vs := by
        have := At_array (off := 0) m2 vs.length
        rw [List.drop_zero] at this
        simpa using this
      obtain ⟨g', cap', cur', w', p1, p2, p3, p4, p5, p6, p7, p8, p9, p10, p11, p12⟩ := append_run (ty := o.type) (m := cm) (c2 := cm) hti k hnc hcm hB0 hB1 hat m4 (VRs_ones m3) hpos (fun hB u hu => by
        rw [if_neg hB] at hr0
        exact rowR_all (fun _ _ _ h => RdO_one h) hr0 u hu) (by rw [← q4]; exact hbd)
      intro next Q hn
      have hfresh := hf0 hti R hd hodd hf
      let β' : Beta := ⟨fun l' => if l' = new then some (some g', cap', xs.length + zs.length) else β l', fun l' => if l' = new then β.inn l ++ F else β.inn l'⟩
      have hβ'n : β' new = some (some g', cap', xs.length + zs.length) := if_pos rfl
      have hβ'o : ∀ l', l' ≠ new → β' l' = β l' ∧ β'.inn l' = β.inn l' := fun l' h => ⟨if_neg h, if_neg h⟩
      have hβ'i : β'.inn new = β.inn l ++ F := if_pos rfl
      have hlnew : l ≠ new := by rintro rfl; rw [hfresh] at hbl; cases hbl
      have hputs : put σ (deads (refsOf (.agg cs)) ++ [(l, .dead), (new, .deep e' (ti.at e').ty 0 (xs ++ zs) none)]) = (new, .deep e' (ti.at e').ty 0 (xs ++ zs) none) :: (l, .dead) :: put σ (deads (refsOf (.agg cs))) := by
        rw [put_append, put_cons, put_cons, put_nil]
      have hlk : ∀ l', look ((new, .deep e' (ti.at e').ty 0 (xs ++ zs) none) :: (l, .dead) :: put σ (deads (refsOf (.agg cs)))) l' = if new = l' then .deep e' (ti.at e').ty 0 (xs ++ zs) none else if l = l' then .dead else look (put σ (deads (refsOf (.agg cs)))) l' := fun l' => by rw [look_cons, look_cons]
      -- the places behind
      have hkind : ∀ l', l' = new ∨ (l' ≠ new ∧ (look ((new, .deep e' (ti.at e').ty 0 (xs ++ zs) none) :: (l, .dead) :: put σ (deads (refsOf (.agg cs)))) l' = .dead)) ∨
          (l' ≠ new ∧ l' ≠ l ∧ l' ∉ refsOf (.agg cs) ∧ look ((new, .deep e' (ti.at e').ty 0 (xs ++ zs) none) :: (l, .dead) :: put σ (deads (refsOf (.agg cs)))) l' = look σ l') := by
        intro l'
        by_cases i1 : l' = new
        · exact .inl i1
        · right
          rw [hlk, if_neg (fun h => i1 h.symm)]
          by_cases i2 : l = l'
          · left; rw [if_pos i2]; exact ⟨i1, rfl⟩
          · rw [if_neg i2]
            rcases look_deads (ls := refsOf (.agg cs)) (σ := σ) (l := l') with ⟨h6, h7⟩ | ⟨h6, h7⟩
            · left; exact ⟨i1, h7⟩
            · right; exact ⟨i1, fun h => i2 h.symm, h6, h7⟩
      have hB_own : ∀ g, B = some g → Owns β σ l g := fun g hg => .inl ⟨isDeep_own hdeep, cap, len, by rw [hbl, hg]⟩
      have hnewown : ∀ g, g = g' ∨ g ∈ β.inn l ++ F → (Owns β σ l g ∨ ∃ m ∈ refsOf (.agg cs), Owns β σ m g) ∨ w.heap.size ≤ g := by
        rintro g (rfl | hg)
        · rcases p7 with h | h
          · exact .inl (.inl (hB_own g h))
          · exact .inr h
        · rcases List.mem_append.1 hg with hg | hg
          · exact .inl (.inl (.inr ⟨hdeep, hg⟩))
          · obtain ⟨m', k1, k2⟩ := q3 g hg
            exact .inl (.inr ⟨m', k1, k2⟩)
      have hO : ∀ l' g, Owns β' ((new, .deep e' (ti.at e').ty 0 (xs ++ zs) none) :: (l, .dead) :: put σ (deads (refsOf (.agg cs)))) l' g →
          (l' = new ∧ (g = g' ∨ g ∈ β.inn l ++ F)) ∨ (l' ≠ new ∧ l' ≠ l ∧ l' ∉ refsOf (.agg cs) ∧ Owns β σ l' g) := by
        intro l' g h
        rcases hkind l' with rfl | ⟨i1, i2⟩ | ⟨i1, i2, i3, i4⟩
        · left
          refine ⟨rfl, ?_⟩
          rcases h with ⟨_, cc, nn, hb⟩ | ⟨_, hb⟩
          · rw [hβ'n] at hb; cases hb; exact .inl rfl
          · rw [hβ'i] at hb; exact .inr hb
        · have := h.own; rw [i2] at this; cases this
        · right
          refine ⟨i1, i2, i3, ?_⟩
          unfold Owns at h ⊢
          rw [i4, (hβ'o l' i1).1, (hβ'o l' i1).2] at h
          exact h
      have hown1 : ∀ l' g, Owns β' ((new, .deep e' (ti.at e').ty 0 (xs ++ zs) none) :: (l, .dead) :: put σ (deads (refsOf (.agg cs)))) l' g → (∃ l0, Owns β σ l0 g) ∨ w.heap.size ≤ g := by
        intro l' g h
        rcases hO l' g h with ⟨_, h⟩ | ⟨_, _, _, h⟩
        · rcases hnewown g h with (h | ⟨m', _, h⟩) | h
          · exact .inl ⟨l, h⟩
          · exact .inl ⟨m', h⟩
          · exact .inr h
        · exact .inl ⟨l', h⟩
      have hBZ : ∀ g, Zs Y β σ w g → B ≠ some g := fun g hg hB => hg.no l (hB_own g hB)
      have hsame : ∀ g, Zs Y β σ w g → w'.heap[g]? = w.heap[g]? := fun g hg => p6 g hg.1.1 (hBZ g hg)
      have hinn : ∀ f, f ∈ β.inn l ++ F → f < w.heap.size ∧ B ≠ some f := by
        intro f hff
        rcases List.mem_append.1 hff with hff | hff
        · exact ⟨hil f hff, fun hB => hBi f hB hff⟩
        · obtain ⟨m', k1, k2⟩ := q3 f hff
          refine ⟨R.owns_lt k2, fun hB => ?_⟩
          have := R.owns_apart (hB_own f hB) k2
          subst this
          exact hlr k1
      have R2 : Rel ti N X Y w0 β' ((new, .deep e' (ti.at e').ty 0 (xs ++ zs) none) :: (l, .dead) :: put σ (deads (refsOf (.agg cs)))) a w' := by
        refine R.stepG ?_ ⟨p3.trans R.kept.os, p4.trans R.kept.tape, p5.trans R.kept.output, Nat.le_trans R.kept.size p2, fun kk hk hx => ?_⟩ p2 hsame hown1 ?_ R.size R.dfr ?_ ?_
        · intro l' b hb
          rw [(hβ'o l' (by rintro rfl; rw [hfresh] at hb; cases hb)).1]
          exact hb
        · refine (p6 kk (Nat.lt_of_lt_of_le hk R.kept.size) ?_).trans (R.kept.block kk hk hx)
          intro hB
          rcases R.owns_new (hB_own kk hB) with h | h
          · omega
          · exact hx h
        · have cross : ∀ l' g, (g = g' ∨ g ∈ β.inn l ++ F) → l' ≠ l → l' ∉ refsOf (.agg cs) → Owns β σ l' g → False := by
            intro l' g h h6 h7 h8
            rcases hnewown g h with (h | ⟨m', k1, h⟩) | h
            · exact h6 (R.owns_apart h8 h)
            · have := R.owns_apart h8 h
              subst this
              exact h7 k1
            · have := R.owns_lt h8; omega
          intro l1 l2 g h6 h7
          rcases hO l1 g h6 with ⟨i1, i2⟩ | ⟨i1, i2, i3, i4⟩ <;> rcases hO l2 g h7 with ⟨j1, j2⟩ | ⟨j1, j2, j3, j4⟩
          · rw [i1, j1]
          · exact (cross l2 g i2 j2 j3 j4).elim
          · exact (cross l1 g j2 i2 i3 i4).elim
          · exact R.owns_apart i4 j4
        · intro tt v hv
          rcases hkind (tmpL tt) with e1 | ⟨i1, i2⟩ | ⟨i1, i2, i3, i4⟩
          · exact absurd e1.symm (hodd tt)
          · rw [i2] at hv; cases hv
          · rw [i4] at hv; exact .inl ⟨hv, rfl⟩
        · intro l'
          rcases hkind l' with rfl | ⟨i1, i2⟩ | ⟨i1, i2, i3, i4⟩
          · right
            rw [hlk, if_pos rfl]
            refine ⟨_, hβ'n, by rw [List.length_append], fun f hff => ?_, ?_⟩
            · rw [hβ'i] at hff
              exact Nat.lt_of_lt_of_le (hinn f hff).1 p2
            · show g' ∉ β'.inn l' ∧ _
              rw [hβ'i]
              refine ⟨fun hg => ?_, Nat.zero_le _, cur', p8, ?_, p11, p9, F0 ++ F, ?_, ?_, ?_⟩
              · rcases p7 with h | h
                · exact (hinn g' hg).2 h
                · have := (hinn g' hg).1; omega
              · rw [List.length_append, q4]; exact p10
              · rw [Nat.zero_mul, List.drop_zero, List.drop_zero, List.length_append, q4, p12]
                have hmv : ∀ f, f ∈ β.inn l ++ F → w'.heap[f]? = w.heap[f]? := fun f hff => p6 f (hinn f hff).1 (hinn f hff).2
                refine rowR_append (rowR_imp (fun y ds G hG hy => RdO_move (fun f hff => hmv f (List.mem_append_left _ (hi0 f (hG f hff)))) hy) hr0) (rowR_imp (fun y ds G hG hy => RdO_move (fun f hff => hmv f (List.mem_append_right _ (hG f hff))) hy) q1)
              · refine List.nodup_append.2 ⟨hn0, q2, fun f hff f' hff' e1 => ?_⟩
                subst e1
                obtain ⟨m', k1, k2⟩ := q3 f hff'
                have := R.owns_apart (.inr ⟨hdeep, hi0 f hff⟩) k2
                subst this
                exact hlr k1
              · intro f hff
                rcases List.mem_append.1 hff with hff | hff
                · exact List.mem_append_left _ (hi0 f hff)
                · exact List.mem_append_right _ hff
          · right; rw [i2]; trivial
          · left
            refine ⟨i4, fun _ => (hβ'o l' i1).2, fun g hg => p6 g (R.owns_lt hg) (fun hB => ?_)⟩
            exact i2 (R.owns_apart hg (hB_own g hB))
      have R4 := R2.set (d := o.dst) (v := .ref new none) (u := .slice (some ⟨g', 0, none⟩) (xs.length + cm) cap') hd ⟨some g', cap', xs.length + zs.length, hβ'n, by rw [Option.getD_none, q4], Nat.le_refl _, by rw [q4]; exact p10⟩
      rw [← hputs, ← put_append] at R4
      refine wp_val (u := .slice (some ⟨g', 0, none⟩) (xs.length + cm) cap') ?_ (hn _ _ _ R4 (fun l' hl' => (hβ'o l' (by rintro rfl; exact hl' ⟨Nat.le_refl _, Nat.lt_add_of_pos_right (by decide)⟩)).1))
      subst hc
      have hrun : (Builtin.append_ #[t, t] o.type #[a.eval s, a.eval x]).run P w = .ok (.slice (some ⟨g', 0, none⟩) (xs.length + cm) cap') w' := by
        rw [hse, hxe, Option.getD_none, m5]
        exact p1
      simp only [execOp, ho, resolve, invoke, builtin, Sem.run_bind, Sem.run_pure, Result.andThen_ok, List.map_toArray, List.map_cons, List.map_nil, hrun]
    · exact (E_fail.1 h3).elim
  · exact (E_fail.1 h3).elim

theorem op_appendX (hodd2 : ∀ l, isObj (look σ l) = true → ∀ t, l ≠ tmpL t) {c : Call} {t e : TypeId} {s x : Operand} (hc : c = { callee := .builtin .append, args := #[s, x], argTypes := #[t, t] }) (ho : o.op = .call c) (k : (ti.at t).ud = .slice e) {sv xv : AVal}
    (h1 : (opd s).E σ sv) (h2 : (opd x).E σ xv) (h : ((appendX ti e new sv xv).bind fun r => .ret (r.1 ++ setTmp o.dst r.2)).E σ ws) : Sound P ti N X Y w0 β σ a w o new ws := by
  have old : ((appendA ti e new sv xv).bind fun r => .ret (r.1 ++ setTmp o.dst r.2)).E σ ws → Sound P ti N X Y w0 β σ a w o new ws := op_append hti R hd hodd hf hodd2 hc ho k h1 h2
  unfold appendX at h
  split at h
  · rename_i l
    rw [E_bind] at h
    obtain ⟨r, h3, h4⟩ := h
    rw [E_get] at h3
    split at h3
    · rename_i e' t' kk xs hcell
      cases hcnd : (Nat.beq e' e && Nat.beq kk 0) with
      | false => rw [hcnd] at h3; exact (E_fail.1 h3).elim
      | true =>
      rw [hcnd] at h3
      simp only [cond_true] at h3
      rw [Bool.and_eq_true] at hcnd
      obtain rfl := Nat.eq_of_beq_eq_true hcnd.1
      obtain rfl := Nat.eq_of_beq_eq_true hcnd.2
      split at h3
      · rename_i ys hz
        have hgen : ∀ {t'' : Ty} (he : t' = t''), look σ l = .deep e' t'' 0 (he ▸ xs) none := by rintro _ rfl; exact hcell
        obtain ⟨he, hzz⟩ := encRow_spec hz
        have hcell2 := hgen he
        rw [← hzz] at hcell2
        exact op_appendD hti R hd hodd hf hodd2 hc ho k hcell2 h1 h2 (E_bind.2 ⟨r, h3, h4⟩)
      · exact (E_fail.1 h3).elim
    · exact old (E_bind.2 ⟨r, h3, h4⟩)
  · exact old h
end

/-! ### elements are opened and closed -/
theorem Rel.same (R : Rel ti N X Y w0 β σ a w) (h : ∀ l, look σ' l = look σ l) : Rel ti N X Y w0 β σ' a w :=
  (R.less (fun t v hv => by rw [← h]; exact hv) (fun l => .inl (h l))).1

/-- An element of a row with own rows in it, and what lies around it. -/
theorem deep_split {Z : Nat → Prop} {e : TypeId} {t : Ty} {k : Nat} {xs : List (T t)} {g cap len : Nat} {I : List Nat} {i : Nat} (h : DeepOk β w Z e t k xs none (some g, cap, len) I) (hi : i < xs.length) (hk : k ≤ i) :
    ∃ (cur : Array Value) (c1 us c3 : List Value) (F1 F2 F3 : List Nat), w.heap[g]? = some (.cells cur e (0, 0)) ∧ xs.length ≤ cap ∧ cap ≤ maxLen ∧ cur.size = cap * sz t ∧ (cur.toList.take (xs.length * sz t)).drop (k * sz t) = c1 ++ us ++ c3 ∧
      rowR (RdO w t) ((xs.drop k).take (i - k)) c1 F1 ∧ RdO w t (xs.getD i (dflt t)) us F2 ∧ rowR (RdO w t) (xs.drop (i + 1)) c3 F3 ∧ (F1 ++ F2 ++ F3).Nodup ∧ (∀ f ∈ F1 ++ F2 ++ F3, f ∈ I) ∧ g ∉ I ∧ (∀ f ∈ I, f < w.heap.size) ∧ len = xs.length ∧
      At w ⟨g, i * sz t, none⟩ us ∧ (cur.toList.drop (i * sz t)).take (sz t) = us := by
  obtain ⟨hlen, hil, h1, hkx, cur, h3, h4, h5, h6, F, h7, h8, h9⟩ := h
  have hi2 : i - k < (xs.drop k).length := by rw [List.length_drop]; omega
  obtain ⟨c1, c2, c3, F1, F2, F3, e1, e2, r1, r2, r3, l1, l2⟩ := rowR_mid (n := sz t) (fun _ _ _ => RdO_len) (dflt t) h7 hi2
  have hx : (xs.drop k).getD (i - k) (dflt t) = xs.getD i (dflt t) := by
    rw [List.getD_eq_getElem?_getD, List.getD_eq_getElem?_getD, List.getElem?_drop, show k + (i - k) = i by omega]
  rw [hx] at r2
  rw [List.drop_drop, show k + (i - k + 1) = i + 1 by omega] at r3
  have hc : (cur.toList.drop (i * sz t)).take (sz t) = c2 := by
    have hki : k * sz t + (i - k) * sz t = i * sz t := by rw [← Nat.add_mul]; congr 1; omega
    have hle : i * sz t + sz t ≤ xs.length * sz t := by rw [← Nat.succ_mul]; exact Nat.mul_le_mul_right _ hi
    have e3 : ((cur.toList.take (xs.length * sz t)).drop (i * sz t)).take (sz t) = c2 := by
      rw [← hki, ← List.drop_drop, e1, List.append_assoc, ← l1, List.drop_left, ← l2, List.take_left]
    rw [← e3, List.drop_take, List.take_take, Nat.min_eq_left (by omega)]
  refine ⟨cur, c1, c2, c3, F1, F2, F3, h3, h4, h5, h6, e1, r1, r2, r3, by rw [← e2]; exact h8, fun f hf => h9 f (by rw [e2]; exact hf), h1, hil, hlen, ?_, hc⟩
  have ha := At_array (off := i * sz t) h3 (sz t)
  rwa [hc] at ha

theorem Rel.openR (R : Rel ti N X Y w0 β σ a w) {l new l' : Loc} {e : TypeId} {t : Ty} {k i g cap len : Nat} {xs : List (T t)} {as : List AVal} {os : Ws} (hcell : look σ l = .deep e t k xs none) (hoddl : ∀ t, l ≠ tmpL t)
    (hb : β l = some (some g, cap, len)) (hi : i < xs.length) (hk : k ≤ i) (hout : outCellsD t (xs.getD i (dflt t)) new = (as, os, l')) (hodd : ∀ i t, new + 2 * i ≠ tmpL t) (hf : ∀ j, new ≤ j → j < new + 128 → β j = none) (hle : l' ≤ new + 128) :
    ∃ (β' : Beta) (us : List Value), (∀ l, ¬ (new ≤ l ∧ l < new + 128) → β' l = β l) ∧ Rel ti N X Y w0 β' (put (put σ [(l, .deep e t k xs (some (i, as)))]) os) a w ∧ (∀ Z, VRs β' w Z as us) ∧ us.length = sz t ∧ At w ⟨g, i * sz t, none⟩ us := by
  have hob := R.obj l
  rw [hcell] at hob
  obtain ⟨b, hb', hdk⟩ := hob
  rw [hb] at hb'
  cases hb'
  obtain ⟨cur, c1, us, c3, F1, F2, F3, h1, h2, h3, h4, h5, h6, h7, h8, h9, h10, h11, h12, h13, h14, h15⟩ := deep_split hdk hi hk
  have hdeep : isDeep (look σ l) = true := by rw [hcell]; rfl
  have hnd2 : F2.Nodup := (List.nodup_append.1 (List.nodup_append.1 h9).1).2.1
  obtain ⟨bs, p1, p2, p3, p4⟩ := outCellsD_sound (ti := ti) hout h7 hnd2
  subst p2
  have hbl : 2 * bs.length ≤ 128 := by rw [p1] at hle; exact Nat.le_of_add_le_add_left hle
  have hfr : ∀ j, j < bs.length → β (new + 2 * j) = none := fun j hj => hf _ (Nat.le_add_right _ _) (Nat.add_lt_add_left (by omega) _)
  have hlk : ∀ l0, look (put σ [(l, .deep e t k xs (some (i, as)))]) l0 = if l = l0 then .deep e t k xs (some (i, as)) else look σ l0 := fun l0 => look_cons _ _ _ _
  let β1 : Beta := ⟨β.f, fun m => if m = l then F1 ++ F3 else β.inn m⟩
  have hβ1l : β1.inn l = F1 ++ F3 := if_pos rfl
  have hβ1o : ∀ m, m ≠ l → β1.inn m = β.inn m := fun m h => if_neg h
  have hsub : ∀ f ∈ F1 ++ F3, f ∈ β.inn l := fun f hf => h10 f (by
    rcases List.mem_append.1 hf with h | h
    · exact List.mem_append_left _ (List.mem_append_left _ h)
    · exact List.mem_append_right _ h)
  have hsh : ∀ l0 g0, Owns β1 (put σ [(l, .deep e t k xs (some (i, as)))]) l0 g0 → Owns β σ l0 g0 := by
    intro l0 g0 h
    by_cases e0 : l0 = l
    · subst e0
      rcases h with ⟨_, cc, nn, h⟩ | ⟨_, h⟩
      · exact .inl ⟨isDeep_own hdeep, cc, nn, h⟩
      · rw [hβ1l] at h; exact .inr ⟨hdeep, hsub g0 h⟩
    · unfold Owns at h ⊢
      rw [hlk, if_neg (fun h => e0 h.symm), hβ1o l0 e0] at h
      exact h
  have hnl : ∀ j, j < bs.length → l ≠ new + 2 * j := fun j hj e0 => by rw [e0, hfr j hj] at hb; cases hb
  have hβ'l : extDB β1 new bs l = some (some g, cap, len) ∧ (extDB β1 new bs).inn l = F1 ++ F3 := by
    rcases extDB_at (β := β1) bs new l with ⟨j, q, q1, q2, _⟩ | ⟨_, q2, q3⟩
    · exact absurd q2 (hnl j (List.getElem?_eq_some_iff.1 q1).1)
    · exact ⟨by rw [q2]; exact hb, by rw [q3, hβ1l]⟩
  have hbs : ∀ (j : Nat) p, bs[j]? = some p → extDB β1 new bs (new + 2 * j) = some p.1 := by
    intro j p hp
    rcases extDB_at (β := β1) bs new (new + 2 * j) with ⟨j2, q, q1, q2, q3, _⟩ | ⟨q1, _⟩
    · have : j = j2 := Nat.eq_of_mul_eq_mul_left (show 0 < 2 by decide) (Nat.add_left_cancel q2)
      subst this
      rw [hp] at q1
      cases q1
      exact q3
    · exact absurd rfl (q1 j (List.getElem?_eq_some_iff.1 hp).1)
  obtain ⟨R2, _⟩ := R.addD (w' := w) (ws := [(l, .deep e t k xs (some (i, as)))]) (β1 := β1) (fun _ => rfl) p3 hodd hfr hnd2 (.refl _ _) hsh (fun f hff => .inl ⟨⟨l, .inr ⟨hdeep, h10 f (List.mem_append_left _ (List.mem_append_right _ hff))⟩⟩, fun l0 ho => by
      have e0 := R.owns_apart (hsh l0 f ho) (.inr ⟨hdeep, h10 f (List.mem_append_left _ (List.mem_append_right _ hff))⟩)
      subst e0
      rcases ho with ⟨_, cc, nn, h⟩ | ⟨_, h⟩
      · have h : β l0 = some (some f, cc, nn) := h
        rw [hb] at h
        cases h
        exact h11 (h10 g (List.mem_append_left _ (List.mem_append_right _ hff)))
      · rw [hβ1l] at h
        have hn1 := List.nodup_append.1 h9
        have hn2 := List.nodup_append.1 hn1.1
        rcases List.mem_append.1 h with h | h
        · exact hn2.2.2 f h f hff rfl
        · exact hn1.2.2 f (List.mem_append_right _ hff) f h rfl⟩) (fun l0 => by
      by_cases e0 : l = l0
      · subst e0
        refine .inr ⟨fun Z' _ => ?_, fun v => by rw [hlk, if_pos rfl]; simp⟩
        rw [hlk, if_pos rfl]
        refine ⟨_, hβ'l.1, h13, fun f hff => ?_, ?_⟩
        · rw [hβ'l.2] at hff; exact h12 f (hsub f hff)
        · show g ∉ (extDB β1 new bs).inn l ∧ _
          rw [hβ'l.2]
          refine ⟨fun h => h11 (hsub g h), by omega, cur, h1, h2, h3, h4, hk, hi, c1, us, c3, F1, F3, h5, h6, p4 _ hbs Z', RdO_len h7, h8, ?_, fun f h => h⟩
          rw [List.nodup_append] at h9
          obtain ⟨n1, n2, n3⟩ := h9
          exact List.nodup_append.2 ⟨(List.nodup_append.1 n1).1, n2, fun f hff f' hff' => n3 f (List.mem_append_left _ hff) f' hff'⟩
      · exact .inl ⟨by rw [hlk, if_neg e0], hβ1o l0 (fun h => e0 h.symm)⟩)
  refine ⟨extDB β1 new bs, us, fun l0 hl0 => ?_, R2, fun Z => p4 _ hbs Z, RdO_len h7, h14⟩
  rcases extDB_at (β := β1) bs new l0 with ⟨j, q, q1, q2, _⟩ | ⟨_, q2, _⟩
  · refine absurd ⟨?_, ?_⟩ hl0
    · rw [q2]; exact Nat.le_add_right _ _
    · rw [q2]; exact Nat.add_lt_add_left (by have := (List.getElem?_eq_some_iff.1 q1).1; omega) _
  · rw [q2]

theorem Rel.closeD (R : Rel ti N X Y w0 β σ a w) {l : Loc} {e : TypeId} {t : Ty} {k i : Nat} {xs : List (T t)} {cs : List AVal} {x : T t} (hcell : look σ l = .deep e t k xs (some (i, cs))) (hoddl : ∀ t, l ≠ tmpL t)
    (h : (absC ti t cs).E σ (x, [])) (hnd : (refsOf (.agg cs)).Nodup) (hlr : l ∉ refsOf (.agg cs)) :
    ∃ β' : Beta, (∀ l, β' l = β l) ∧ Rel ti N X Y w0 β' (put σ (deads (refsOf (.agg cs)) ++ [(l, .deep e t k (xs.set i x) none)])) a w := by
  have hob := R.obj l
  rw [hcell] at hob
  obtain ⟨b, hb, hlen, hil, hdk⟩ := hob
  have hdeep : isDeep (look σ l) = true := by rw [hcell]; rfl
  have hputs : put σ (deads (refsOf (.agg cs)) ++ [(l, .deep e t k (xs.set i x) none)]) = (l, .deep e t k (xs.set i x) none) :: put σ (deads (refsOf (.agg cs))) := by
    rw [put_append, put_cons, put_nil]
  rw [hputs]
  have hlk : ∀ l', look ((l, .deep e t k (xs.set i x) none) :: put σ (deads (refsOf (.agg cs)))) l' = if l = l' then .deep e t k (xs.set i x) none else look (put σ (deads (refsOf (.agg cs)))) l' := fun l' => look_cons _ _ _ _
  have hkind : ∀ l', l' = l ∨ (l' ≠ l ∧ look ((l, .deep e t k (xs.set i x) none) :: put σ (deads (refsOf (.agg cs)))) l' = .dead) ∨
      (l' ≠ l ∧ l' ∉ refsOf (.agg cs) ∧ look ((l, .deep e t k (xs.set i x) none) :: put σ (deads (refsOf (.agg cs)))) l' = look σ l') := by
    intro l'
    by_cases i1 : l' = l
    · exact .inl i1
    · right
      rw [hlk, if_neg (fun h => i1 h.symm)]
      rcases look_deads (ls := refsOf (.agg cs)) (σ := σ) (l := l') with ⟨h6, h7⟩ | ⟨h6, h7⟩
      · left; exact ⟨i1, h7⟩
      · right; exact ⟨i1, h6, h7⟩
  -- the blocks that come over
  have hF : ∃ F, (∀ f ∈ F, ∃ m ∈ refsOf (.agg cs), Owns β σ m f) ∧ F.Nodup ∧ ∀ β' : Beta, (∀ l, β' l = β l) → β'.inn l = β.inn l ++ F → DeepOk β' w (Zs Y β σ w) e t k (xs.set i x) none b (β'.inn l) := by
    cases hb1 : b.1 with
    | none =>
      rw [hb1] at hdk
      have hx : xs = [] := hdk
      refine ⟨[], by simp, List.nodup_nil, fun β' _ hi' => ⟨by rw [List.length_set]; exact hlen, fun f hf => ?_, ?_⟩⟩
      · rw [hi', List.append_nil] at hf; exact hil f hf
      · rw [hb1]; show xs.set i x = []; rw [hx]; rfl
    | some g =>
      rw [hb1] at hdk
      obtain ⟨d1, d2, cur, d3, d4, d5, d6, d7, d8, c1, c2, c3, F1, F2, d9, d10, d11, d12, d13, d14, d15⟩ := hdk
      obtain ⟨c1', us', cs1, F, e1, e2, v1, q1, q2, q3⟩ := absC_sound R h d11 hnd
      have hus : us' = [] := v1
      subst hus
      rw [List.append_nil] at e1 e2
      subst e1 e2
      refine ⟨F, q3, q2, fun β' _ hi' => ⟨by rw [List.length_set]; exact hlen, fun f hf => ?_, ?_⟩⟩
      · rw [hi'] at hf
        rcases List.mem_append.1 hf with hf | hf
        · exact hil f hf
        · obtain ⟨m, _, k2⟩ := q3 f hf; exact R.owns_lt k2
      · rw [hb1]
        show g ∉ β'.inn l ∧ _
        have hlg : Owns β σ l g := .inl ⟨isDeep_own hdeep, b.2.1, b.2.2, by rw [hb, ← hb1]⟩
        refine ⟨fun hg => ?_, by rw [List.length_set]; exact d2, cur, d3, by rw [List.length_set]; exact d4, d5, d6, F1 ++ (F ++ F2), ?_, ?_, ?_⟩
        · rw [hi'] at hg
          rcases List.mem_append.1 hg with hg | hg
          · exact d1 hg
          · obtain ⟨m, k1, k2⟩ := q3 g hg
            have := R.owns_apart hlg k2
            subst this
            exact hlr k1
        · have e3 : (xs.set i x).drop k = (xs.drop k).take (i - k) ++ (x :: xs.drop (i + 1)) := by
            rw [List.set_eq_take_append_cons_drop, if_pos d8, List.drop_append, List.length_take, Nat.min_eq_left (Nat.le_of_lt d8), show k - i = 0 by omega, List.drop_zero, List.drop_take]
          rw [List.length_set, d9, e3, List.append_assoc]
          exact rowR_append d10 ⟨c2, c3, F, F2, rfl, rfl, q1, d13⟩
        · have hdis : ∀ f ∈ F1 ++ F2, f ∉ F := fun f hf hff => by
            obtain ⟨m, k1, k2⟩ := q3 f hff
            have := R.owns_apart (.inr ⟨hdeep, d15 f hf⟩) k2
            subst this
            exact hlr k1
          rw [List.nodup_append] at d14
          obtain ⟨n1, n2, n3⟩ := d14
          refine List.nodup_append.2 ⟨n1, List.nodup_append.2 ⟨q2, n2, fun f hf f' hf' e0 => ?_⟩, fun f hf f' hf' e0 => ?_⟩
          · subst e0; exact hdis f (List.mem_append_right _ hf') hf
          · subst e0
            rcases List.mem_append.1 hf' with hf' | hf'
            · exact hdis f (List.mem_append_left _ hf) hf'
            · exact n3 f hf f hf' rfl
        · intro f hf
          rw [hi']
          rcases List.mem_append.1 hf with hf | hf
          · exact List.mem_append_left _ (d15 f (List.mem_append_left _ hf))
          · rcases List.mem_append.1 hf with hf | hf
            · exact List.mem_append_right _ hf
            · exact List.mem_append_left _ (d15 f (List.mem_append_right _ hf))
  obtain ⟨F, hF1, hF2, hF3⟩ := hF
  let β' : Beta := ⟨β.f, fun m => if m = l then β.inn l ++ F else β.inn m⟩
  have hβl : β'.inn l = β.inn l ++ F := if_pos rfl
  have hβo : ∀ m, m ≠ l → β'.inn m = β.inn m := fun m h => if_neg h
  have hO : ∀ l' g, Owns β' ((l, .deep e t k (xs.set i x) none) :: put σ (deads (refsOf (.agg cs)))) l' g → (l' = l ∧ (Owns β σ l g ∨ ∃ m ∈ refsOf (.agg cs), Owns β σ m g)) ∨ (l' ≠ l ∧ l' ∉ refsOf (.agg cs) ∧ Owns β σ l' g) := by
    intro l' g ho
    rcases hkind l' with rfl | ⟨i1, i2⟩ | ⟨i1, i2, i3⟩
    · left
      refine ⟨rfl, ?_⟩
      rcases ho with ⟨_, cc, nn, hb2⟩ | ⟨_, hb2⟩
      · exact .inl (.inl ⟨isDeep_own hdeep, cc, nn, hb2⟩)
      · rw [hβl] at hb2
        rcases List.mem_append.1 hb2 with hb2 | hb2
        · exact .inl (.inr ⟨hdeep, hb2⟩)
        · exact .inr (hF1 g hb2)
    · have := ho.own; rw [i2] at this; cases this
    · right
      refine ⟨i1, i2, ?_⟩
      unfold Owns at ho ⊢
      rw [i3, hβo l' i1] at ho
      exact ho
  have hown1 : ∀ l' g, Owns β' ((l, .deep e t k (xs.set i x) none) :: put σ (deads (refsOf (.agg cs)))) l' g → (∃ l0, Owns β σ l0 g) ∨ w.heap.size ≤ g := by
    intro l' g ho
    rcases hO l' g ho with ⟨_, h1 | ⟨m, _, h1⟩⟩ | ⟨_, _, h1⟩
    · exact .inl ⟨l, h1⟩
    · exact .inl ⟨m, h1⟩
    · exact .inl ⟨l', h1⟩
  refine ⟨β', fun _ => rfl, R.stepG (fun _ _ h => h) R.kept (Nat.le_refl _) (fun _ _ => rfl) hown1 ?_ R.size R.dfr ?_ ?_⟩
  · have cross : ∀ l' g, (Owns β σ l g ∨ ∃ m ∈ refsOf (.agg cs), Owns β σ m g) → l' ≠ l → l' ∉ refsOf (.agg cs) → Owns β σ l' g → False := by
      rintro l' g (h1 | ⟨m, k1, h1⟩) h2 h3 h4
      · exact h2 (R.owns_apart h4 h1)
      · have := R.owns_apart h4 h1
        subst this
        exact h3 k1
    intro l1 l2 g h6 h7
    rcases hO l1 g h6 with ⟨i1, i2⟩ | ⟨i1, i2, i3⟩ <;> rcases hO l2 g h7 with ⟨j1, j2⟩ | ⟨j1, j2, j3⟩
    · rw [i1, j1]
    · exact (cross l2 g i2 j1 j2 j3).elim
    · exact (cross l1 g j2 i1 i2 i3).elim
    · exact R.owns_apart i3 j3
  · intro tt v hv
    rcases hkind (tmpL tt) with e1 | ⟨i1, i2⟩ | ⟨i1, i2, i3⟩
    · exact absurd e1.symm (hoddl tt)
    · rw [i2] at hv; cases hv
    · rw [i3] at hv; exact .inl ⟨hv, rfl⟩
  · intro l'
    rcases hkind l' with rfl | ⟨i1, i2⟩ | ⟨i1, i2, i3⟩
    · right
      rw [hlk, if_pos rfl]
      exact ⟨b, hb, (hF3 β' (fun _ => rfl) hβl).closed⟩
    · right; rw [i2]; trivial
    · left
      exact ⟨i3, fun _ => hβo l' i1, fun _ _ => rfl⟩

/-- A row is told otherwise: its opened element and those ahead of it are given up; a scalar is changed. -/
theorem Rel.redeep (R : Rel ti N X Y w0 β σ a w) {l : Loc} {c : Cell} (hdeep : isDeep (look σ l) = true) (hoddl : ∀ t, l ≠ tmpL t) (hcd : isDeep c = true)
    (hk : ∀ g, ¬ Owns β σ l g → w'.heap[g]? = w.heap[g]?) (hsz : w'.heap.size = w.heap.size) (hos : w'.os = w.os) (htp : w'.tape = w.tape) (hout : w'.output = w.output)
    (hc : ∀ Z' : Nat → Prop, (∀ g, Zs Y β σ w g → Z' g ∧ w'.heap[g]? = w.heap[g]?) → CellOk ti β w' Z' l c) : Rel ti N X Y w0 β ((l, c) :: σ) a w' := by
  have hO : ∀ l' g, Owns β ((l, c) :: σ) l' g → Owns β σ l' g := by
    intro l' g h
    by_cases e : l = l'
    · subst e
      rcases h with ⟨_, h⟩ | ⟨_, h⟩
      · exact .inl ⟨isDeep_own hdeep, h⟩
      · exact .inr ⟨hdeep, h⟩
    · unfold Owns at h ⊢
      rw [look_cons, if_neg e] at h
      exact h
  have hown1 : ∀ l' g, Owns β ((l, c) :: σ) l' g → (∃ l0, Owns β σ l0 g) ∨ w.heap.size ≤ g := fun l' g h => .inl ⟨l', hO l' g h⟩
  have hsame : ∀ g, Zs Y β σ w g → w'.heap[g]? = w.heap[g]? := fun g hg => hk g (hg.no l)
  refine R.stepG (fun _ _ h => h) ⟨hos.trans R.kept.os, htp.trans R.kept.tape, hout.trans R.kept.output, by rw [hsz]; exact R.kept.size, fun k hlt hx => ?_⟩ (by rw [hsz]; exact Nat.le_refl _) hsame hown1 (fun l1 l2 g h1 h2 => R.owns_apart (hO l1 g h1) (hO l2 g h2)) R.size R.dfr ?_ ?_
  · refine (hk k (fun ho => ?_)).trans (R.kept.block k hlt hx)
    rcases R.owns_new ho with h | h
    · omega
    · exact hx h
  · intro t v h
    rw [look_cons, if_neg (hoddl t)] at h
    exact .inl ⟨h, rfl⟩
  · intro l'
    by_cases e : l = l'
    · subst e
      rw [look_cons, if_pos rfl]
      exact .inr (hc _ (fun g hg => ⟨R.stepGZ (by rw [hsz]; exact Nat.le_refl _) hown1 g hg, hsame g hg⟩))
    · rw [look_cons, if_neg e]
      exact .inl ⟨rfl, fun _ => rfl, fun g hg => hk g (fun ho => e (R.owns_apart ho hg))⟩

theorem Rel.dropD (R : Rel ti N X Y w0 β σ a w) {l : Loc} {e : TypeId} {t : Ty} {k i : Nat} {xs : List (T t)} {cs : List AVal} (hcell : look σ l = .deep e t k xs (some (i, cs))) (hoddl : ∀ t, l ≠ tmpL t) :
    Rel ti N X Y w0 β ((l, .deep e t (i + 1) xs none) :: σ) a w := by
  have hob := R.obj l
  rw [hcell] at hob
  obtain ⟨b, hb, hlen, hil, hdk⟩ := hob
  refine R.redeep (by rw [hcell]; rfl) hoddl rfl (fun _ _ => rfl) rfl rfl rfl rfl (fun Z' hZ' => ⟨b, hb, hlen, hil, ?_⟩)
  cases hb1 : b.1 with
  | none => rw [hb1] at hdk; exact hdk
  | some g =>
    rw [hb1] at hdk
    obtain ⟨d1, d2, cur, d3, d4, d5, d6, d7, d8, c1, c2, c3, F1, F2, d9, d10, d11, d12, d13, d14, d15⟩ := hdk
    refine ⟨d1, d8, cur, d3, d4, d5, d6, F2, ?_, (List.nodup_append.1 d14).2.1, fun f hf => d15 f (List.mem_append_right _ hf)⟩
    have hl1 := rowR_len (fun _ _ _ => RdO_len) d10
    rw [List.length_take, List.length_drop, Nat.min_eq_left (by omega)] at hl1
    have e1 : (i + 1) * sz t = k * sz t + ((i - k) * sz t + sz t) := by
      rw [← Nat.succ_mul, ← Nat.add_mul]
      congr 1
      omega
    have e2 : (i - k) * sz t + sz t = (c1 ++ c2).length := by rw [List.length_append, hl1, d12]
    have e3 : (cur.toList.take (xs.length * sz t)).drop ((i + 1) * sz t) = c3 := by rw [e1, ← List.drop_drop, d9, e2, List.drop_left]
    rw [e3]
    exact d13

theorem look_puts_congr : ∀ {ws : Ws} {σ τ : St}, (∀ l, look σ l = look τ l) → ∀ l, look (put σ ws) l = look (put τ ws) l
  | [], _, _, h, l => h l
  | (x, c) :: ws, σ, τ, h, l => by
    rw [put_cons, put_cons]
    refine look_puts_congr (fun l' => ?_) l
    rw [look_cons, look_cons, h l']

theorem getAt_sound : ∀ {t : Ty} {x : T t} {cs : List Value} {F : List Nat} {off : Nat} {v : AVal}, RdO w t x cs F → getAt t x off = some v → ∃ u, cs[off]? = some u ∧ ∀ (β : Beta) (Z : Nat → Prop), VR β w Z v u := by
  intro t
  induction t with
  | pair p q hp hq =>
    rintro x cs F off v ⟨c1, c2, F1, F2, rfl, rfl, h1, h2⟩ h
    simp only [getAt] at h
    have hl := RdO_len h1
    cases hb : Nat.blt off (sz p) with
    | true =>
      rw [hb] at h
      obtain ⟨u, g1, g2⟩ := hp h1 h
      have hb : off < sz p := Nat.le_of_ble_eq_true hb
      exact ⟨u, by rw [List.getElem?_append_left (by omega)]; exact g1, g2⟩
    | false =>
      rw [hb] at h
      obtain ⟨u, g1, g2⟩ := hq h2 h
      have hb : ¬ off < sz p := fun hh => by
        have : Nat.blt off (sz p) = true := Nat.ble_eq_true_of_le hh
        rw [this] at hb; cases hb
      exact ⟨u, by rw [List.getElem?_append_right (by omega), hl]; exact g1, g2⟩
  | slice e t _ => intro x cs F off v _ h; cases h
  | vslice e t _ => intro x cs F off v _ h; cases h
  | _ =>
    rintro x cs F off v ⟨rfl, rfl⟩ h
    simp only [getAt] at h
    cases hb : Nat.beq off 0 with
    | false => rw [hb] at h; cases h
    | true =>
      rw [hb] at h
      obtain rfl := Nat.eq_of_beq_eq_true hb
      cases h
      exact ⟨_, rfl, fun β Z => rfl⟩

theorem VR1_of_VR {Z : Nat → Prop} {v : AVal} {u : Value} (h : VR β w Z v u) (h1 : ∀ l, v ≠ .agg l) (h2 : ∀ l, v ≠ .tup l) : VR1 β w Z v u := by
  cases v <;> first | exact h | (exact absurd rfl (h1 _)) | (exact absurd rfl (h2 _))
theorem setAt_agg {q : List AVal} : ∀ (t : Ty) (x : T t) (off : Nat), setAt t x off (.agg q) = none := by
  intro t
  induction t with
  | pair p q hp hq => intro x off; simp only [setAt]; rw [hp, hq]; cases Nat.blt off (sz p) <;> rfl
  | slice e t _ => intro x off; rfl
  | vslice e t _ => intro x off; rfl
  | _ => intro x off; simp only [setAt, enc1]; cases Nat.beq off 0 <;> rfl
theorem setAt_tup {q : List AVal} : ∀ (t : Ty) (x : T t) (off : Nat), setAt t x off (.tup q) = none := by
  intro t
  induction t with
  | pair p q hp hq => intro x off; simp only [setAt]; rw [hp, hq]; cases Nat.blt off (sz p) <;> rfl
  | slice e t _ => intro x off; rfl
  | vslice e t _ => intro x off; rfl
  | _ => intro x off; simp only [setAt, enc1]; cases Nat.beq off 0 <;> rfl
theorem setAt_sound {Z : Nat → Prop} : ∀ {t : Ty} {x y : T t} {cs : List Value} {F : List Nat} {off : Nat} {v : AVal} {u : Value}, RdO w t x cs F → setAt t x off v = some y → VR1 β w Z v u → RdO w t y (cs.set off u) F ∧ off < sz t ∧ u.oneCell' = true := by
  intro t
  induction t with
  | pair p q hp hq =>
    rintro x y cs F off v u ⟨c1, c2, F1, F2, rfl, rfl, h1, h2⟩ h hv
    simp only [setAt] at h
    have hl := RdO_len h1
    cases hb : Nat.blt off (sz p) with
    | true =>
      rw [hb] at h
      simp only [cond_true] at h
      split at h
      · rename_i y1 hy
        cases h
        obtain ⟨g1, g2, g3⟩ := hp h1 hy hv
        exact ⟨⟨c1.set off u, c2, F1, F2, by rw [List.set_append_left _ _ (by omega)], rfl, g1, h2⟩, by simp only [sz]; omega, g3⟩
      · cases h
    | false =>
      rw [hb] at h
      simp only [cond_false] at h
      split at h
      · rename_i y1 hy
        cases h
        obtain ⟨g1, g2, g3⟩ := hq h2 hy hv
        have hb : ¬ off < sz p := fun hh => by
          have : Nat.blt off (sz p) = true := Nat.ble_eq_true_of_le hh
          rw [this] at hb; cases hb
        exact ⟨⟨c1, c2.set (off - sz p) u, F1, F2, by rw [List.set_append_right _ _ (by omega), hl], rfl, h1, g1⟩, by simp only [sz]; omega, g3⟩
      · cases h
  | slice e t _ => intro x y cs F off v u _ h; cases h
  | vslice e t _ => intro x y cs F off v u _ h; cases h
  | _ =>
    rintro x y cs F off v u ⟨rfl, rfl⟩ h hv
    simp only [setAt] at h
    cases hb : Nat.beq off 0 with
    | false => rw [hb] at h; cases h
    | true =>
      rw [hb] at h
      obtain rfl := Nat.eq_of_beq_eq_true hb
      obtain ⟨F', hF, _⟩ := Rd_enc1 h hv
      refine ⟨⟨?_, rfl⟩, Nat.one_pos, Rd_one hF u (List.mem_singleton.2 rfl)⟩
      exact hF.1

section
variable (hti : TiOk P ti) (R : Rel ti N X Y w0 β σ a w) {o : Oper} {new : Loc} (hd : ∀ t, o.dst = some t → t < N) {ws : Ws}
  (hodd : ∀ i t, new + 2 * i ≠ tmpL t) (hf : ∀ j, new ≤ j → j < new + 128 → β j = none)
include hti R hd hodd hf

theorem openD_sound {t : TypeId} {x : Operand} (hk : (ti.at t).ud.kn = true) (ho : o.op = .load t x) {l : Loc} {pre : Ws} {e : TypeId} {t' : Ty} {k i off : Nat} {xs : List (T t')} {r : Ws × AVal}
    (hle : off + sz (ti.at t).ty ≤ sz t') (hcell : look σ l = .deep e t' k xs none) (hoddl : ∀ t, l ≠ tmpL t) (hp : VR β w (Zs Y β σ w) (.eptr l i (sz t') off) (a.eval x)) (h : (openD ti t new l pre e t' k xs i off).E σ' r) :
    ∃ ws2 v, r = (pre ++ ws2, v) ∧ ∃ (β' : Beta) (u : Value), (∀ l, ¬ (new ≤ l ∧ l < new + 128) → β' l = β l) ∧ (∀ σ2 : St, (∀ l0, look σ2 l0 = look (put σ ws2) l0) → Rel ti N X Y w0 β' (put σ2 (setTmp o.dst v)) (a.put o.dst u) w) ∧ (execOp a.eval o).run P w = .ok (.value u) w := by
  simp only [openD, E_guard] at h
  obtain ⟨hlt, hki, h⟩ := h
  have hlt : i < xs.length := Nat.le_of_ble_eq_true hlt
  have hki := leK_iff.1 hki
  rcases hout : outCellsD t' (xs.getD i (dflt t')) new with ⟨as, os, l'⟩
  rw [hout] at h
  cases hb : Nat.ble l' (new + 128) with
  | false => simp only [hb] at h; exact (E_fail.1 h).elim
  | true =>
  simp only [hb, cond_true, E_bind, E_ret] at h
  obtain ⟨v, h1, rfl⟩ := h
  obtain ⟨g, cap, len, hbl, hpe⟩ := hp
  obtain ⟨β', us, b1, R2, b2, b3, b4⟩ := R.openR hcell hoddl hbl hlt hki hout hodd hf (Nat.le_of_ble_eq_true hb)
  obtain ⟨hv, hag⟩ := asVal_sound (VRs_cut (b2 (Zs Y β' (put (put σ [(l, .deep e t' k xs (some (i, as)))]) os) w)) off (sz (ti.at t).ty)) h1
  refine ⟨[(l, .deep e t' k xs (some (i, as)))] ++ os, v, by rw [List.append_assoc], β', (if (ti.at t).ud.agg then .agg ((us.drop off).take (sz (ti.at t).ty)).toArray else ((us.drop off).take (sz (ti.at t).ty)).headD undef), b1, fun σ2 h2 => ?_, ?_⟩
  rotate_left
  · have hrun := run_load (hti := hti) (w := w) (ad := ⟨g, i * sz t' + off, none⟩) hk (us := (us.drop off).take (sz (ti.at t).ty)) (by rw [List.length_take, List.length_drop]; omega) (by
      have : At w ((⟨g, i * sz t', none⟩ : Addr).add off) (us.drop off) := fun j u hu => by
        rw [List.getElem?_drop] at hu
        have := b4 _ _ hu
        rwa [← Addr_add_add] at this
      rw [Addr.add_lit] at this
      exact At_take _ this) hag
    simp [execOp, ho, hpe, hrun]
  · rw [put_append] at h2
    have R3 := R2.same h2
    refine R3.set hd (VR_mono (fun _ _ h => h) (fun g hg => ⟨?_, rfl⟩) hv)
    refine .of hg.1.1 hg.1.2 (fun l0 ho0 => hg.no l0 ?_)
    unfold Owns at ho0 ⊢
    rw [h2] at ho0
    exact ho0

theorem op_loadX (hodd2 : ∀ l, isObj (look σ l) = true → ∀ t, l ≠ tmpL t) {t : TypeId} {x : Operand} (ho : o.op = .load t x) (h : ((opd x).bind fun v => bif (ti.at t).ud.kn then (loadX ti t new v).bind fun r => .ret (r.1 ++ setTmp o.dst r.2) else .fail).E σ ws) : Sound P ti N X Y w0 β σ a w o new ws := by
  rw [E_bind] at h
  obtain ⟨v, h1, h2⟩ := h
  cases hk : (ti.at t).ud.kn with
  | false => rw [hk] at h2; exact (E_fail.1 h2).elim
  | true =>
  rw [hk] at h2
  simp only [cond_true, E_bind, E_ret] at h2
  obtain ⟨r, h3, rfl⟩ := h2
  have old : ((loadA ti t v).bind fun x => .ret (([] : Ws), x)).E σ r → Sound P ti N X Y w0 β σ a w o new (r.1 ++ setTmp o.dst r.2) := by
    intro h
    rw [E_bind] at h
    obtain ⟨z, h4, h5⟩ := h
    rw [E_ret] at h5
    subst h5
    refine op_load hti R hd ho (E_bind.2 ⟨v, h1, ?_⟩)
    rw [hk]
    exact E_bind.2 ⟨z, h4, E_ret.2 rfl⟩
  unfold loadX at h3
  split at h3
  · rename_i l i s off
    rw [E_get] at h3
    split at h3
    · rename_i e t' k xs op hcell
      have hoddl := hodd2 l (by rw [hcell]; rfl)
      have hp := opd_sound R h1
      cases hcnd : (Nat.ble (off + sz (ti.at t).ty) (sz t') && Nat.beq s (sz t')) with
      | false => rw [hcnd] at h3; exact (E_fail.1 h3).elim
      | true =>
      rw [hcnd] at h3
      simp only [cond_true] at h3
      rw [Bool.and_eq_true] at hcnd
      have hle := Nat.le_of_ble_eq_true hcnd.1
      obtain rfl := Nat.eq_of_beq_eq_true hcnd.2
      split at h3
      · split at h3
        · rename_i z hz
          -- a scalar
          cases hag : (ti.at t).ud.agg with
          | true => rw [hag] at hz; cases hz
          | false =>
          rw [hag] at hz
          have hz : getAt t' (xs.getD i (dflt t')) off = some z := hz
          cases hs1 : Nat.beq (sz (ti.at t).ty) 1 with
          | false => rw [hs1] at h3; exact (E_fail.1 h3).elim
          | true =>
          rw [hs1] at h3
          simp only [cond_true, E_guard, E_ret] at h3
          obtain ⟨hlt, hki, rfl⟩ := h3
          have hlt : i < xs.length := Nat.le_of_ble_eq_true hlt
          have hki := leK_iff.1 hki
          have hs1 := Nat.eq_of_beq_eq_true hs1
          obtain ⟨g, cap, len, hbl, hpe⟩ := hp
          have hob := R.obj l
          rw [hcell] at hob
          obtain ⟨b, hb', hdk⟩ := hob
          rw [hbl] at hb'
          cases hb'
          obtain ⟨us, F, hat, hrd, _⟩ := deep_elem hdk hlt hki
          obtain ⟨u, hu1, hu2⟩ := getAt_sound hrd hz
          have hrun := run_load (hti := hti) (w := w) (ad := ⟨g, i * sz t' + off, none⟩) hk (us := [u]) (by rw [hs1]; rfl) (by
            intro j q hq
            cases j with
            | succ j => simp at hq
            | zero =>
              simp at hq
              subst hq
              have := hat off u hu1
              rw [Addr.add_lit] at this
              rw [Addr.add_zero']
              exact this) (fun _ => rfl)
          rw [hag] at hrun
          refine sound_pure R hd (hu2 β _) ?_
          simp [execOp, ho, hpe, hrun]
        · obtain ⟨ws2, v2, rfl, β', u, b1, b2, b3⟩ := openD_sound hti R hd hodd hf hk ho hle hcell hoddl hp h3
          intro next Q hn
          refine wp_val b3 (hn _ _ β' ?_ b1)
          rw [List.nil_append, put_append]
          exact b2 _ (fun _ => rfl)
      · rename_i j cs
        cases hc2 : (nodupN (refsOf (.agg cs)) && !memN l (refsOf (.agg cs))) with
        | false => rw [hc2] at h3; exact (E_fail.1 h3).elim
        | true =>
        rw [hc2] at h3
        simp only [cond_true, E_bind] at h3
        obtain ⟨⟨y, rest⟩, h4, h5⟩ := h3
        rw [Bool.and_eq_true, Bool.not_eq_true'] at hc2
        split at h5
        · rename_i hrest
          have hrest : rest = [] := hrest
          subst hrest
          obtain ⟨βc, hβc, R1⟩ := R.closeD hcell hoddl h4 (nodupN_nd hc2.1) (fun hh => by rw [memN_iff.2 hh] at hc2; cases hc2.2)
          have hlk1 : look (put σ (deads (refsOf (.agg cs)) ++ [(l, .deep e t' k (xs.set j y) none)])) l = .deep e t' k (xs.set j y) none := by
            rw [put_append, put_cons, put_nil, look_cons, if_pos rfl]
          have hp1 : VR βc w (Zs Y βc (put σ (deads (refsOf (.agg cs)) ++ [(l, .deep e t' k (xs.set j y) none)])) w) (.eptr l i (sz t') off) (a.eval x) := by
            obtain ⟨g, cap, len, hbl, hpe⟩ := hp
            exact ⟨g, cap, len, by rw [hβc]; exact hbl, hpe⟩
          obtain ⟨ws2, v2, rfl, β', u, b1, b2, b3⟩ := openD_sound hti R1 hd hodd (fun j h1 h2 => by rw [hβc]; exact hf j h1 h2) hk ho hle hlk1 hoddl hp1 h5
          intro next Q hn
          refine wp_val b3 (hn _ _ β' ?_ (fun l hl => by rw [b1 l hl, hβc]))
          rw [put_append]
          refine b2 _ (fun l0 => ?_)
          -- the closed row is behind the opened one
          have hws2 : ∃ as os, ws2 = (l, .deep e t' k (xs.set j y) (some (i, as))) :: os := by
            simp only [openD, E_guard] at h5
            obtain ⟨_, _, h5⟩ := h5
            rcases hout : outCellsD t' ((xs.set j y).getD i (dflt t')) new with ⟨as, os, l'⟩
            rw [hout] at h5
            cases hb : Nat.ble l' (new + 128) with
            | false => simp only [hb] at h5; exact (E_fail.1 h5).elim
            | true =>
            simp only [hb, cond_true, E_bind, E_ret] at h5
            obtain ⟨v, _, h6⟩ := h5
            have h6 := congrArg Prod.fst h6
            simp only [List.append_assoc] at h6
            exact ⟨as, os, (List.append_cancel_left h6).symm⟩
          obtain ⟨as, os, rfl⟩ := hws2
          rw [put_append, put_append, put_cons, put_cons, put_cons, put_nil]
          refine look_puts_congr (fun l1 => ?_) l0
          rw [look_cons, look_cons, look_cons]
          by_cases e1 : l = l1
          · rw [if_pos e1, if_pos e1]
          · rw [if_neg e1, if_neg e1, if_neg e1]
        · exact (E_fail.1 h5).elim
    · exact old h3
  · exact old h3

theorem op_storeX (hodd2 : ∀ l, isObj (look σ l) = true → ∀ t, l ≠ tmpL t) {t : TypeId} {ad x : Operand} (ho : o.op = .store t ad x)
    (h : ((opd ad).bind fun p => (opd x).bind fun v => bif (ti.at t).ud.kn && o.dst.isNone then storeX ti t v p else .fail).E σ ws) : Sound P ti N X Y w0 β σ a w o new ws := by
  simp only [E_bind] at h
  obtain ⟨p, h1, v, h2, h3⟩ := h
  cases hk : ((ti.at t).ud.kn && o.dst.isNone) with
  | false => rw [hk] at h3; exact (E_fail.1 h3).elim
  | true =>
  rw [hk] at h3
  replace h3 : (storeX ti t v p).E σ ws := h3
  have old : (storeA ti t v p).E σ ws → Sound P ti N X Y w0 β σ a w o new ws := fun h => op_store hti R hodd2 ho (by
    simp only [E_bind]
    exact ⟨p, h1, v, h2, by rw [hk]; exact h⟩)
  unfold storeX at h3
  split at h3
  · rename_i l i s off
    rw [E_get] at h3
    split at h3
    · rename_i e t' k xs hcell
      have hoddl := hodd2 l (by rw [hcell]; rfl)
      rw [Bool.and_eq_true] at hk
      obtain ⟨hk, hdn⟩ := hk
      have hdst : o.dst = none := by simpa using hdn
      cases hcnd : (Nat.beq (sz (ti.at t).ty) 1 && Nat.beq s (sz t')) with
      | false => rw [hcnd] at h3; exact (E_fail.1 h3).elim
      | true =>
      rw [hcnd] at h3
      simp only [cond_true] at h3
      rw [Bool.and_eq_true] at hcnd
      have hs1 := Nat.eq_of_beq_eq_true hcnd.1
      obtain rfl := Nat.eq_of_beq_eq_true hcnd.2
      split at h3
      · rename_i y hy
        simp only [E_guard, E_ret] at h3
        obtain ⟨hlt, hki, rfl⟩ := h3
        have hlt : i < xs.length := Nat.le_of_ble_eq_true hlt
        have hki := leK_iff.1 hki
        obtain ⟨g, cap, len, hbl, hpe⟩ := opd_sound R h1
        have hv := opd_sound R h2
        have hob := R.obj l
        rw [hcell] at hob
        obtain ⟨b, hb', hdk⟩ := hob
        rw [hbl] at hb'
        cases hb'
        obtain ⟨cur, c1, us, c3, F1, F2, F3, g1, g2, g3, g4, g5, g6, g7, g8, g9, g10, g11, g12, g13, g14, g15⟩ := deep_split hdk hlt hki
        have hv1 : VR1 β w (Zs Y β σ w) v (a.eval x) := VR1_of_VR hv (fun q e => by subst e; rw [setAt_agg] at hy; cases hy) (fun q e => by subst e; rw [setAt_tup] at hy; cases hy)
        obtain ⟨q1, q2, q3⟩ := setAt_sound (u := a.eval x) g7 hy hv1
        have hcl : (a.eval x).cells.toList = [a.eval x] := by
          revert q3
          cases a.eval x <;> simp [Value.oneCell', Value.cells]
        have hsz : i * sz t' + off < cur.size := by
          have h1 : i * sz t' + sz t' ≤ cap * sz t' := by rw [← Nat.succ_mul]; exact Nat.mul_le_mul_right _ (by omega)
          rw [g4]; omega
        have hst := run_storeCells_at P g (i * sz t' + off) e [a.eval x] 0 cur w g1 (by simpa using Nat.succ_le_of_lt hsz) (by simpa using q3)
        simp only [Nat.add_zero] at hst
        have hcs : (a.eval x).cells.size = sz (ti.at t).ty := by rw [← Array.length_toList, hcl, hs1]; rfl
        have hrun : (execOp a.eval o).run P w = .ok .skip (w.setRow g (cur.toList.take (i * sz t' + off) ++ [a.eval x] ++ cur.toList.drop (i * sz t' + off + 1)).toArray) := by
          simp [execOp, ho, hpe, Instr.storeAt, Instr.sureAddr, storeVar, hti.size hk, hcs, hcl]
          rw [show (Sem.run P (storeCells { block := g, off := i * sz t' + off } [a.eval x]) w) = _ from hst]
          simp
        have hset : (cur.toList.take (i * sz t' + off) ++ [a.eval x] ++ cur.toList.drop (i * sz t' + off + 1)) = cur.toList.set (i * sz t' + off) (a.eval x) := by
          rw [List.set_eq_take_append_cons_drop, if_pos (by simpa using hsz), List.append_assoc]
          rfl
        rw [hset] at hrun
        intro next Q hn
        unfold Oper.wp
        rw [hrun]
        show next (a.put o.dst undef) _
        rw [hdst]
        refine hn a _ β ?_ (fun _ _ => rfl)
        rw [put_cons, put_nil]
        have hdeep : isDeep (look σ l) = true := by rw [hcell]; rfl
        have hlg : Owns β σ l g := .inl ⟨isDeep_own hdeep, cap, len, hbl⟩
        have hother : ∀ f, f ≠ g → (w.setRow g (cur.toList.set (i * sz t' + off) (a.eval x)).toArray).heap[f]? = w.heap[f]? := fun f hf2 => setRow_other w g f _ hf2
        refine R.redeep hdeep hoddl rfl (fun f hf2 => hother f (by rintro rfl; exact hf2 hlg)) (by simp [World.setRow]) rfl rfl rfl (fun Z' hZ' => ⟨_, hbl, by rw [List.length_set]; exact g13, fun f hf2 => by simpa [World.setRow] using g12 f hf2, ?_⟩)
        show g ∉ β.inn l ∧ _
        have hmv : ∀ f ∈ β.inn l, (w.setRow g (cur.toList.set (i * sz t' + off) (a.eval x)).toArray).heap[f]? = w.heap[f]? := fun f hf2 => hother f (by rintro rfl; exact g11 hf2)
        have hmem : ∀ {f}, f ∈ F1 ∨ f ∈ F2 ∨ f ∈ F3 → f ∈ β.inn l := fun h => g10 _ (by simp only [List.mem_append]; rcases h with h | h | h <;> simp [h])
        refine ⟨g11, by rw [List.length_set]; omega, _, setRow_heap w g cur _ e _ g1, by rw [List.length_set]; exact g2, g3, by simpa using g4, F1 ++ (F2 ++ F3), ?_, by rw [← List.append_assoc]; exact g9, fun f hf2 => g10 f (by rw [List.append_assoc]; exact hf2)⟩
        have hus := RdO_len g7
        have hc1 : c1.length = (i - k) * sz t' := by
          have := rowR_len (fun _ _ _ => RdO_len) g6
          rwa [List.length_take, List.length_drop, Nat.min_eq_left (by omega)] at this
        have e3 : (xs.set i y).drop k = (xs.drop k).take (i - k) ++ (y :: xs.drop (i + 1)) := by
          rw [List.set_eq_take_append_cons_drop, if_pos hlt, List.drop_append, List.length_take, Nat.min_eq_left (Nat.le_of_lt hlt), show k - i = 0 by omega, List.drop_zero, List.drop_take]
        have e4 : (((cur.toList.set (i * sz t' + off) (a.eval x)).toArray.toList.take ((xs.set i y).length * sz t')).drop (k * sz t')) = c1 ++ (us.set off (a.eval x) ++ c3) := by
          have hki2 : k * sz t' + (i - k) * sz t' = i * sz t' := by rw [← Nat.add_mul]; congr 1; omega
          have hlt2 : i * sz t' + sz t' ≤ xs.length * sz t' := by rw [← Nat.succ_mul]; exact Nat.mul_le_mul_right _ hlt
          rw [List.length_set]
          show ((cur.toList.set (i * sz t' + off) (a.eval x)).take (xs.length * sz t')).drop (k * sz t') = _
          rw [List.take_set, List.drop_set, if_neg (by omega), g5]
          have e5 : i * sz t' + off - k * sz t' = c1.length + off := by rw [hc1]; omega
          rw [e5, List.append_assoc, List.set_append_right _ _ (by omega), Nat.add_sub_cancel_left, List.set_append_left _ _ (by omega)]
        rw [e3, e4]
        exact rowR_append (rowR_imp (fun z ds G hG hz => RdO_move (fun f hff => hmv f (hmem (.inl (hG f hff)))) hz) g6)
          ⟨_, _, F2, F3, rfl, rfl, RdO_move (fun f hff => hmv f (hmem (.inr (.inl hff)))) q1, rowR_imp (fun z ds G hG hz => RdO_move (fun f hff => hmv f (hmem (.inr (.inr (hG f hff))))) hz) g8⟩
      · exact (E_fail.1 h3).elim
    · exact old h3
  · exact old h3
end
end
end Go.Proofs.YtchdegcfohegfaaE
