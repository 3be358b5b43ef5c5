/- For every list of nodes and every number of sides, TreeText of the program returns what the reference's returns, and leaves its argument as it was. For all arguments whose list has at most 1000000 nodes; beyond that the law says nothing. -/
import Derived.Test.YtnndolcjljhhcaaDoorQFnExactTreeTextTreeB
namespace Go.Proofs.YtnndolcjljhhcaaDoor.Pure
open Go.RowKit Go.Proofs.YtnndolcjljhhcaaDoorX Go.Proofs.YtnndolcjljhhcaaDoor.PFnExactTreeText Go.Proofs.YtnndolcjljhhcaaDoorW.PrintWords Go.Proofs.YtnndolcjljhhcaaDoorW.PrintLast Go.Proofs.YtnndolcjljhhcaaDoorW.PrintMore
theorem num_both : ∀ a : Nat, a < 100 → ∃ s : ByteArray, s.size ≤ 2 ∧ Ev (fun k => spec_l1Num.f k (a : Int)) s ∧ strconv_Itoa_24.f (a : Int) = some s := by
  have key : ∀ a : Fin 100, (spec_l1Num.f 3 ((a.val : Nat) : Int)).isSome = true ∧ spec_l1Num.f 3 ((a.val : Nat) : Int) = strconv_Itoa_24.f ((a.val : Nat) : Int) ∧ ((spec_l1Num.f 3 ((a.val : Nat) : Int)).map (·.size)).getD 0 ≤ 2 := by decide +kernel
  intro a ha
  obtain ⟨h1, h2, h3⟩ := key ⟨a, ha⟩
  cases hs : spec_l1Num.f 3 (a : Int) with
  | none => simp [hs] at h1
  | some s =>
    simp only [hs] at h2 h3
    exact ⟨s, by simpa using h3, Ev.of (fun k => spec_l1Num.mono (a : Int) k) hs, h2.symm⟩
theorem text_loop (l : List Nd) (hl : l.length ≤ 1000000) (s : Int) (hs : 1 ≤ s ∧ s ≤ 3) (hv : ∀ n ∈ l, vN s n = true) : ∀ (m i : Nat) (acc : ByteArray), i + m = l.length → acc.size + 3 * m ≤ 4000000 → ∃ r, Ev (fun k => spec_trText.l0 k acc l (l.length : Int) i) r ∧ Ev (fun k => impl_treeText.l0 k acc l (l.length : Int) i) r := by
  intro m
  induction m with
  | zero =>
    intro i acc hi _
    exact ⟨acc, Ev.step (fun k => spec_trText.l0.eq_2 acc l _ _ k) (ev_ite_neg (by omega) (Ev.now _)), Ev.step (fun k => impl_treeText.l0.eq_2 acc l _ _ k) (ev_ite_neg (by omega) (Ev.now _))⟩
  | succ m ih =>
    intro i acc hi hz
    have hlt : i < l.length := by omega
    have hn := hv l[i] (List.getElem_mem hlt)
    have e1 : wrap64 ((i : Int) + 1) = ((i + 1 : Nat) : Int) := by rw [w64 (by omega) (by omega)]; omega
    have cs : (i : Int) < (l.length : Int) := Int.ofNat_lt.2 hlt
    have c0 : (0 : Int) ≤ (i : Int) := Int.natCast_nonneg i
    have start1 : ∀ r, Ev (fun k => if l[i].f0 = 0 then (if 0 ≤ l[i].f1 then (if l[i].f1 ≤ (wrap64 (l[i].f1 + 1)) then (if (wrap64 (l[i].f1 + 1)) ≤ 3 then (if acc.size + ((⟨#[120, 121, 122]⟩ : ByteArray).extract (l[i].f1).toNat (wrap64 (l[i].f1 + 1)).toNat).size ≤ 9223372036854775807 then (spec_trText.l0 k (acc ++ ((⟨#[120, 121, 122]⟩ : ByteArray).extract (l[i].f1).toNat (wrap64 (l[i].f1 + 1)).toNat)) l (l.length : Int) ((i + 1 : Nat) : Int)) else (none)) else (none)) else (none)) else (none)) else (if l[i].f0 = 1 then ((spec_l1Num.f k l[i].f1).bind fun t119 => (if 1 + t119.size ≤ 9223372036854775807 then (if acc.size + ((⟨#[102]⟩ : ByteArray) ++ t119).size ≤ 9223372036854775807 then (spec_trText.l0 k (acc ++ ((⟨#[102]⟩ : ByteArray) ++ t119)) l (l.length : Int) ((i + 1 : Nat) : Int)) else (none)) else (none))) else (if l[i].f0 = 2 then ((spec_l1Num.f k l[i].f1).bind fun t120 => (if 1 + t120.size ≤ 9223372036854775807 then (if acc.size + ((⟨#[104]⟩ : ByteArray) ++ t120).size ≤ 9223372036854775807 then (spec_trText.l0 k (acc ++ ((⟨#[104]⟩ : ByteArray) ++ t120)) l (l.length : Int) ((i + 1 : Nat) : Int)) else (none)) else (none))) else (if acc.size + 1 ≤ 9223372036854775807 then (spec_trText.l0 k (acc ++ (⟨#[111]⟩ : ByteArray)) l (l.length : Int) ((i + 1 : Nat) : Int)) else (none))))) r → Ev (fun k => spec_trText.l0 k acc l (l.length : Int) i) r := by
      intro r hr
      refine Ev.step (fun k => spec_trText.l0.eq_2 acc l _ _ k) (ev_ite_pos cs (ev_ite_pos c0 (ev_ite_pos cs ?_)))
      rw [rdN l i hlt, e1]
      exact hr
    have start2 : ∀ r, Ev (fun k => if l[i].f0 = 0 then (if 0 ≤ l[i].f1 then (if l[i].f1 ≤ (wrap64 (l[i].f1 + 1)) then (if (wrap64 (l[i].f1 + 1)) ≤ 3 then (if acc.size + ((⟨#[120, 121, 122]⟩ : ByteArray).extract (l[i].f1).toNat (wrap64 (l[i].f1 + 1)).toNat).size ≤ 9223372036854775807 then (impl_treeText.l0 k (acc ++ ((⟨#[120, 121, 122]⟩ : ByteArray).extract (l[i].f1).toNat (wrap64 (l[i].f1 + 1)).toNat)) l (l.length : Int) ((i + 1 : Nat) : Int)) else (none)) else (none)) else (none)) else (none)) else (if l[i].f0 = 1 then ((strconv_Itoa_24.f l[i].f1).bind fun t119 => (if 1 + t119.size ≤ 9223372036854775807 then (if acc.size + ((⟨#[102]⟩ : ByteArray) ++ t119).size ≤ 9223372036854775807 then (impl_treeText.l0 k (acc ++ ((⟨#[102]⟩ : ByteArray) ++ t119)) l (l.length : Int) ((i + 1 : Nat) : Int)) else (none)) else (none))) else (if l[i].f0 = 2 then ((strconv_Itoa_24.f l[i].f1).bind fun t120 => (if 1 + t120.size ≤ 9223372036854775807 then (if acc.size + ((⟨#[104]⟩ : ByteArray) ++ t120).size ≤ 9223372036854775807 then (impl_treeText.l0 k (acc ++ ((⟨#[104]⟩ : ByteArray) ++ t120)) l (l.length : Int) ((i + 1 : Nat) : Int)) else (none)) else (none))) else (if acc.size + 1 ≤ 9223372036854775807 then (impl_treeText.l0 k (acc ++ (⟨#[111]⟩ : ByteArray)) l (l.length : Int) ((i + 1 : Nat) : Int)) else (none))))) r → Ev (fun k => impl_treeText.l0 k acc l (l.length : Int) i) r := by
      intro r hr
      refine Ev.step (fun k => impl_treeText.l0.eq_2 acc l _ _ k) (ev_ite_pos cs (ev_ite_pos c0 (ev_ite_pos cs ?_)))
      rw [rdN l i hlt, e1]
      exact hr
    have num : ∀ (c : ByteArray), c.size = 1 → (0 ≤ l[i].f1 ∧ l[i].f1 ≤ 99) → ∃ t : ByteArray, t.size ≤ 2 ∧ (c ++ t).size ≤ 3 ∧ Ev (fun k => spec_l1Num.f k l[i].f1) t ∧ strconv_Itoa_24.f l[i].f1 = some t := by
      intro c hc hb
      obtain ⟨q, hq⟩ := Int.eq_ofNat_of_zero_le hb.1
      obtain ⟨t, t1, t2, t3⟩ := num_both q (by omega)
      rw [hq]
      exact ⟨t, t1, by rw [ByteArray.size_append]; omega, t2, t3⟩
    by_cases h0 : l[i].f0 = 0
    · have hb : 0 ≤ l[i].f1 ∧ l[i].f1 ≤ s - 1 := by
        unfold vN at hn
        rw [if_pos h0] at hn
        simpa using hn
      have e2 : wrap64 (l[i].f1 + 1) = l[i].f1 + 1 := w64 (by omega) (by omega)
      have hp : ((⟨#[120, 121, 122]⟩ : ByteArray).extract (l[i].f1).toNat (wrap64 (l[i].f1 + 1)).toNat).size ≤ 3 := by
        rw [ByteArray.size_extract]
        exact Nat.le_trans (Nat.sub_le _ _) (Nat.min_le_right _ _)
      obtain ⟨r, h1, h2⟩ := ih (i + 1) (acc ++ ((⟨#[120, 121, 122]⟩ : ByteArray).extract (l[i].f1).toNat (wrap64 (l[i].f1 + 1)).toNat)) (by omega) (by rw [ByteArray.size_append]; omega)
      exact ⟨r, start1 r (ev_ite_pos h0 (ev_ite_pos hb.1 (ev_ite_pos (by rw [e2]; omega) (ev_ite_pos (by rw [e2]; omega) (ev_ite_pos (by omega) h1))))), start2 r (ev_ite_pos h0 (ev_ite_pos hb.1 (ev_ite_pos (by rw [e2]; omega) (ev_ite_pos (by rw [e2]; omega) (ev_ite_pos (by omega) h2)))))⟩
    · by_cases h1 : l[i].f0 = 1
      · have hb : 0 ≤ l[i].f1 ∧ l[i].f1 ≤ 99 := by
          unfold vN at hn
          rw [if_neg h0, if_pos (.inl h1)] at hn
          simpa using hn
        obtain ⟨t, t1, t2, t3, t4⟩ := num ⟨#[102]⟩ rfl hb
        obtain ⟨r, r1, r2⟩ := ih (i + 1) (acc ++ ((⟨#[102]⟩ : ByteArray) ++ t)) (by omega) (by rw [ByteArray.size_append]; omega)
        refine ⟨r, start1 r (ev_ite_neg h0 (ev_ite_pos h1 (ev_bind t3 (ev_ite_pos (by omega) (ev_ite_pos (by omega) r1))))), start2 r (ev_ite_neg h0 (ev_ite_pos h1 ?_))⟩
        rw [t4]
        exact ev_some (ev_ite_pos (by omega) (ev_ite_pos (by omega) r2))
      · by_cases h2 : l[i].f0 = 2
        · have hb : 0 ≤ l[i].f1 ∧ l[i].f1 ≤ 99 := by
            unfold vN at hn
            rw [if_neg h0, if_pos (.inr h2)] at hn
            simpa using hn
          obtain ⟨t, t1, t2, t3, t4⟩ := num ⟨#[104]⟩ rfl hb
          obtain ⟨r, r1, r2⟩ := ih (i + 1) (acc ++ ((⟨#[104]⟩ : ByteArray) ++ t)) (by omega) (by rw [ByteArray.size_append]; omega)
          refine ⟨r, start1 r (ev_ite_neg h0 (ev_ite_neg h1 (ev_ite_pos h2 (ev_bind t3 (ev_ite_pos (by omega) (ev_ite_pos (by omega) r1)))))), start2 r (ev_ite_neg h0 (ev_ite_neg h1 (ev_ite_pos h2 ?_)))⟩
          rw [t4]
          exact ev_some (ev_ite_pos (by omega) (ev_ite_pos (by omega) r2))
        · obtain ⟨r, r1, r2⟩ := ih (i + 1) (acc ++ (⟨#[111]⟩ : ByteArray)) (by omega) (by rw [ByteArray.size_append]; show acc.size + 1 + _ ≤ _; omega)
          exact ⟨r, start1 r (ev_ite_neg h0 (ev_ite_neg h1 (ev_ite_neg h2 (ev_ite_pos (by omega) r1)))), start2 r (ev_ite_neg h0 (ev_ite_neg h1 (ev_ite_neg h2 (ev_ite_pos (by omega) r2))))⟩
/-- A tree's nodes are valid. -/
theorem run_valid (s : Int) {l : List Nd} {st : List Nat} (h : run s l st = some []) : ∀ n ∈ l, vN s n = true := ((run_iff s l st).1 h).2.1

theorem FnExactTreeText : laws_FnExactTreeText.Pure := by
  intro l s _ _ hl
  have fin : ∀ r : ByteArray × Bool, Ev (fun k => spec_TreeText.f k l s) r → Ev (fun k => impl_TreeText.f k l s) r → ∃ (r1 : ByteArray) (r2 : Bool), (∃ k, spec_TreeText.f k l s = some (r1, r2)) ∧ (∃ k, impl_TreeText.f k l s = some (r1, r2)) := by
    intro r h1 h2
    obtain ⟨k1, h4⟩ := h1.rounds
    obtain ⟨k2, h5⟩ := h2.rounds
    exact ⟨r.1, r.2, ⟨k1, h4⟩, ⟨k2, h5⟩⟩
  by_cases hT : isT s l = true
  · obtain ⟨hs, _, hrun⟩ := isT_facts hT
    obtain ⟨r, h1, h2⟩ := text_loop l hl s hs (run_valid s hrun) l.length 0 (⟨#[]⟩ : ByteArray) (by omega) (by show 0 + _ ≤ _; omega)
    refine fin (r, true) ?_ ?_
    · unfold spec_TreeText.f spec_trText.f
      exact ev_bind (trGood_ev l hl s) (ev_ite_pos hT (ev_bind h1 (Ev.now _)))
    · unfold impl_TreeText.f impl_treeText.f
      exact ev_bind (isTree_ev l hl s) (ev_ite_pos hT (ev_bind h2 (Ev.now _)))
  · refine fin (⟨#[]⟩, false) ?_ ?_
    · unfold spec_TreeText.f
      exact ev_bind (trGood_ev l hl s) (ev_ite_neg hT (Ev.now _))
    · unfold impl_TreeText.f
      exact ev_bind (isTree_ev l hl s) (ev_ite_neg hT (Ev.now _))

end Go.Proofs.YtnndolcjljhhcaaDoor.Pure
