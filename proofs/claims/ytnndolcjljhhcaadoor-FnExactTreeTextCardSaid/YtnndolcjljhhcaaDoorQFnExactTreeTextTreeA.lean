/- Trees as lists of nodes: the program's test and the reference's agree. -/
import Derived.Test.YtnndolcjljhhcaaDoorPFnExactTreeTextx
namespace Go.Proofs.YtnndolcjljhhcaaDoor.Pure
open Go.RowKit Go.Proofs.YtnndolcjljhhcaaDoorX Go.Proofs.YtnndolcjljhhcaaDoor.PFnExactTreeText Go.Proofs.YtnndolcjljhhcaaDoorW.PrintWords Go.Proofs.YtnndolcjljhhcaaDoorW.PrintLast Go.Proofs.YtnndolcjljhhcaaDoorW.PrintMore
abbrev Nd := S34
theorem rdN (l : List Nd) (i : Nat) (h : i < l.length) : rd_T34 l (i : Int) = l[i] := by
  unfold rd_T34
  rw [Int.toNat_natCast, List.getD_eq_getElem?_getD, List.getElem?_eq_getElem h]
  rfl

/-- Is a node valid for a number of sides. -/
def vN (s : Int) (n : Nd) : Bool := if n.f0 = 0 then decide (0 ≤ n.f1 ∧ n.f1 ≤ s - 1) else if n.f0 = 1 ∨ n.f0 = 2 then decide (0 ≤ n.f1 ∧ n.f1 ≤ 99) else if n.f0 = 3 then decide (n.f1 = 0) else false
/-- The nodes behind as many trees as the stack has depths, or none; each node is tested. -/
def run (s : Int) : List Nd → List Nat → Option (List Nd)
  | l, [] => some l
  | [], _ :: _ => none
  | n :: l, d :: st => if 20 < d then none else if vN s n then (if n.f0 = 0 then run s l ((d + 1) :: (d + 1) :: st) else run s l st) else none
/-- The same without tests. -/
def cnt : List Nd → Nat → Option (List Nd)
  | l, 0 => some l
  | [], _ + 1 => none
  | n :: l, c + 1 => if n.f0 = 0 then cnt l (c + 2) else cnt l c
/-- The depths of the nodes, as the stack goes. -/
def deps : List Nd → List Nat → List Nat
  | [], _ => []
  | _ :: l, [] => l.map (fun _ => 0)
  | n :: l, d :: st => d :: (if n.f0 = 0 then deps l ((d + 1) :: (d + 1) :: st) else deps l st)

theorem run_append (s : Int) : ∀ (l : List Nd) (a b : List Nat), run s l (a ++ b) = (run s l a).bind fun r => run s r b
  | l, [], b => by
    cases l <;> simp [run]
  | [], d :: a, b => by simp [run]
  | n :: l, d :: a, b => by
    simp only [List.cons_append, run]
    split
    · rfl
    · split
      · split
        · have := run_append s l ((d + 1) :: (d + 1) :: a) b
          simpa using this
        · exact run_append s l a b
      · rfl
theorem run_cons (s : Int) (l : List Nd) (d : Nat) (b : List Nat) : run s l (d :: b) = (run s l [d]).bind fun r => run s r b := run_append s l [d] b
theorem run_suffix (s : Int) : ∀ (l : List Nd) (st : List Nat) (r : List Nd), run s l st = some r → ∃ p, l = p ++ r ∧ st.length ≤ p.length
  | l, [], r, h => by
    have : l = r := by cases l <;> simpa [run] using h
    exact ⟨[], by simp [this], by simp⟩
  | [], d :: st, r, h => by simp [run] at h
  | n :: l, d :: st, r, h => by
    simp only [run] at h
    split at h
    · cases h
    · split at h
      · split at h
        · obtain ⟨p, rfl, hp⟩ := run_suffix s l _ r h
          exact ⟨n :: p, rfl, by simp at hp ⊢; omega⟩
        · obtain ⟨p, rfl, hp⟩ := run_suffix s l _ r h
          exact ⟨n :: p, rfl, by simp at hp ⊢; omega⟩
      · cases h
theorem run_cnt (s : Int) : ∀ (l : List Nd) (st : List Nat) (r : List Nd), run s l st = some r → cnt l st.length = some r
  | l, [], r, h => by
    have : l = r := by cases l <;> simpa [run] using h
    cases l <;> simp [cnt, this] <;> simpa using this
  | [], d :: st, r, h => by simp [run] at h
  | n :: l, d :: st, r, h => by
    simp only [run] at h
    split at h
    · cases h
    · split at h
      · simp only [List.length_cons, cnt]
        split at h
        · rename_i h0
          rw [if_pos h0]
          exact run_cnt s l _ r h
        · rename_i h0
          rw [if_neg h0]
          exact run_cnt s l _ r h
      · cases h
/-- All nodes read, each valid and not too deep: just that. -/
theorem run_iff (s : Int) : ∀ (l : List Nd) (st : List Nat), run s l st = some [] ↔ cnt l st.length = some [] ∧ (∀ n ∈ l, vN s n = true) ∧ ∀ d ∈ deps l st, d ≤ 20
  | [], [] => by simp [run, cnt, deps]
  | n :: l, [] => by simp [run, cnt]
  | [], d :: st => by simp [run, cnt]
  | n :: l, d :: st => by
    simp only [run, List.length_cons, cnt, deps, List.mem_cons, forall_eq_or_imp]
    by_cases hd : 20 < d
    · simp only [if_pos hd]
      constructor
      · intro h; cases h
      · rintro ⟨_, _, h, _⟩; omega
    · rw [if_neg hd]
      by_cases hv : vN s n = true
      · rw [if_pos hv]
        by_cases h0 : n.f0 = 0
        · simp only [if_pos h0]
          rw [run_iff s l]
          simp only [List.length_cons]
          constructor
          · rintro ⟨a, b, c⟩; exact ⟨a, ⟨hv, b⟩, by omega, c⟩
          · rintro ⟨a, ⟨_, b⟩, _, c⟩; exact ⟨a, b, c⟩
        · simp only [if_neg h0]
          rw [run_iff s l]
          constructor
          · rintro ⟨a, b, c⟩; exact ⟨a, ⟨hv, b⟩, by omega, c⟩
          · rintro ⟨a, ⟨_, b⟩, _, c⟩; exact ⟨a, b, c⟩
      · rw [if_neg hv]
        constructor
        · intro h; cases h
        · rintro ⟨_, ⟨h, _⟩, _⟩; exact absurd h hv

theorem deps_length : ∀ (l : List Nd) (c : Nat) (st : List Nat), st.length = c → cnt l c = some [] → (deps l st).length = l.length
  | [], _, _, _, _ => by simp [deps]
  | n :: l, 0, st, hst, h => by simp [cnt] at h
  | n :: l, c + 1, [], hst, h => by simp at hst
  | n :: l, c + 1, d :: st, hst, h => by
    simp only [cnt] at h
    simp only [deps, List.length_cons]
    split at h
    · rename_i h0
      rw [if_pos h0, deps_length l (c + 2) _ (by simp at hst ⊢; omega) h]
    · rename_i h0
      rw [if_neg h0, deps_length l c _ (by simpa using hst) h]

/-! ### The program's test -/
def teV (l : List Nd) (r : Option (List Nd)) : Int := match r with | some r => (l.length : Int) - (r.length : Int) | none => -1
theorem treeEnd_ev (l : List Nd) (hl : l.length ≤ 1000000) : ∀ (m p o : Nat), p + m = l.length → o + m ≤ 4000000 → Ev (fun k => impl_treeEnd.l0 k l p o) (teV l (cnt (l.drop p) o)) := by
  intro m
  induction m with
  | zero =>
    intro p o hp ho
    refine Ev.step (fun k => impl_treeEnd.l0.eq_2 l p o k) ?_
    obtain rfl : p = l.length := by omega
    rw [List.drop_length]
    cases o with
    | zero =>
      refine ev_ite_neg (by simp) (evc fun k => ?_)
      simp [teV, cnt]
    | succ o =>
      refine ev_ite_pos (by omega) (ev_ite_pos rfl (evc fun k => ?_))
      simp [teV, cnt]
  | succ m ih =>
    intro p o hp ho
    refine Ev.step (fun k => impl_treeEnd.l0.eq_2 l p o k) ?_
    have hlt : p < l.length := by omega
    cases o with
    | zero =>
      refine ev_ite_neg (by simp) (evc fun k => ?_)
      rw [drop_at l p hlt]
      simp only [teV, cnt, List.length_cons, List.length_drop]
      congr 1
      omega
    | succ o =>
      refine ev_ite_pos (by omega) (ev_ite_neg (by omega) (ev_ite_pos (by omega) (ev_ite_pos (by omega) ?_)))
      rw [rdN l p hlt, drop_at l p hlt]
      simp only [cnt]
      rw [w64 (x := (p : Int) + 1) (by omega) (by omega), w64 (x := ((o + 1 : Nat) : Int) + 1) (by omega) (by omega), w64 (x := ((o + 1 : Nat) : Int) - 1) (by omega) (by omega)]
      by_cases h0 : l[p].f0 = 0
      · rw [if_pos h0]
        refine ev_ite_pos h0 ?_
        exact ih (p + 1) (o + 2) (by omega) (by omega)
      · rw [if_neg h0]
        refine ev_ite_neg h0 ?_
        have e : ((o + 1 : Nat) : Int) - 1 = (o : Int) := by omega
        rw [e]
        exact ih (p + 1) o (by omega) (by omega)

theorem isNode_ev (s : Int) (hs : 1 ≤ s ∧ s ≤ 3) (a b : Int) : Ev (fun k => impl_isNode.f k a b s) (vN s ⟨a, b⟩) := by
  unfold impl_isNode.f impl_inside.f vN
  rw [w64 (x := s - 1) (by omega) (by omega)]
  by_cases h0 : a = 0
  · subst h0
    simp only [if_true]
    by_cases h1 : b ≥ 0
    · rw [if_pos h1]
      simp only [Option.bind_some]
      refine evc fun k => ?_
      congr 1
      simp
      omega
    · rw [if_neg h1]
      simp only [Option.bind_some]
      refine evc fun k => ?_
      congr 1
      simp
      omega
  · simp only [if_neg h0]
    have key : ∀ c : Bool, c = decide (a = 1 ∨ a = 2) → Ev (fun k => impl_isNode.j0 k a c a b) (if a = 1 ∨ a = 2 then decide (0 ≤ b ∧ b ≤ 99) else if a = 3 then decide (b = 0) else false) := by
      intro c hc
      refine Ev.step (fun k => impl_isNode.j0.eq_2 a c a b k) ?_
      unfold impl_inside.f
      by_cases h1 : a = 1 ∨ a = 2
      · have : c = true := by simpa [hc] using h1
        simp only [this, if_true, if_pos h1]
        refine evc fun k => ?_
        by_cases h2 : b ≥ 0
        · rw [if_pos h2]
          simp only [Option.bind_some]
          congr 1
          simp
          omega
        · rw [if_neg h2]
          simp only [Option.bind_some]
          congr 1
          simp
          omega
      · have : c = false := by simpa [hc] using h1
        simp only [this, if_neg h1]
        refine evc fun k => ?_
        simp only [Bool.false_eq_true, if_false]
        split
        · congr 1
        · rfl
    by_cases h1 : a = 1
    · subst h1
      simp only [if_true]
      exact key _ (by simp)
    · simp only [if_neg h1]
      exact key _ (by simp [h1]; rfl)

/-- The paths' lengths are the depths. -/
theorem pathsOf_ev (l : List Nd) (hl : l.length ≤ 1000000) : ∀ (m i : Nat) (op out : List ByteArray), i + m = l.length → out.length = i → op.length + m ≤ 4000000 → (∀ s ∈ op, s.size + m ≤ 4000000) → cnt (l.drop i) op.length = some [] →
    ∃ ps, Ev (fun k => impl_pathsOf.l0 k op out l (l.length : Int) i) (out ++ ps) ∧ ps.map (·.size) = deps (l.drop i) (op.reverse.map (·.size)) := by
  intro m
  induction m with
  | zero =>
    intro i op out hi ho hop hsz hc
    obtain rfl : i = l.length := by omega
    refine ⟨[], Ev.step (fun k => impl_pathsOf.l0.eq_2 op out l _ _ k) (ev_ite_neg (by omega) (evc fun k => by simp)), ?_⟩
    rw [List.drop_length]
    simp [deps]
  | succ m ih =>
    intro i op out hi ho hop hsz hc
    have hlt : i < l.length := by omega
    rw [drop_at l i hlt] at hc ⊢
    have hne : op ≠ [] := by
      rintro rfl
      simp [cnt] at hc
      omega
    obtain ⟨q, top, rfl⟩ : ∃ q top, op = q ++ [top] := ⟨op.dropLast, op.getLast hne, (List.dropLast_concat_getLast hne).symm⟩
    have hql : (q ++ [top]).length = q.length + 1 := by simp
    have e1 : wrap64 (((q ++ [top]).length : Int) - 1) = (q.length : Int) := by rw [hql, w64 (by omega) (by omega)]; omega
    have e2 : (q ++ [top]).take ((q.length : Int)).toNat = q := by simp
    have e3 : rdOf ByteArray.empty (q ++ [top]) (q.length : Int) = top := by rw [rdOf_at _ _ _ (by simp)]; simp
    have e4 : wrap64 ((i : Int) + 1) = ((i + 1 : Nat) : Int) := by rw [w64 (by omega) (by omega)]; omega
    have htop := hsz top (by simp)
    rw [hql] at hc
    simp only [cnt] at hc
    have hrev : ((q ++ [top]).reverse.map (·.size)) = top.size :: (q.reverse.map (·.size)) := by simp
    rw [hrev]
    simp only [deps]
    have hu : (top ++ (⟨#[117]⟩ : ByteArray)).size = top.size + 1 := by rw [ByteArray.size_append]; rfl
    have hd : (top ++ (⟨#[108]⟩ : ByteArray)).size = top.size + 1 := by rw [ByteArray.size_append]; rfl
    by_cases h0 : l[i].f0 = 0
    · rw [if_pos h0] at hc ⊢
      obtain ⟨ps, hev, hps⟩ := ih (i + 1) (q ++ [top ++ (⟨#[117]⟩ : ByteArray), top ++ (⟨#[108]⟩ : ByteArray)]) (out ++ [top]) (by omega) (by simp [ho]) (by simp at hop ⊢; omega) (by
        intro s hs
        simp only [List.mem_append, List.mem_cons, List.not_mem_nil, or_false] at hs
        rcases hs with hs | rfl | rfl
        · have := hsz s (by simp [hs]); omega
        · rw [hu]; omega
        · rw [hd]; omega) (by simpa using hc)
      refine ⟨top :: ps, ?_, by simp [hps, hu, hd]⟩
      refine Ev.step (fun k => impl_pathsOf.l0.eq_2 (q ++ [top]) out l _ _ k) ?_
      refine ev_ite_pos (by omega) (ev_ite_pos (by omega) (ev_ite_pos (by omega) ?_))
      rw [e1]
      refine ev_ite_pos (by omega) (ev_ite_pos (by omega) (ev_ite_pos (by omega) ?_))
      rw [e2, e3, e4, rdN l i hlt]
      refine ev_some (ev_ite_pos (by omega) (ev_some (ev_ite_pos h0 (ev_ite_pos (by omega) (ev_some (ev_ite_pos ?_ ?_))))))
      · simp at hop ⊢; omega
      · simpa using hev
    · rw [if_neg h0] at hc ⊢
      obtain ⟨ps, hev, hps⟩ := ih (i + 1) q (out ++ [top]) (by omega) (by simp [ho]) (by simp at hop ⊢; omega) (fun s hs => by have := hsz s (by simp [hs]); omega) hc
      refine ⟨top :: ps, ?_, by simp [hps]⟩
      refine Ev.step (fun k => impl_pathsOf.l0.eq_2 (q ++ [top]) out l _ _ k) ?_
      refine ev_ite_pos (by omega) (ev_ite_pos (by omega) (ev_ite_pos (by omega) ?_))
      rw [e1]
      refine ev_ite_pos (by omega) (ev_ite_pos (by omega) (ev_ite_pos (by omega) ?_))
      rw [e2, e3, e4, rdN l i hlt]
      refine ev_some (ev_ite_pos (by omega) (ev_some (ev_ite_neg h0 ?_)))
      simpa using hev

theorem isTree_loop (l : List Nd) (hl : l.length ≤ 1000000) (s : Int) (hs : 1 ≤ s ∧ s ≤ 3) (ps : List ByteArray) (hps : ps.length = l.length) : ∀ (m i : Nat), i + m = l.length →
    Ev (fun k => impl_isTree.l0 k l s ps (ps.length : Int) i) ((l.drop i).all (vN s) && (ps.drop i).all (fun p => decide (p.size ≤ 20))) := by
  intro m
  induction m with
  | zero =>
    intro i hi
    obtain rfl : i = l.length := by omega
    refine Ev.step (fun k => impl_isTree.l0.eq_2 l s ps _ _ k) (ev_ite_neg (by omega) (evc fun k => ?_))
    rw [← hps, List.drop_length, hps, List.drop_length]
    rfl
  | succ m ih =>
    intro i hi
    have hlt : i < l.length := by omega
    have hlt' : i < ps.length := by omega
    have e4 : wrap64 ((i : Int) + 1) = ((i + 1 : Nat) : Int) := by rw [w64 (by omega) (by omega)]; omega
    refine Ev.step (fun k => impl_isTree.l0.eq_2 l s ps _ _ k) (ev_ite_pos (by omega) (ev_ite_pos (by omega) (ev_ite_pos (by omega) (ev_ite_pos (by omega) ?_))))
    rw [drop_at l i hlt, drop_at ps i hlt', rdN l i hlt, rdOf_at _ _ _ hlt', e4]
    refine ev_bind (isNode_ev s hs _ _) ?_
    simp only [List.all_cons]
    by_cases hv : vN s l[i] = true
    · refine ev_ite_pos hv ?_
      by_cases hz : ps[i].size ≤ 20
      · refine ev_ite_neg (by omega) ?_
        have := ih (i + 1) (by omega)
        rw [hv]
        simpa [hz] using this
      · refine ev_ite_pos (by omega) (evc fun k => ?_)
        simp [hz]
    · refine ev_ite_neg hv (evc fun k => ?_)
      simp [hv]

/-- Is a list a tree for a number of sides. -/
def whole (r : Option (List Nd)) : Bool := match r with | some [] => true | _ => false
theorem whole_iff (r : Option (List Nd)) : whole r = true ↔ r = some [] := by
  unfold whole
  split
  · simp
  · rename_i h
    simp
    exact h
def isT (s : Int) (l : List Nd) : Bool := decide (1 ≤ s ∧ s ≤ 3) && (decide (l.length ≤ 200) && whole (run s l [0]))
theorem isTree_ev (l : List Nd) (hl : l.length ≤ 1000000) (s : Int) : Ev (fun k => impl_isTree.f k l s) (isT s l) := by
  unfold impl_isTree.f impl_inside.f isT
  have jt : Ev (fun k => impl_isTree.j0 k l s true) false := Ev.step (fun k => impl_isTree.j0.eq_2 l s true k) (ev_ite_pos rfl (Ev.now _))
  by_cases h1 : s ≥ 1
  · simp only [if_pos h1, Option.bind_some]
    by_cases h2 : s ≤ 3
    · simp only [h2, decide_true, if_true]
      have hs : decide (1 ≤ s ∧ s ≤ 3) = true := by simp; omega
      rw [show decide (1 ≤ s ∧ True) = true by simpa using h1]
      by_cases h3 : (l.length : Int) > 200
      · refine ev_ite_pos h3 ?_
        rw [show decide (l.length ≤ 200) = false by simp; omega]
        exact jt
      · refine ev_ite_neg h3 ?_
        rw [show decide (l.length ≤ 200) = true by simp; omega]
        unfold impl_treeEnd.f
        refine ev_bind (treeEnd_ev l hl l.length 0 1 (by omega) (by omega)) ?_
        rw [List.drop_zero]
        simp only [Bool.true_and]
        by_cases hc : cnt l 1 = some []
        · have e : (teV l (cnt l 1) != (l.length : Int)) = false := by simp [hc, teV]
          rw [e]
          refine Ev.step (fun k => impl_isTree.j0.eq_2 l s false k) (ev_ite_neg (by simp) ?_)
          obtain ⟨ps, hev, hps⟩ := pathsOf_ev l hl l.length 0 [(⟨#[]⟩ : ByteArray)] [] (by omega) rfl (by simp; omega) (by
            intro s hs
            rw [List.mem_singleton.1 hs]
            show 0 + _ ≤ _
            omega) (by simpa using hc)
          have hpl : ps.length = l.length := by
            have := congrArg List.length hps
            rw [List.length_map, List.drop_zero] at this
            rw [this]
            exact deps_length l 1 _ rfl hc
          unfold impl_pathsOf.f
          refine ev_bind (by simpa using hev) ?_
          have := isTree_loop l hl s ⟨h1, h2⟩ ps hpl l.length 0 (by omega)
          rw [List.drop_zero, List.drop_zero] at this
          have e : (l.all (vN s) && ps.all (fun p => decide (p.size ≤ 20))) = whole (run s l [0]) := by
            rw [Bool.eq_iff_iff, whole_iff, run_iff]
            simp only [Bool.and_eq_true, List.all_eq_true, decide_eq_true_eq, List.length_singleton, hc, true_and]
            rw [List.drop_zero] at hps
            refine and_congr_right fun _ => ?_
            have : deps l [0] = ps.map (·.size) := hps.symm
            rw [this]
            simp
          rw [← e]
          exact this
        · have e : (teV l (cnt l 1) != (l.length : Int)) = true := by
            cases hr : cnt l 1 with
            | none => simp [teV]; try omega
            | some r =>
              cases r with
              | nil => exact absurd hr hc
              | cons n r => simp [teV]; try omega
          rw [e]
          have : whole (run s l [0]) = false := by
            rw [Bool.eq_false_iff]
            intro h
            rw [whole_iff, run_iff] at h
            exact hc h.1
          rw [this]
          exact jt
    · simp only [h2, decide_false, Bool.false_eq_true, if_false]
      rw [show decide (1 ≤ s ∧ False) = false by simp]
      exact jt
  · simp only [if_neg h1, Option.bind_some, Bool.false_eq_true, if_false]
    rw [show decide (1 ≤ s ∧ s ≤ 3) = false by simp; omega]
    exact jt

end Go.Proofs.YtnndolcjljhhcaaDoor.Pure
