/- Plain lemmas on what the printed functions come to. -/
import Derived.Test.YtnndolcjljhhcaaQA
import Derived.Test.YtnndolcjljhhcaaQS
set_option maxRecDepth 100000
set_option linter.unusedVariables false
set_option linter.unusedSimpArgs false
namespace Go.Proofs.YtnndolcjljhhcaaE
/-! entry -/
/-- A name of an entry. -/
def nmOk (s : ByteArray) : Bool := (List.range s.size).all (fun i => decide (97 ≤ (s.data.getD i 0).toNat ∧ (s.data.getD i 0).toNat ≤ 122))
theorem name_all {s : ByteArray} {f : Nat → Option Bool} {e : Option Bool} (h0 : f s.size = e)
    (h1 : ∀ i, i < s.size → f i = if decide (97 ≤ (s.data.getD i 0).toNat ∧ (s.data.getD i 0).toNat ≤ 122) then f (i + 1) else some false) : f 0 = if nmOk s then e else some false :=
  all_loop (f := f) (n := s.size) (fun _ => h0) (fun i hi _ => h1 i hi)
theorem caName_v {s : ByteArray} (hs : s.size ≤ 1000000) : s_caName s = some (nmOk s && decide (1 ≤ s.size ∧ s.size ≤ 8)) := by
  unfold s_caName
  refine (name_all (s := s) (f := fun i => s_caName_1002 s (i : Int)) (e := some (decide (1 ≤ s.size ∧ s.size ≤ 8))) ?_ fun i hi => ?_).trans ?_
  · show s_caName_1002 _ _ = _
    rw [Es_caName_1002, cf ltf, bret, l1In_v]
    congr 2; simp; omega
  · show s_caName_1002 _ _ = if _ then s_caName_1002 _ _ else _
    rw [Es_caName_1002, ct (ltt hi), ct (bA hi), ct (bA hi), sc hi (by omega), Int.toNat_natCast]
    generalize (s.data.getD i 0).toNat = c
    by_cases h1 : c < 97
    · rw [ct (by simp; omega), if_neg (by simp; omega)]
    · by_cases h2 : 122 < c
      · rw [cf (by simp; omega), ct (by simp; omega), if_neg (by simp; omega)]
      · rw [cf (by simp; omega), cf (by simp; omega), if_pos (by simp; omega)]
  · cases nmOk s <;> rfl
abbrev Bx := Int × List Int × List Int
abbrev En := ByteArray × List (List Tm) × Bx × Int × Int × Int
def overOk (s : List (List Tm)) (b : Bx) : Bool := sOk s && (bOk b.1 b.2.1 b.2.2 && decide (s.length = b.2.1.length))
theorem vaBoth_v {s : List (List Tm)} {b : Bx} (hn : s.length ≤ 1000000) (hp : ∀ p ∈ s, p.length ≤ 1000000) : s_vaBoth s b.1 b.2.1 b.2.2 = some (overOk s b) := by
  unfold s_vaBoth overOk
  rw [bsome (poSystem_v hn hp)]
  cases sOk s with
  | false => rfl
  | true =>
    rw [ct rfl, bsome bxGood_v]
    cases bOk b.1 b.2.1 b.2.2 with
    | false => rfl
    | true => rw [ct rfl]; congr 1; simp; omega
theorem systemOver_v {s : List (List Tm)} {b : Bx} (hn : s.length ≤ 1000000) (hp : ∀ p ∈ s, p.length ≤ 1000000) : i_systemOver s b = some (overOk s b) := by
  unfold i_systemOver overOk
  rw [bsome (isSystem_v hn hp)]
  cases sOk s with
  | false => rfl
  | true =>
    rw [ct rfl, bsome isBox_v]
    cases bOk b.1 b.2.1 b.2.2 with
    | false => rfl
    | true => rw [ct rfl]; congr 1; simp; omega
/-- Whether an entry is valid. -/
def enOk (e : En) : Bool := (nmOk e.1 && decide (1 ≤ e.1.size ∧ e.1.size ≤ 8)) && (overOk e.2.1 e.2.2.1 && decide (0 ≤ e.2.2.2.1 ∧ e.2.2.2.1 ≤ e.2.2.2.2.1 ∧ e.2.2.2.2.1 ≤ 64 ∧ 1 ≤ e.2.2.2.2.2 ∧ e.2.2.2.2.2 ≤ 999))
theorem caEntry_v {e : En} (hs : e.1.size ≤ 1000000) (hn : e.2.1.length ≤ 1000000) (hp : ∀ p ∈ e.2.1, p.length ≤ 1000000) : s_caEntry e.1 e.2.1 e.2.2.1.1 e.2.2.1.2.1 e.2.2.1.2.2 e.2.2.2.1 e.2.2.2.2.1 e.2.2.2.2.2 = some (enOk e) := by
  unfold s_caEntry enOk
  rw [bsome (caName_v hs)]
  cases nmOk e.1 && decide (1 ≤ e.1.size ∧ e.1.size ≤ 8) with
  | false => rfl
  | true =>
    rw [ct rfl, bsome (vaBoth_v (b := e.2.2.1) hn hp)]
    cases overOk e.2.1 e.2.2.1 with
    | false => rfl
    | true =>
      simp only [l1In_v, Option.bind_some, cond_true, Bool.true_and, cond_eq_ite, decide_eq_true_eq]
      (repeat' split) <;> simp only [Option.some.injEq, decide_eq_decide, Bool.false_eq, Bool.true_eq, decide_eq_false_iff_not, decide_eq_true_eq] <;> first | omega | simp_all
theorem isEntry_v {e : En} (hs : e.1.size ≤ 1000000) (hn : e.2.1.length ≤ 1000000) (hp : ∀ p ∈ e.2.1, p.length ≤ 1000000) : i_isEntry e = some (enOk e) := by
  unfold i_isEntry
  refine (name_all (s := e.1) (f := fun i => i_isEntry_1002 e e.1.size (i : Int)) (e := some (decide (1 ≤ e.1.size ∧ e.1.size ≤ 8) && (overOk e.2.1 e.2.2.1 && decide (0 ≤ e.2.2.2.1 ∧ e.2.2.2.1 ≤ e.2.2.2.2.1 ∧ e.2.2.2.2.1 ≤ 64 ∧ 1 ≤ e.2.2.2.2.2 ∧ e.2.2.2.2.2 ≤ 999)))) ?_ fun i hi => ?_).trans ?_
  · show i_isEntry_1002 _ _ _ = _
    rw [Ei_isEntry_1002, cf ltf, bsome (inside_v ..)]
    by_cases h : 1 ≤ e.1.size ∧ e.1.size ≤ 8
    · rw [ct (by simp; omega), bsome (systemOver_v hn hp)]
      cases overOk e.2.1 e.2.2.1 with
      | false => simp
      | true =>
        simp only [inside_v, Option.bind_some, cond_true, cond_eq_ite, h, and_self, decide_true, Bool.true_and, decide_eq_true_eq]
        (repeat' split) <;> simp only [Option.some.injEq, decide_eq_decide, Bool.false_eq, Bool.true_eq, decide_eq_false_iff_not, decide_eq_true_eq] <;> first | omega | simp_all
    · rw [cf (by simp; omega)]; simp [h]
  · show i_isEntry_1002 _ _ _ = if _ then i_isEntry_1002 _ _ _ else _
    rw [Ei_isEntry_1002, ct (ltt hi), ct (bA hi), ct (bA hi), sc hi (by omega), Int.toNat_natCast]
    generalize (e.1.data.getD i 0).toNat = c
    by_cases h1 : c < 97
    · rw [ct (by simp; omega), if_neg (by simp; omega)]
    · by_cases h2 : 122 < c
      · rw [cf (by simp; omega), ct (by simp; omega), if_neg (by simp; omega)]
      · rw [cf (by simp; omega), cf (by simp; omega), if_pos (by simp; omega)]
  · unfold enOk
    cases nmOk e.1 <;> cases decide (1 ≤ e.1.size ∧ e.1.size ≤ 8) <;> rfl
/-! mainIsEntry -/
theorem main_FnExactIsEntry {x : En} (h : SzEntry 1000000 x) : ∃ w, s_IsEntry x.1 x.2.1 x.2.2.1.1 x.2.2.1.2.1 x.2.2.1.2.2 x.2.2.2.1 x.2.2.2.2.1 x.2.2.2.2.2 = some w ∧ i_IsEntry x.1 x.2.1 x.2.2.1.1 x.2.2.1.2.1 x.2.2.1.2.2 x.2.2.2.1 x.2.2.2.2.1 x.2.2.2.2.2 = some w := by
  obtain ⟨h1, ⟨h2, h3⟩, h4⟩ := h
  refine ⟨enOk x, ?_, ?_⟩
  · unfold s_IsEntry; rw [bret]; exact caEntry_v h1 h2 h3
  · unfold i_IsEntry; rw [bret]; exact isEntry_v (e := x) h1 h2 h3
end Go.Proofs.YtnndolcjljhhcaaE
