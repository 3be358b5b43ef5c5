/- Plain lemmas on what the printed functions come to. -/
import Derived.Test.YtbaeikcfchiiaaaFX
import Derived.Test.YtbaeikcfchiiaaaFQ
import Derived.Lib.Bytealg
import Derived.Lib.Strings
set_option maxRecDepth 100000
set_option linter.unusedVariables false
set_option linter.unusedSimpArgs false
namespace Go.Proofs.YtbaeikcfchiiaaaE
/-! cmpb -/
theorem cmpB_lt : ∀ a b : List UInt8, Go.Lib.compareBytes a b < 0 ↔ a < b
  | [], [] => by simp [Go.Lib.compareBytes]
  | _ :: _, [] => by simp [Go.Lib.compareBytes]
  | [], _ :: _ => by simp [Go.Lib.compareBytes]
  | a :: x, b :: y => by
    rw [Go.Lib.compareBytes, List.cons_lt_cons_iff]
    by_cases h1 : a < b
    · simp [h1]
    · by_cases h2 : b < a
      · have : a ≠ b := by rintro rfl; exact h1 h2
        simp [h1, h2, this]
      · have : a = b := UInt8.le_antisymm (UInt8.not_lt.1 h2) (UInt8.not_lt.1 h1)
        subst this
        simp [h1, cmpB_lt x y]
theorem cmpB_eq : ∀ a b : List UInt8, Go.Lib.compareBytes a b = 0 ↔ a = b
  | [], [] => by simp [Go.Lib.compareBytes]
  | _ :: _, [] => by simp [Go.Lib.compareBytes]
  | [], _ :: _ => by simp [Go.Lib.compareBytes]
  | a :: x, b :: y => by
    rw [Go.Lib.compareBytes]
    by_cases h1 : a < b
    · have : a ≠ b := by rintro rfl; exact absurd h1 (UInt8.lt_irrefl a)
      simp [h1, this]
    · by_cases h2 : b < a
      · have : a ≠ b := by rintro rfl; exact h1 h2
        simp [h1, h2, this]
      · have : a = b := UInt8.le_antisymm (UInt8.not_lt.1 h2) (UInt8.not_lt.1 h1)
        subst this
        simp [h1, cmpB_eq x y]
theorem bless : ∀ (x y : List UInt8), Op.bytesLess x y = decide (x < y)
  | [], [] => by simp [Op.bytesLess]
  | _ :: _, [] => by simp [Op.bytesLess]
  | [], _ :: _ => by simp [Op.bytesLess]
  | a :: x, b :: y => by
    rw [Op.bytesLess, bless x y]
    simp only [List.cons_lt_cons_iff]
    by_cases h1 : a < b <;> by_cases h2 : a = b <;> by_cases h3 : x < y <;> simp [h1, h2, h3]
theorem cmpS_lt {a b : ByteArray} : Extern.BytealgCompare.cmp a b < 0 ↔ Op.bytesLess a.toList b.toList = true := by
  rw [Go.Lib.cmp_eq, cmpB_lt, bless, Go.Lib.toList_data, Go.Lib.toList_data, decide_eq_true_iff]
theorem cmpS_eq {a b : ByteArray} : Extern.BytealgCompare.cmp a b = 0 ↔ a = b := by
  rw [Go.Lib.cmp_eq, cmpB_eq]
  constructor
  · intro h
    obtain ⟨⟨a⟩⟩ := a
    obtain ⟨⟨b⟩⟩ := b
    have h : a = b := h
    rw [h]
  · rintro rfl; rfl
/-! u64 -/
theorem wrapu (n : Int) : IntKind.wrap .u64 n = n % 18446744073709551616 := by
  unfold IntKind.wrap
  rw [show IntKind.signed .u64 = false from rfl, show IntKind.bits .u64 = 64 from rfl]
  simp
theorem wrapu_nat {n : Nat} (h : n < 18446744073709551616) : IntKind.wrap .u64 (n : Int) = (n : Int) := by rw [wrapu]; omega
theorem fdiv_nat (a b : Nat) : Int.fdiv (a : Int) (b : Int) = ((a / b : Nat) : Int) := by
  rw [Int.fdiv_eq_ediv_of_nonneg _ (by omega)]; rfl
theorem pow_nat (k : Nat) : (2 : Int) ^ k = ((2 ^ k : Nat) : Int) := by simp
/-! findsys -/
def lsN (l : List En) (name : ByteArray) (j : Nat) : Bool := Op.bytesLess (eAt l j).1.toList name.toList
theorem cat_adj {l : List En} (h : caOk l = true) {j : Nat} (h0 : 0 < j) (hj : j < l.length) : Op.bytesLess (eAt l (j - 1)).1.toList (eAt l j).1.toList = true := by
  unfold caOk at h
  simp only [Bool.and_eq_true, List.all_eq_true, List.mem_range] at h
  have := h.1 j hj
  unfold cStep at this
  simp only [Bool.and_eq_true, Bool.or_eq_true, decide_eq_true_eq] at this
  rcases this.2 with h1 | h1
  · omega
  · exact h1
theorem cat_down {l : List En} (h : caOk l = true) {name : ByteArray} : ∀ {d j : Nat}, j + d < l.length → lsN l name (j + d) = true → lsN l name j = true
  | 0, j, _, hl => hl
  | d + 1, j, hj, hl => by
    have h1 := cat_adj h (show 0 < j + (d + 1) by omega) hj
    refine cat_down (d := d) h (by omega) ?_
    unfold lsN at hl ⊢
    rw [show j + (d + 1) - 1 = j + d from rfl] at h1
    rw [bless, decide_eq_true_iff] at h1 hl ⊢
    exact List.lt_trans h1 hl
/-- The place of a name: all ahead are less. -/
def IsPl (l : List En) (name : ByteArray) (k : Nat) : Prop := k ≤ l.length ∧ (∀ j, j < k → lsN l name j = true) ∧ (k < l.length → lsN l name k = false)
theorem isPl_uniq {l : List En} {name : ByteArray} {k m : Nat} (h1 : IsPl l name k) (h2 : IsPl l name m) : k = m := by
  obtain ⟨a1, a2, a3⟩ := h1
  obtain ⟨b1, b2, b3⟩ := h2
  by_cases h : k < m
  · have := a3 (by omega); rw [b2 k h] at this; cases this
  · by_cases h' : m < k
    · have := b3 (by omega); rw [a2 m h'] at this; cases this
    · omega
theorem mid_v {i j : Nat} (h : i + j ≤ 4000000) : IntKind.wrap .i64 (Int.fdiv (IntKind.wrap .u64 (IntKind.wrap .i64 ((i : Int) + (j : Int)))) (2 ^ min (Int.toNat 1) (IntKind.bits .u64))) = (((i + j) / 2 : Nat) : Int) := by
  rw [wrap64 (n := (i : Int) + (j : Int)) (by omega) (by omega), show (i : Int) + (j : Int) = ((i + j : Nat) : Int) by omega, wrapu_nat (by omega), show (2 : Int) ^ min (Int.toNat 1) (IntKind.bits .u64) = ((2 : Nat) : Int) from rfl, fdiv_nat, wrap64 (by omega) (by omega)]
theorem caPlace_v {l : List En} {name : ByteArray} (hl : l.length ≤ 1000000) : ∃ k : Nat, s_caPlace l name = some (k : Int) ∧ IsPl l name k := by
  have main : ∀ m i : Nat, i + m = l.length → (∀ j, j < i → lsN l name j = true) → ∃ k : Nat, s_caPlace_1002 l name (i : Int) = some (k : Int) ∧ IsPl l name k := by
    intro m
    induction m with
    | zero =>
      intro i hi hp
      obtain rfl : i = l.length := by omega
      exact ⟨l.length, by rw [Es_caPlace_1002, cf ltf], Nat.le_refl _, hp, fun h => absurd h (Nat.lt_irrefl _)⟩
    | succ m ih =>
      intro i hi hp
      have hi' : i < l.length := by omega
      rw [Es_caPlace_1002, ct (ltt hi'), ct (bA hi'), eAt_v, sc hi' (by omega)]
      cases h : lsN l name i with
      | true =>
        unfold lsN at h
        rw [ct h]
        refine ih (i + 1) (by omega) fun j hj => ?_
        by_cases e : j = i
        · rw [e]; exact h
        · exact hp j (by omega)
      | false =>
        have h' := h
        unfold lsN at h'
        rw [cf h']
        exact ⟨i, rfl, by omega, hp, fun _ => h⟩
  exact main l.length 0 (by omega) fun j hj => absurd hj (Nat.not_lt_zero j)
def atN (l : List En) (name : ByteArray) (k : Nat) : Bool := decide (k < l.length) && ((eAt l k).1.toList == name.toList)
theorem caAt_v {l : List En} {name : ByteArray} {k : Nat} : s_caAt l (k : Int) name = some (atN l name k) := by
  unfold s_caAt atN
  by_cases h : k < l.length
  · rw [ct (ltt h), ct (bA h), eAt_v, decide_eq_true h]; rfl
  · rw [cf (by simpa using h), decide_eq_false h]; rfl
theorem toList_inj {a b : ByteArray} : (a.toList == b.toList) = decide (a = b) := by
  rw [Go.Lib.toList_data, Go.Lib.toList_data]
  by_cases h : a = b
  · subst h; simp
  · rw [decide_eq_false h]
    apply Bool.eq_false_iff.2
    intro e
    apply h
    obtain ⟨⟨a⟩⟩ := a
    obtain ⟨⟨b⟩⟩ := b
    have e : a = b := by simpa using e
    rw [e]
theorem search_v {l : List En} {name : ByteArray} (hc : caOk l = true) (hl : l.length ≤ 1000000) : ∃ k : Nat, i_entryPlace l name = some ((k : Int), atN l name k) ∧ IsPl l name k := by
  have fin : ∀ k : Nat, k ≤ l.length → slices_BinarySearchFunc_impl_Entry_impl_Entry_string_i_entryPlace_1_1003 l name (l.length : Int) (k : Int) (k : Int) = some ((k : Int), atN l name k) := by
    intro k hk
    rw [Eslices_BinarySearchFunc_impl_Entry_impl_Entry_string_i_entryPlace_1_1003, cf (by simp)]
    unfold atN
    by_cases h : k < l.length
    · rw [ct (ltt h), ct (bA h), eAt_v, decide_eq_true h, toList_inj]
      congr 2
      rw [Bool.true_and, decide_eq_decide]; exact cmpS_eq
    · rw [cf (by simpa using h), decide_eq_false h]; rfl
  have main : ∀ d i j : Nat, j ≤ i + d → i ≤ j → j ≤ l.length → (∀ m, m < i → lsN l name m = true) → (∀ m, j ≤ m → m < l.length → lsN l name m = false) →
      ∃ k : Nat, slices_BinarySearchFunc_impl_Entry_impl_Entry_string_i_entryPlace_1_1003 l name (l.length : Int) (i : Int) (j : Int) = some ((k : Int), atN l name k) ∧ IsPl l name k := by
    intro d
    induction d with
    | zero =>
      intro i j h1 h2 h3 h4 h5
      obtain rfl : i = j := by omega
      exact ⟨i, fin i h3, h3, h4, fun h => h5 i (Nat.le_refl _) h⟩
    | succ d ih =>
      intro i j h1 h2 h3 h4 h5
      by_cases hij : i = j
      · subst hij; exact ⟨i, fin i h3, h3, h4, fun h => h5 i (Nat.le_refl _) h⟩
      · have hm : (i + j) / 2 < l.length := by omega
        rw [Eslices_BinarySearchFunc_impl_Entry_impl_Entry_string_i_entryPlace_1_1003, ct (by simp; omega), mid_v (by omega), ct (bA hm), eAt_v]
        cases h : lsN l name ((i + j) / 2) with
        | true =>
          rw [ct (decide_eq_true (cmpS_lt.2 h)), sc hm (by omega)]
          refine ih ((i + j) / 2 + 1) j (by omega) (by omega) h3 (fun m hm' => ?_) h5
          have := cat_down (name := name) hc (d := (i + j) / 2 - m) (j := m) (by omega) (by rw [show m + ((i + j) / 2 - m) = (i + j) / 2 by omega]; exact h)
          exact this
        | false =>
          rw [cf (decide_eq_false (fun hh => by rw [cmpS_lt] at hh; unfold lsN at h; rw [hh] at h; cases h))]
          refine ih i ((i + j) / 2) (by omega) (by omega) (by omega) h4 (fun m hm' hml => ?_)
          cases hx : lsN l name m with
          | false => rfl
          | true =>
            have := cat_down (name := name) hc (d := m - (i + j) / 2) (j := (i + j) / 2) (by omega) (by rw [show (i + j) / 2 + (m - (i + j) / 2) = m by omega]; exact hx)
            rw [h] at this; cases this
  obtain ⟨k, e1, e2⟩ := main l.length 0 l.length (by omega) (by omega) (Nat.le_refl _) (fun m h => absurd h (Nat.not_lt_zero m)) (fun m h1 h2 => by omega)
  refine ⟨k, ?_, e2⟩
  unfold i_entryPlace slices_BinarySearchFunc_impl_Entry_impl_Entry_string_i_entryPlace_1
  have e1' : slices_BinarySearchFunc_impl_Entry_impl_Entry_string_i_entryPlace_1_1003 l name (l.length : Int) 0 (l.length : Int) = some ((k : Int), atN l name k) := e1
  rw [bsome e1']
/-! mainFindSystem -/
theorem en_sz {x : List En} (h : SzEntryS 1000000 x) : ∀ e ∈ x, EnSz e := fun e he => by
  obtain ⟨h1, ⟨h2, h3⟩, _⟩ := h.2 e he
  exact ⟨h1, h2, h3⟩
theorem main_FnExactFindSystem {x : List En} {name : ByteArray} (h : SzEntryS 1000000 x) (_ : name.size ≤ 1000000) : ∃ w, s_FindSystem x name = some w ∧ i_FindSystem x name = some w := by
  obtain ⟨k, e1, p1⟩ := caPlace_v (l := x) (name := name) h.1
  unfold s_FindSystem i_FindSystem
  rw [bsome e1, bsome (caGood_v h.1 (en_sz h)), bsome (isCatalogue_v h.1 (en_sz h))]
  cases hc : caOk x with
  | false => exact ⟨_, rfl, rfl⟩
  | true =>
    obtain ⟨m, e2, p2⟩ := search_v (name := name) hc h.1
    obtain rfl := isPl_uniq p1 p2
    rw [cnt, cnt, bsome caAt_v, bsome e2]
    cases atN x name k <;> exact ⟨_, rfl, rfl⟩
end Go.Proofs.YtbaeikcfchiiaaaE
