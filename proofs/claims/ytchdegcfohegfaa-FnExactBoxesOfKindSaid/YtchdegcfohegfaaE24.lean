/- The engine, part 24: printed functions without their count of rounds. Plain lemmas. -/
import Derived.Test.YtchdegcfohegfaaE23
namespace Go.Proofs.YtchdegcfohegfaaE
set_option linter.unusedVariables false

/-- What the left side tells, the right side tells. -/
def Le {α : Type} (x y : Option α) : Prop := ∀ r, x = some r → y = some r
namespace Le
variable {α β : Type}
theorem rfl (x : Option α) : Le x x := fun _ h => h
theorem no (y : Option α) : Le none y := fun _ h => by cases h
theorem cond {c : Bool} {x y z w : Option α} (h : Le x y) (h' : Le z w) : Le (bif c then x else z) (bif c then y else w) := by cases c <;> assumption
theorem bind {x y : Option α} {f g : α → Option β} (h : Le x y) (h' : ∀ a, Le (f a) (g a)) : Le (x.bind f) (y.bind g) := by
  intro r hr
  cases x with
  | none => cases hr
  | some a => rw [h a _root_.rfl]; exact h' a r hr
end Le

/-- What a function with rounds comes to, in the end. -/
def Lim {α : Type} (f : Nat → Option α) (v : Option α) : Prop :=
  (∀ k r, f k = some r → v = some r) ∧ (∀ r, v = some r → ∃ K, ∀ k, K ≤ k → f k = some r)

open Classical in
noncomputable def lim {α : Type} (f : Nat → Option α) : Option α := if h : ∃ r k, f k = some r then some (Classical.choose h) else none

namespace Lim
variable {α β : Type} {f g : Nat → Option α} {v w : Option α}
theorem ret (v : Option α) : Lim (fun _ => v) v := ⟨fun _ _ h => h, fun _ h => ⟨0, fun _ _ => h⟩⟩
theorem cond {c : Bool} (h : Lim f v) (h' : Lim g w) : Lim (fun k => bif c then f k else g k) (bif c then v else w) := by cases c <;> assumption
theorem bind {h : Nat → α → Option β} {u : α → Option β} (hf : Lim f v) (hh : ∀ a, Lim (fun k => h k a) (u a)) : Lim (fun k => (f k).bind (h k)) (v.bind u) := by
  constructor
  · intro k r e
    cases hk : f k with
    | none => simp only [hk] at e; cases e
    | some a =>
      simp only [hk] at e
      rw [hf.1 k a hk]
      exact (hh a).1 k r e
  · intro r e
    cases hv : v with
    | none => rw [hv] at e; cases e
    | some a =>
      rw [hv] at e
      obtain ⟨K, hK⟩ := hf.2 a hv
      obtain ⟨L, hL⟩ := (hh a).2 r e
      refine ⟨max K L, fun k hk => ?_⟩
      show (f k).bind (h k) = _
      rw [hK k (Nat.le_trans (Nat.le_max_left ..) hk)]
      exact hL k (Nat.le_trans (Nat.le_max_right ..) hk)
theorem shift (h : Lim f v) : Lim (fun k => f (k + 1)) v :=
  ⟨fun k r e => h.1 (k + 1) r e, fun r e => let ⟨K, hK⟩ := h.2 r e; ⟨K, fun k hk => hK (k + 1) (Nat.le_succ_of_le hk)⟩⟩
theorem uniq (h : Lim f v) (h' : Lim f w) : v = w := by
  cases hv : v with
  | some a =>
    obtain ⟨K, hK⟩ := h.2 a hv
    exact (h'.1 K a (hK K (Nat.le_refl K))).symm
  | none =>
    cases hw : w with
    | none => rfl
    | some a =>
      obtain ⟨K, hK⟩ := h'.2 a hw
      have := h.1 K a (hK K (Nat.le_refl K))
      rw [hv] at this
      cases this
theorem mono_le (h : ∀ k, Le (f k) (f (k + 1))) : ∀ {k m : Nat} {r : α}, k ≤ m → f k = some r → f m = some r := by
  intro k m r hk
  induction hk with
  | refl => exact id
  | step _ ih => exact fun e => h _ r (ih e)
theorem of_mono (h : ∀ k, Le (f k) (f (k + 1))) : Lim f (lim f) := by
  by_cases hx : ∃ r k, f k = some r
  · have e : lim f = some (Classical.choose hx) := by unfold lim; rw [dif_pos hx]
    obtain ⟨K, hK⟩ := Classical.choose_spec hx
    rw [e]
    refine ⟨fun k r hr => ?_, fun r hr => ?_⟩
    · have h1 := mono_le h (Nat.le_max_left k K) hr
      have h2 := mono_le h (Nat.le_max_right k K) hK
      rw [h1] at h2
      exact h2.symm
    · obtain rfl := Option.some.inj hr
      exact ⟨K, fun k hk => mono_le h hk hK⟩
  · have e : lim f = none := by unfold lim; rw [dif_neg hx]
    rw [e]
    exact ⟨fun k r hr => absurd ⟨r, k, hr⟩ hx, fun r hr => by cases hr⟩
theorem one (h : Lim f v) {r : α} (e : v = some r) : ∃ k, f k = some r := let ⟨K, hK⟩ := h.2 r e; ⟨K, hK K (Nat.le_refl K)⟩
theorem of_tends {r : α} (h : Lim f v) (t : Tends f r) : v = some r := let ⟨K, hK⟩ := t; h.1 K r (hK K (Nat.le_refl K))
theorem tends {r : α} (h : Lim f v) (e : v = some r) : Tends f r := h.2 r e
end Lim
end Go.Proofs.YtchdegcfohegfaaE
