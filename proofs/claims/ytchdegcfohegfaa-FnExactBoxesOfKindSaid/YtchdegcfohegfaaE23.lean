/- The engine, part 23: what a printed function comes to when it has rounds enough. Plain lemmas. -/
import Derived.Test.YtchdegcfohegfaaE22
namespace Go.Proofs.YtchdegcfohegfaaE
set_option linter.unusedVariables false

/-- With rounds enough, f comes to r. -/
def Tends {α : Type} (f : Nat → Option α) (r : α) : Prop := ∃ K, ∀ k, K ≤ k → f k = some r

namespace Tends
variable {α β : Type} {f g : Nat → Option α} {r : α}
theorem ret (r : α) : Tends (fun _ => some r) r := ⟨0, fun _ _ => rfl⟩
theorem of (h : f = fun _ => some r) : Tends f r := h ▸ ret r
theorem bind {g : Nat → Option β} {h : Nat → β → Option α} {a : β} (hg : Tends g a) (hh : Tends (fun k => h k a) r) : Tends (fun k => (g k).bind (h k)) r := by
  obtain ⟨K, hK⟩ := hg
  obtain ⟨L, hL⟩ := hh
  refine ⟨max K L, fun k hk => ?_⟩
  show (g k).bind (h k) = _
  rw [hK k (Nat.le_trans (Nat.le_max_left ..) hk)]
  exact hL k (Nat.le_trans (Nat.le_max_right ..) hk)
theorem tt {c : Bool} (hc : c = true) (h : Tends f r) : Tends (fun k => bif c then f k else g k) r := by subst hc; exact h
theorem ff {c : Bool} (hc : c = false) (h : Tends g r) : Tends (fun k => bif c then f k else g k) r := by subst hc; exact h
theorem succ (h : Tends (fun k => f (k + 1)) r) : Tends f r := by
  obtain ⟨K, hK⟩ := h
  refine ⟨K + 1, fun k hk => ?_⟩
  obtain ⟨j, rfl⟩ : ∃ j, k = j + 1 := ⟨k - 1, by omega⟩
  exact hK j (by omega)
theorem one (h : Tends f r) : ∃ k, f k = some r := let ⟨K, hK⟩ := h; ⟨K, hK K (Nat.le_refl K)⟩
theorem uniq {r' : α} (h : Tends f r) (h' : Tends f r') : r = r' := by
  obtain ⟨K, hK⟩ := h
  obtain ⟨L, hL⟩ := h'
  have h1 := hK _ (Nat.le_max_left K L)
  rw [hL _ (Nat.le_max_right K L)] at h1
  exact (Option.some.inj h1).symm
end Tends

theorem wrap64 {n : Int} (h1 : -9223372036854775808 ≤ n) (h2 : n ≤ 9223372036854775807) : IntKind.wrap .i64 n = n := by
  have hs : IntKind.signed .i64 = true := rfl
  have hb : IntKind.bits .i64 = 64 := rfl
  unfold IntKind.wrap
  rw [hs, hb]
  by_cases h : n % 2 ^ 64 ≥ 2 ^ (64 - 1)
  · simp only [Bool.true_and, h, decide_true, if_true]; omega
  · simp only [Bool.true_and, h, decide_false]; simp; omega
end Go.Proofs.YtchdegcfohegfaaE
