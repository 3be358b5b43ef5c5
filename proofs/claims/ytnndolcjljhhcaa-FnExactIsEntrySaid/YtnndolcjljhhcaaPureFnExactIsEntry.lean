/- What FnExactIsEntry says of numbers and lists alone: the reference and the program come to one result. -/
import Derived.Test.YtnndolcjljhhcaaQB
set_option linter.unusedVariables false
namespace Go.Proofs.Ytnndolcjljhhcaa.Pure
open Go.Proofs.YtnndolcjljhhcaaE

theorem FnExactIsEntry : ∀ (x0 : ByteArray × (List (List (Int × Int × Int × Int))) × (Int × (List (Int)) × List (Int)) × Int × Int × Int), okD (.pair (.str) (.pair (.slice 130 (.slice 160 (.pair (.int .i64) (.pair (.int .i64) (.pair (.int .i64) (.int .i64)))))) (.pair (.pair (.int .i64) (.pair (.slice 3 (.int .i64)) (.slice 3 (.int .i64)))) (.pair (.int .i64) (.pair (.int .i64) (.int .i64)))))) x0 → ∃ k, f11 k x0.1 x0.2.1 x0.2.2.1.1 x0.2.2.1.2.1 x0.2.2.1.2.2 x0.2.2.2.1 x0.2.2.2.2.1 x0.2.2.2.2.2 = some true := by
  intro x0 h0
  refine Lim.one (Rw_FnExactIsEntry x0.1 x0.2.1 x0.2.2.1.1 x0.2.2.1.2.1 x0.2.2.1.2.2 x0.2.2.2.1 x0.2.2.2.2.1 x0.2.2.2.2.2) ?_
  unfold w_FnExactIsEntry
  obtain ⟨z0, ez0, uz0, gz0⟩ := z_Entry (x := x0) (left := 1000000) (by omega) (by omega) ⟨h0.1, ⟨h0.2.1.1, fun y hy => (h0.2.1.2 y hy).1⟩, ⟨h0.2.2.1.2.1.1, h0.2.2.1.2.2.1⟩⟩
  rw [bsome ez0]
  by_cases cz0 : z0 < 0
  · exact ct (by simpa using cz0)
  rw [cf (by simpa using cz0)]
  have S0 := gz0 (by omega)
  obtain ⟨v0, e0, f0, g0⟩ := t_Entry (x := x0) (slEntry S0) false
  obtain ⟨y0, d0, c0, _⟩ := t_Entry (x := x0) (slEntry S0) true
  obtain ⟨w, p1, p2⟩ := main_FnExactIsEntry S0
  have PS := p1
  rw [← f0] at PS
  have PI := p2
  rw [← f0] at PI
  have PT := p2
  rw [← c0] at PT
  refine (bsome e0).trans ?_
  refine (bsome PS).trans ?_
  refine (bsome e0).trans ?_
  refine (bsome PI).trans ?_
  repeat first | exact rfl | refine (cf (by simp)).trans ?_
  refine (bsome e0).trans ?_
  refine (bsome (g0 rfl)).trans ?_
  refine (cf rfl).trans ?_
  refine (bsome d0).trans ?_
  refine (bsome PT).trans ?_
  repeat first | exact rfl | refine (cf (by simp)).trans ?_

end Go.Proofs.Ytnndolcjljhhcaa.Pure
