/- What FnExactFindStep says of numbers and lists alone: the reference and the program come to one result. -/
import Derived.Test.YtbaeikcfchiiaaaWJ
set_option linter.unusedVariables false
namespace Go.Proofs.Ytbaeikcfchiiaaa.Pure
open Go.Proofs.YtbaeikcfchiiaaaE

theorem FnExactFindStep : ∀ (x0 : List (Int)) (x1 : List (Int)) (x2 : (Int × Int) × Int × Int) (x3 : Int) (x4 : Int), okD (.slice 3 (.int .i64)) x0 → x0.length * 8 ≤ 140737488351232 → okD (.slice 3 (.int .i64)) x1 → x1.length * 8 ≤ 140737488351232 → okD (.pair (.pair (.int .i64) (.int .i64)) (.pair (.int .i64) (.int .i64))) x2 → okD (.int .i64) x3 → okD (.int .i64) x4 → ∃ k, f12 k x0 x1 x2.1.1 x2.1.2 x2.2.1 x2.2.2 x3 x4 = some true := by
  intro x0 x1 x2 x3 x4 h0 h1 h2 h3 h4 h5 h6
  refine Lim.one (Rw_FnExactFindStep x0 x1 x2.1.1 x2.1.2 x2.2.1 x2.2.2 x3 x4) ?_
  unfold w_FnExactFindStep
  rw [show IntKind.wrap .i64 ((x0.length : Int) + (x1.length : Int)) = (x0.length : Int) + x1.length from wrap64 (by omega) (by omega)]
  by_cases cz : 1000000 < (x0.length : Int) + (x1.length : Int)
  · exact ct (by simpa using cz)
  rw [cf (by simpa using cz)]
  have S0 : x0.length ≤ 1000000 := by omega
  have S1 : x1.length ≤ 1000000 := by omega
  obtain ⟨v0, e0, f0, g0⟩ := t_IntS (x := x0) (slIntS S0) false
  obtain ⟨y0, d0, c0, _⟩ := t_IntS (x := x0) (slIntS S0) true
  obtain ⟨v1, e1, f1, g1⟩ := t_IntS (x := x1) (slIntS S1) false
  obtain ⟨y1, d1, c1, _⟩ := t_IntS (x := x1) (slIntS S1) true
  obtain ⟨w, p1, p2⟩ := main_FnExactFindStep S0 S1 h4 h5 h6
  have PS := p1
  rw [← f0] at PS
  rw [← f1] at PS
  have PI := p2
  rw [← f0] at PI
  rw [← f1] at PI
  have PT := p2
  rw [← c0] at PT
  rw [← c1] at PT
  refine (bsome e0).trans ?_
  refine (bsome e1).trans ?_
  refine (bsome PS).trans ?_
  refine (bsome e0).trans ?_
  refine (bsome e1).trans ?_
  refine (bsome PI).trans ?_
  refine (bsome (q_Interval)).trans ?_
  repeat first | exact rfl | refine (cf (by simp)).trans ?_
  refine (bsome e0).trans ?_
  refine (bsome (g0 rfl)).trans ?_
  refine (cf rfl).trans ?_
  refine (bsome e1).trans ?_
  refine (bsome (g1 rfl)).trans ?_
  refine (cf rfl).trans ?_
  refine (bsome d0).trans ?_
  refine (bsome d1).trans ?_
  refine (bsome PT).trans ?_
  refine (bsome (q_Interval)).trans ?_
  repeat first | exact rfl | refine (cf (by simp)).trans ?_

end Go.Proofs.Ytbaeikcfchiiaaa.Pure
