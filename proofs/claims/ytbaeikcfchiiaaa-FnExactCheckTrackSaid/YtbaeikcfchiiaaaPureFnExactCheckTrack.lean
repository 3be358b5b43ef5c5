/- What FnExactCheckTrack says of numbers and lists alone: the reference and the program come to one result. -/
import Derived.Test.YtbaeikcfchiiaaaVQ
set_option linter.unusedVariables false
namespace Go.Proofs.Ytbaeikcfchiiaaa.Pure
open Go.Proofs.YtbaeikcfchiiaaaE

theorem FnExactCheckTrack : ∀ (x0 : List (Int)) (x1 : List (Int)) (x2 : List ((Int × Int) × Int × Int)) (x3 : Int), okD (.slice 3 (.int .i64)) x0 → x0.length * 8 ≤ 140737488351232 → okD (.slice 3 (.int .i64)) x1 → x1.length * 8 ≤ 140737488351232 → okD (.slice 26 (.pair (.pair (.int .i64) (.int .i64)) (.pair (.int .i64) (.int .i64)))) x2 → x2.length * 32 ≤ 140737488351232 → okD (.int .i64) x3 → ∃ k, f13 k x0 x1 x2 x3 = some true := by
  intro x0 x1 x2 x3 h0 h1 h2 h3 h4 h5 h6
  refine Lim.one (Rw_FnExactCheckTrack x0 x1 x2 x3) ?_
  unfold w_FnExactCheckTrack
  have wz0 : IntKind.wrap .i64 (1000000 - (x0.length : Int)) = 1000000 - (x0.length : Int) := wrap64 (by omega) (by omega)
  rw [wz0]
  have wz1 : IntKind.wrap .i64 ((1000000 - (x0.length : Int)) - (x1.length : Int)) = (1000000 - (x0.length : Int)) - (x1.length : Int) := wrap64 (by omega) (by omega)
  rw [wz1]
  by_cases cn : ((1000000 - (x0.length : Int)) - (x1.length : Int)) < 0
  · have en : w_szIntervalS x2 ((1000000 - (x0.length : Int)) - (x1.length : Int)) = some (-1) := by
      unfold w_szIntervalS
      rw [wrap64 (n := ((1000000 - (x0.length : Int)) - (x1.length : Int)) - (x2.length : Int)) (by omega) (by omega)]
      exact ct (by simp; omega)
    rw [bsome en]; exact ct (by decide)
  have S0 : x0.length ≤ 1000000 := by omega
  have S1 : x1.length ≤ 1000000 := by omega
  obtain ⟨z2, ez2, uz2, gz2⟩ := z_IntervalS (x := x2) (left := ((1000000 - (x0.length : Int)) - (x1.length : Int))) (by omega) (by omega) h4.1
  rw [bsome ez2]
  by_cases cz2 : z2 < 0
  · exact ct (by simpa using cz2)
  rw [cf (by simpa using cz2)]
  have S2 := gz2 (by omega)
  obtain ⟨v0, e0, f0, g0⟩ := t_IntS (x := x0) (slIntS S0) false
  obtain ⟨y0, d0, c0, _⟩ := t_IntS (x := x0) (slIntS S0) true
  obtain ⟨v1, e1, f1, g1⟩ := t_IntS (x := x1) (slIntS S1) false
  obtain ⟨y1, d1, c1, _⟩ := t_IntS (x := x1) (slIntS S1) true
  obtain ⟨v2, e2, f2, g2⟩ := t_IntervalS (x := x2) (slIntervalS S2) false
  obtain ⟨y2, d2, c2, _⟩ := t_IntervalS (x := x2) (slIntervalS S2) true
  obtain ⟨w, p1, p2⟩ := main_FnExactCheckTrack S0 S1 S2 h6
  have PS := p1
  rw [← f0] at PS
  rw [← f1] at PS
  rw [← f2] at PS
  have PI := p2
  rw [← f0] at PI
  rw [← f1] at PI
  rw [← f2] at PI
  have PT := p2
  rw [← c0] at PT
  rw [← c1] at PT
  rw [← c2] at PT
  refine (bsome e0).trans ?_
  refine (bsome e1).trans ?_
  refine (bsome e2).trans ?_
  refine (bsome PS).trans ?_
  refine (bsome e0).trans ?_
  refine (bsome e1).trans ?_
  refine (bsome e2).trans ?_
  refine (bsome PI).trans ?_
  repeat first | exact rfl | refine (cf (by simp)).trans ?_
  refine (bsome e0).trans ?_
  refine (bsome (g0 rfl)).trans ?_
  refine (cf rfl).trans ?_
  refine (bsome e1).trans ?_
  refine (bsome (g1 rfl)).trans ?_
  refine (cf rfl).trans ?_
  refine (bsome e2).trans ?_
  refine (bsome (g2 rfl)).trans ?_
  refine (cf rfl).trans ?_
  refine (bsome d0).trans ?_
  refine (bsome d1).trans ?_
  refine (bsome d2).trans ?_
  refine (bsome PT).trans ?_
  repeat first | exact rfl | refine (cf (by simp)).trans ?_

end Go.Proofs.Ytbaeikcfchiiaaa.Pure
