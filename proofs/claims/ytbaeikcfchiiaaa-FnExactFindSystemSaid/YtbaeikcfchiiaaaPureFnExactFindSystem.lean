/- What FnExactFindSystem says of numbers and lists alone: the reference and the program come to one result. -/
import Derived.Test.YtbaeikcfchiiaaaFY
set_option linter.unusedVariables false
namespace Go.Proofs.Ytbaeikcfchiiaaa.Pure
open Go.Proofs.YtbaeikcfchiiaaaE

theorem FnExactFindSystem : ∀ (x0 : List (ByteArray × (List (List (Int × Int × Int × Int))) × (Int × (List (Int)) × List (Int)) × Int × Int × Int)) (x1 : ByteArray), okD (.slice 105 (.pair (.str) (.pair (.slice 202 (.slice 233 (.pair (.int .i64) (.pair (.int .i64) (.pair (.int .i64) (.int .i64)))))) (.pair (.pair (.int .i64) (.pair (.slice 3 (.int .i64)) (.slice 3 (.int .i64)))) (.pair (.int .i64) (.pair (.int .i64) (.int .i64))))))) x0 → x0.length * 120 ≤ 140737488351232 → x1.size ≤ 140737488351232 → ∃ k, f9 k x0 x1 = some true := by
  intro x0 x1 h0 h1 h2
  refine Lim.one (Rw_FnExactFindSystem x0 x1) ?_
  unfold w_FnExactFindSystem
  have wz1 : IntKind.wrap .i64 (1000000 - (x1.size : Int)) = 1000000 - (x1.size : Int) := wrap64 (by omega) (by omega)
  rw [wz1]
  by_cases cn : (1000000 - (x1.size : Int)) < 0
  · have en : w_szEntryS x0 (1000000 - (x1.size : Int)) = some (-1) := by
      unfold w_szEntryS
      rw [wrap64 (n := (1000000 - (x1.size : Int)) - (x0.length : Int)) (by omega) (by omega)]
      exact ct (by simp; omega)
    rw [bsome en]; exact ct (by decide)
  have S1 : x1.size ≤ 1000000 := by omega
  obtain ⟨z0, ez0, uz0, gz0⟩ := z_EntryS (x := x0) (left := (1000000 - (x1.size : Int))) (by omega) (by omega) ⟨h0.1, fun y0 hy0 => ⟨(h0.2 y0 hy0).1, ⟨(h0.2 y0 hy0).2.1.1, fun y1 hy1 => ((h0.2 y0 hy0).2.1.2 y1 hy1).1⟩, ⟨(h0.2 y0 hy0).2.2.1.2.1.1, (h0.2 y0 hy0).2.2.1.2.2.1⟩⟩⟩
  rw [bsome ez0]
  by_cases cz0 : z0 < 0
  · exact ct (by simpa using cz0)
  rw [cf (by simpa using cz0)]
  have S0 := gz0 (by omega)
  obtain ⟨v0, e0, f0, g0⟩ := t_EntryS (x := x0) (slEntryS S0) false
  obtain ⟨y0, d0, c0, _⟩ := t_EntryS (x := x0) (slEntryS S0) true
  obtain ⟨w, p1, p2⟩ := main_FnExactFindSystem S0 S1
  have PS := p1
  rw [← f0] at PS
  have PI := p2
  rw [← f0] at PI
  have PT := p2
  rw [← c0] at PT
  refine (bsome e0).trans ?_
  refine (bsome PS).trans ?_
  refine (bsome e0).trans ?_
  refine (bsome PI).trans ?_
  repeat first | exact rfl | refine (cf (by simp)).trans ?_
  refine (bsome e0).trans ?_
  refine (bsome (g0 rfl)).trans ?_
  refine (cf rfl).trans ?_
  refine (bsome d0).trans ?_
  refine (bsome PT).trans ?_
  repeat first | exact rfl | refine (cf (by simp)).trans ?_

end Go.Proofs.Ytbaeikcfchiiaaa.Pure
