/- What FnExactBoxesOfKind says of numbers and lists alone: the reference and the program come to one result. -/
import Derived.Test.YtchdegcfohegfaaAK
set_option linter.unusedVariables false
namespace Go.Proofs.Ytchdegcfohegfaa.Pure
open Go.Proofs.YtchdegcfohegfaaE

theorem FnExactBoxesOfKind : ∀ (x0 : Int × (List (Int)) × List (Int)) (x1 : List (Int × Int)) (x2 : Int), okD (.pair (.int .i64) (.pair (.slice 3 (.int .i64)) (.slice 3 (.int .i64)))) x0 → okD (.slice 59 (.pair (.int .i64) (.int .i64))) x1 → x1.length * 16 ≤ 140737488351232 → okD (.int .i64) x2 → ∃ k, f4 k x0.1 x0.2.1 x0.2.2 x1 x2 = some true := by
  intro x0 x1 x2 h0 h1 h2 h3
  refine Lim.one (Rw_FnExactBoxesOfKind x0.1 x0.2.1 x0.2.2 x1 x2) ?_
  unfold w_FnExactBoxesOfKind
  obtain ⟨z0, ez0, uz0, gz0⟩ := z_Box (x := x0) (left := 1000000) (by omega) (by omega) ⟨h0.2.1.1, h0.2.2.1⟩
  rw [bsome ez0]
  by_cases cz0 : z0 < 0
  · exact ct (by simpa using cz0)
  rw [cf (by simpa using cz0)]
  have S0 := gz0 (by omega)
  obtain ⟨z1, ez1, uz1, gz1⟩ := z_NodeS (x := x1) (left := z0) (by omega) (by omega) h1.1
  rw [bsome ez1]
  by_cases cz1 : z1 < 0
  · exact ct (by simpa using cz1)
  rw [cf (by simpa using cz1)]
  have S1 := gz1 (by omega)
  obtain ⟨v0, e0, f0, g0, l0, l0'⟩ := tt_Box (x := x0) (slBox S0) false
  obtain ⟨y0, d0, c0, _⟩ := t_Box (x := x0) (slBox S0) true
  obtain ⟨v1, e1, f1, g1, l1⟩ := tt_NodeS (x := x1) (slNodeS S1) false
  obtain ⟨y1, d1, c1, _⟩ := t_NodeS (x := x1) (slNodeS S1) true
  obtain ⟨w, p1, p2, p3⟩ := main_FnExactBoxesOfKind (kind := x2) S0 S1
  have QD := eqB_v p3.1 (fun c hc => ⟨(p3.2 c hc).1, (p3.2 c hc).2.1⟩)
  have b0 : x0.2.1.length ≤ 1000000 := S0.1
  have b0' : x0.2.2.length ≤ 1000000 := S0.2
  have b1 : x1.length ≤ 1000000 := S1
  have ht : tot w.1 ≤ 7000000 := by have := tot_le (m := 3) (fun c hc => ⟨(p3.2 c hc).2.2.1, (p3.2 c hc).2.2.2⟩); have := p3.1; omega
  obtain ⟨m0, n0⟩ := mkBox_v (v := v0) (k := 101) (by omega) (by omega) (by omega) (by omega) (by omega) (by omega)
  obtain ⟨m1, n1⟩ := mkNodeS_v (v := v1) (k := 101 + v0.2.1.2 + v0.2.2.2) (by omega) (by omega) (by omega) (by omega)
  have PS := p1
  rw [← f0] at PS
  rw [← f1] at PS
  have PI := p2
  rw [← f0] at PI
  rw [← f1] at PI
  have PT := p2
  rw [← c0] at PT
  rw [← c1] at PT
  refine (bsome e0).trans ?_
  refine (bsome e1).trans ?_
  refine (bsome PS).trans ?_
  refine (bsome e0).trans ?_
  refine (bsome e1).trans ?_
  refine (bsome PI).trans ?_
  refine (bsome QD).trans ?_
  repeat first | exact rfl | refine (cf (by simp)).trans ?_
  refine (bsome e0).trans ?_
  refine (bsome (g0 rfl)).trans ?_
  refine (cf rfl).trans ?_
  refine (bsome e1).trans ?_
  refine (bsome (g1 rfl)).trans ?_
  refine (cf rfl).trans ?_
  refine (bsome n0).trans ?_
  refine (bsome n1).trans ?_
  refine (cf (decide_eq_false (by show ¬ (101 + (v0.2.1.2 : Int) + v0.2.2.2 + 2 * v1.2 < 0); omega))).trans ?_
  refine (bsome QD).trans ?_
  repeat first | exact rfl | refine (cf (by simp)).trans ?_
  refine (bsome (mkB_v (k := 101) (by omega) (by omega) p3.1 (fun c hc => ⟨(p3.2 c hc).1, (p3.2 c hc).2.1⟩))).trans ?_
  have hd := hdB_v (k := 101) (by omega) (by omega) p3.1 (fun c hc => ⟨(p3.2 c hc).1, (p3.2 c hc).2.1⟩)
  refine (bsome hd).trans ?_
  refine (cf (decide_eq_false (by omega))).trans ?_
  repeat first | exact rfl | refine (cf (by simp)).trans ?_
  refine (bsome d0).trans ?_
  refine (bsome d1).trans ?_
  refine (bsome PT).trans ?_
  refine (bsome QD).trans ?_
  repeat first | exact rfl | refine (cf (by simp)).trans ?_
  refine (bsome hd).trans ?_
  refine (cf (decide_eq_false (by omega))).trans ?_
  repeat first | exact rfl | refine (cf (by simp)).trans ?_

end Go.Proofs.Ytchdegcfohegfaa.Pure
