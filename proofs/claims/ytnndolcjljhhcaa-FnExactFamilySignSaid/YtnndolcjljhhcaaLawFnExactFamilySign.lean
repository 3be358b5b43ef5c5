-- Written by a program of the session (wip/eng/tool) for this claim.
import Derived.Test.YtnndolcjljhhcaaRows
import Derived.Test.YtnndolcjljhhcaaE22
import Derived.Test.YtnndolcjljhhcaaFS6
import Derived.Test.YtnndolcjljhhcaaPureFnExactFamilySign
import Derived.WalkKit
import Derived.ProofKit
import Derived.OpenShut
import Derived.ShutString
import Derived.ChangeOld
import Derived.Below
import Derived.SizedLaws
namespace Go.Proofs.Ytnndolcjljhhcaa.fnExactFamilySign
open Go.ChangeShapes Go.WideShapes Go.ChangeAt Go.RowKit
open Go.ChangeMaps (open_string shut_string)
open Go.Proofs.YtnndolcjljhhcaaE
set_option linter.unusedVariables false
theorem own : ownKnob Try.prog.godebug = none := by kernel_rfl
theorem laidOut : laidOutB Try.prog = true := by kernel_rfl
theorem op3 : Opn Try.prog 3 (.int .i64) := Opn.int (by kernel_rfl) Try.underlying3
theorem op22 : Opn Try.prog 22 (.slice 3 (.int .i64)) := Opn.slice (by kernel_rfl) Try.underlying22 op3
theorem op49 : Opn Try.prog 49 (.pair (.int .i64) (.int .i64)) := Opn.struct (by kernel_rfl) Try.underlying49 (OpnF.cons rfl op3 (OpnF.one rfl op3))
set_option maxRecDepth 100000 in
theorem lifted (os : Os) (started : os.Started) (H : Type) (enc : TypeId × Value → H) :
    ReturnsInHanded {} Try.checked os 10 .any (Rows.fnExactFamilySignSpec.pre6 enc Try.prog Try.f10 Rows.fnExactFamilySignRow.domain false) (Rows.fnExactFamilySignSpec.post enc Try.prog Try.f10 false true false false) := by
  refine returnsInHanded_of_change_sized (C := Try.checked) own started (by kernel_rfl) Try.func10
    (ChangeSpec.witness6 (enc := enc) (C := Try.checked) false ⟨#[], #[.slice none 0 0, .slice none 0 0, .agg #[.int .i64 0, .int .i64 0], .int .i64 0, .int .i64 0, .int .i64 0], []⟩ 8 (by kernel_rfl) (by kernel_rfl) (by kernel_rfl) (by kernel_rfl)) ?_
  intro W base args ds gs before hval0 hW hcnd hsz0 _
  have hsz : (DataW.weightsEach Try.prog (Try.f10.params.toList ++ Rows.fnExactFamilySignSpec.plain.varTypes Try.prog) (ds ++ gs)).all (· ≤ reachBytes) = true := hsz0
  have hval : ∀ (j : Nat) t v, Try.f10.params[j]? = some t → args[j]? = some v → Value.okWide Try.prog W .any base t v := hval0
  have hW' := hW
  obtain ⟨p, q, hA0, hV, rfl, hfz, hnd⟩ := hW
  have hA : DataW.TrodAll enc Try.prog W 0 (fun _ => true) true Try.f10.params.toList args.toList ds p := hA0
  rw [Try.params10] at hA hval hsz
  obtain ⟨v0, vs0, d0, ds0, p0, q0, hargs, rfl, rfl, h0, r0⟩ := trodAll_cons hA
  obtain ⟨v1, vs1, d1, ds1, p1, q1, rfl, rfl, rfl, h1, r1⟩ := trodAll_cons r0
  obtain ⟨v2, vs2, d2, ds2, p2, q2, rfl, rfl, rfl, h2, r2⟩ := trodAll_cons r1
  obtain ⟨v3, vs3, d3, ds3, p3, q3, rfl, rfl, rfl, h3, r3⟩ := trodAll_cons r2
  obtain ⟨v4, vs4, d4, ds4, p4, q4, rfl, rfl, rfl, h4, r4⟩ := trodAll_cons r3
  obtain ⟨v5, vs5, d5, ds5, p5, q5, rfl, rfl, rfl, h5, r5⟩ := trodAll_cons r4
  obtain ⟨rfl, rfl, rfl⟩ := trodAll_nil r5
  obtain rfl : args = #[v0, v1, v2, v3, v4, v5] := by cases args; simp_all
  obtain ⟨rfl, rfl⟩ := trodVars_none hV
  have k0 := h0
  have lt0 : ∀ x ∈ p0, x.block < W.heap.size := by obtain ⟨m, hm⟩ := k0; exact DataW.trod_lt m _ _ _ hm
  obtain ⟨x0, A0, c0, rfl, ok0_, vr0⟩ := arg_sliceE Try.underlying22 op22 (hval 0 22 v0 rfl rfl) h0
  have y0 : x0.length * 8 ≤ 140737488351232 := sized_anyE hsz (j := 0) rfl rfl Try.underlying22 (by kernel_rfl) h0
  have k1 := h1
  have lt1 : ∀ x ∈ p1, x.block < W.heap.size := by obtain ⟨m, hm⟩ := k1; exact DataW.trod_lt m _ _ _ hm
  obtain ⟨x1, A1, c1, rfl, ok1_, vr1⟩ := arg_sliceE Try.underlying22 op22 (hval 1 22 v1 rfl rfl) h1
  have y1 : x1.length * 8 ≤ 140737488351232 := sized_anyE hsz (j := 1) rfl rfl Try.underlying22 (by kernel_rfl) h1
  have k2 := h2
  have lt2 : ∀ x ∈ p2, x.block < W.heap.size := by obtain ⟨m, hm⟩ := k2; exact DataW.trod_lt m _ _ _ hm
  obtain ⟨x2, cs2, rfl, ok2_, vr2⟩ := arg_structE Try.underlying49 op49 (hval 2 49 v2 rfl rfl) h2
  obtain ⟨x3, rfl, rfl, rfl, w3⟩ := open_int Try.underlying3 (hval 3 3 v3 rfl rfl) h3
  have vr3 : VR (fun _ => none) W (fun g => g < W.heap.size) (.int .i64 x3) (.int .i64 x3) := rfl
  obtain ⟨x4, rfl, rfl, rfl, w4⟩ := open_int Try.underlying3 (hval 4 3 v4 rfl rfl) h4
  have vr4 : VR (fun _ => none) W (fun g => g < W.heap.size) (.int .i64 x4) (.int .i64 x4) := rfl
  obtain ⟨x5, rfl, rfl, rfl, w5⟩ := open_int Try.underlying3 (hval 5 3 v5 rfl rfl) h5
  have vr5 : VR (fun _ => none) W (fun g => g < W.heap.size) (.int .i64 x5) (.int .i64 x5) := rfl
  clear hA0 hval0 hsz0 hsz
  obtain ⟨k, hk⟩ := Pure.FnExactFamilySign x0 x1 x2 x3 x4 x5 ok0_ y0 ok1_ y1 ok2_ w3 w4 w5
  refine (law_calls (args := [.slc 3 (.int .i64) x0, .slc 3 (.int .i64) x1, .agg (cells (.pair (.int .i64) (.int .i64)) x2), .int .i64 x3, .int .i64 x4, .int .i64 x5]) m10 rfl rfl rfl hk ⟨_, _, rfl, vr0, ⟨_, _, rfl, vr1, ⟨_, _, rfl, vr2, ⟨_, _, rfl, vr3, ⟨_, _, rfl, vr4, ⟨_, _, rfl, vr5, rfl⟩⟩⟩⟩⟩⟩).mono fun e W' ⟨he, bel⟩ => ?_
  subst he
  exact ⟨_, rfl, _, _, _, [], _, [], hW', trodAll_mk1 (shut_bool Try.underlying4 _), (trodAll_cons_mk (Below.trod laidOut (by kernel_rfl) (of_decide_eq_true (by kernel_rfl)) k0 bel lt0) (trodAll_cons_mk (Below.trod laidOut (by kernel_rfl) (of_decide_eq_true (by kernel_rfl)) k1 bel lt1) (trodAll_cons_mk (Below.trod laidOut (by kernel_rfl) (of_decide_eq_true (by kernel_rfl)) k2 bel lt2) (trodAll_cons_mk (shut_int Try.underlying3 w3) (trodAll_cons_mk (shut_int Try.underlying3 w4) (trodAll_cons_mk (shut_int Try.underlying3 w5) trodAll_mk0)))))), rfl, bel.frame _, fun h => by cases h⟩
theorem over : Rows.fnExactFamilySignRow.holds Try.pinned (OpenSpec.ofChange Rows.fnExactFamilySignSpec) :=
  OpenClaim.holds_of_wide 10 Try.f10 rfl rfl rfl rfl rfl rfl rfl ⟨rfl, rfl, rfl, rfl, rfl⟩ rfl rfl rfl rfl rfl (by kernel_rfl) Try.func10 (by kernel_rfl)
    (of_decide_eq_true (by kernel_rfl)) (by unfold Func.isWrapper; first | (rw [if_pos (by decide +kernel)]; kernel_rfl) | (rw [if_neg (by decide +kernel)]; exact ⟨rfl, rfl⟩))
    (fun os started H enc _ => lifted os started H enc)
theorem proved : Rows.FnExactFamilySignSaid := over
#print axioms proved
end Go.Proofs.Ytnndolcjljhhcaa.fnExactFamilySign
namespace Go.Proofs.Ytnndolcjljhhcaa
/-- The row, under a short name, for the claim. -/
theorem fnExactFamilySign_holds : Rows.FnExactFamilySignSaid := fnExactFamilySign.proved
end Go.Proofs.Ytnndolcjljhhcaa
