-- Written by a program of the session (wip/eng/tool) for this claim.
import Derived.Test.YtnndolcjljhhcaaRows
import Derived.Test.YtnndolcjljhhcaaE22
import Derived.Test.YtnndolcjljhhcaaG6
import Derived.Test.YtnndolcjljhhcaaPureFnExactIsEntry
import Derived.WalkKit
import Derived.ProofKit
import Derived.OpenShut
import Derived.ShutString
import Derived.ChangeOld
import Derived.Below
import Derived.SizedLaws
namespace Go.Proofs.Ytnndolcjljhhcaa.fnExactIsEntry
open Go.ChangeShapes Go.WideShapes Go.ChangeAt Go.RowKit
open Go.ChangeMaps (open_string shut_string)
open Go.Proofs.YtnndolcjljhhcaaE
set_option linter.unusedVariables false
theorem own : ownKnob Try.prog.godebug = none := by kernel_rfl
theorem laidOut : laidOutB Try.prog = true := by kernel_rfl
theorem op9 : Opn Try.prog 9 .str := Opn.string (by kernel_rfl) Try.underlying9
theorem op3 : Opn Try.prog 3 (.int .i64) := Opn.int (by kernel_rfl) Try.underlying3
theorem op160 : Opn Try.prog 160 (.pair (.int .i64) (.pair (.int .i64) (.pair (.int .i64) (.int .i64)))) := Opn.struct (by kernel_rfl) Try.underlying160 (OpnF.cons rfl op3 (OpnF.cons rfl op3 (OpnF.cons rfl op3 (OpnF.one rfl op3))))
theorem op130 : Opn Try.prog 130 (.slice 160 (.pair (.int .i64) (.pair (.int .i64) (.pair (.int .i64) (.int .i64))))) := Opn.slice (by kernel_rfl) Try.underlying130 op160
theorem op55 : Opn Try.prog 55 (.slice 130 (.slice 160 (.pair (.int .i64) (.pair (.int .i64) (.pair (.int .i64) (.int .i64)))))) := Opn.slice (by kernel_rfl) Try.underlying55 op130
theorem op22 : Opn Try.prog 22 (.slice 3 (.int .i64)) := Opn.slice (by kernel_rfl) Try.underlying22 op3
theorem op57 : Opn Try.prog 57 (.pair (.int .i64) (.pair (.slice 3 (.int .i64)) (.slice 3 (.int .i64)))) := Opn.struct (by kernel_rfl) Try.underlying57 (OpnF.cons rfl op3 (OpnF.cons rfl op22 (OpnF.one rfl op22)))
theorem op59 : Opn Try.prog 59 (.pair (.str) (.pair (.slice 130 (.slice 160 (.pair (.int .i64) (.pair (.int .i64) (.pair (.int .i64) (.int .i64)))))) (.pair (.pair (.int .i64) (.pair (.slice 3 (.int .i64)) (.slice 3 (.int .i64)))) (.pair (.int .i64) (.pair (.int .i64) (.int .i64)))))) := Opn.struct (by kernel_rfl) Try.underlying59 (OpnF.cons rfl op9 (OpnF.cons rfl op55 (OpnF.cons rfl op57 (OpnF.cons rfl op3 (OpnF.cons rfl op3 (OpnF.one rfl op3))))))
set_option maxRecDepth 100000 in
theorem lifted (os : Os) (started : os.Started) (H : Type) (enc : TypeId × Value → H) :
    ReturnsInHanded {} Try.checked os 11 .any (Rows.fnExactIsEntrySpec.pre6 enc Try.prog Try.f11 Rows.fnExactIsEntryRow.domain false) (Rows.fnExactIsEntrySpec.post enc Try.prog Try.f11 false true false false) := by
  refine returnsInHanded_of_change_sized (C := Try.checked) own started (by kernel_rfl) Try.func11
    (ChangeSpec.witness6 (enc := enc) (C := Try.checked) false ⟨#[], #[.agg #[.string ByteArray.empty, .slice none 0 0, .int .i64 0, .slice none 0 0, .slice none 0 0, .int .i64 0, .int .i64 0, .int .i64 0]], []⟩ 8 (by kernel_rfl) (by kernel_rfl) (by kernel_rfl) (by kernel_rfl)) ?_
  intro W base args ds gs before hval0 hW hcnd hsz0 _
  have hsz : (DataW.weightsEach Try.prog (Try.f11.params.toList ++ Rows.fnExactIsEntrySpec.plain.varTypes Try.prog) (ds ++ gs)).all (· ≤ reachBytes) = true := hsz0
  have hval : ∀ (j : Nat) t v, Try.f11.params[j]? = some t → args[j]? = some v → Value.okWide Try.prog W .any base t v := hval0
  have hW' := hW
  obtain ⟨p, q, hA0, hV, rfl, hfz, hnd⟩ := hW
  have hA : DataW.TrodAll enc Try.prog W 0 (fun _ => true) true Try.f11.params.toList args.toList ds p := hA0
  rw [Try.params11] at hA hval hsz
  obtain ⟨v0, vs0, d0, ds0, p0, q0, hargs, rfl, rfl, h0, r0⟩ := trodAll_cons hA
  obtain ⟨rfl, rfl, rfl⟩ := trodAll_nil r0
  obtain rfl : args = #[v0] := by cases args; simp_all
  obtain ⟨rfl, rfl⟩ := trodVars_none hV
  have k0 := h0
  have lt0 : ∀ x ∈ p0, x.block < W.heap.size := by obtain ⟨m, hm⟩ := k0; exact DataW.trod_lt m _ _ _ hm
  obtain ⟨x0, cs0, rfl, ok0_, vr0⟩ := arg_structE Try.underlying59 op59 (hval 0 59 v0 rfl rfl) h0
  clear hA0 hval0 hsz0 hsz
  obtain ⟨k, hk⟩ := Pure.FnExactIsEntry x0 ok0_
  refine (law_calls (args := [.agg (cells (.pair (.str) (.pair (.slice 130 (.slice 160 (.pair (.int .i64) (.pair (.int .i64) (.pair (.int .i64) (.int .i64)))))) (.pair (.pair (.int .i64) (.pair (.slice 3 (.int .i64)) (.slice 3 (.int .i64)))) (.pair (.int .i64) (.pair (.int .i64) (.int .i64)))))) x0)]) m11 rfl rfl rfl hk ⟨_, _, rfl, vr0, rfl⟩).mono fun e W' ⟨he, bel⟩ => ?_
  subst he
  exact ⟨_, rfl, _, _, _, [], _, [], hW', trodAll_mk1 (shut_bool Try.underlying4 _), (trodAll_cons_mk (Below.trod laidOut (by kernel_rfl) (of_decide_eq_true (by kernel_rfl)) k0 bel lt0) trodAll_mk0), rfl, bel.frame _, fun h => by cases h⟩
theorem over : Rows.fnExactIsEntryRow.holds Try.pinned (OpenSpec.ofChange Rows.fnExactIsEntrySpec) :=
  OpenClaim.holds_of_wide 11 Try.f11 rfl rfl rfl rfl rfl rfl rfl ⟨rfl, rfl, rfl, rfl, rfl⟩ rfl rfl rfl rfl rfl (by kernel_rfl) Try.func11 (by kernel_rfl)
    (of_decide_eq_true (by kernel_rfl)) (by unfold Func.isWrapper; first | (rw [if_pos (by decide +kernel)]; kernel_rfl) | (rw [if_neg (by decide +kernel)]; exact ⟨rfl, rfl⟩))
    (fun os started H enc _ => lifted os started H enc)
theorem proved : Rows.FnExactIsEntrySaid := over
#print axioms proved
end Go.Proofs.Ytnndolcjljhhcaa.fnExactIsEntry
namespace Go.Proofs.Ytnndolcjljhhcaa
/-- The row, under a short name, for the claim. -/
theorem fnExactIsEntry_holds : Rows.FnExactIsEntrySaid := fnExactIsEntry.proved
end Go.Proofs.Ytnndolcjljhhcaa
