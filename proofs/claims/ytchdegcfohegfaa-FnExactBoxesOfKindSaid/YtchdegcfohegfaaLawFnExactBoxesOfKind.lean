-- Written by a program of the session (wip/eng/tool) for this claim.
import Derived.Test.YtchdegcfohegfaaRows
import Derived.Test.YtchdegcfohegfaaE22
import Derived.Test.YtchdegcfohegfaaBA7
import Derived.Test.YtchdegcfohegfaaPureFnExactBoxesOfKind
import Derived.WalkKit
import Derived.ProofKit
import Derived.OpenShut
import Derived.ShutString
import Derived.ChangeOld
import Derived.Below
import Derived.SizedLaws
namespace Go.Proofs.Ytchdegcfohegfaa.fnExactBoxesOfKind
open Go.ChangeShapes Go.WideShapes Go.ChangeAt Go.RowKit
open Go.ChangeMaps (open_string shut_string)
open Go.Proofs.YtchdegcfohegfaaE
set_option linter.unusedVariables false
theorem own : ownKnob Try.prog.godebug = none := by kernel_rfl
theorem laidOut : laidOutB Try.prog = true := by kernel_rfl
theorem op3 : Opn Try.prog 3 (.int .i64) := Opn.int (by kernel_rfl) Try.underlying3
theorem op22 : Opn Try.prog 22 (.slice 3 (.int .i64)) := Opn.slice (by kernel_rfl) Try.underlying22 op3
theorem op24 : Opn Try.prog 24 (.pair (.int .i64) (.pair (.slice 3 (.int .i64)) (.slice 3 (.int .i64)))) := Opn.struct (by kernel_rfl) Try.underlying24 (OpnF.cons rfl op3 (OpnF.cons rfl op22 (OpnF.one rfl op22)))
theorem op59 : Opn Try.prog 59 (.pair (.int .i64) (.int .i64)) := Opn.struct (by kernel_rfl) Try.underlying59 (OpnF.cons rfl op3 (OpnF.one rfl op3))
theorem op25 : Opn Try.prog 25 (.slice 59 (.pair (.int .i64) (.int .i64))) := Opn.slice (by kernel_rfl) Try.underlying25 op59
set_option maxRecDepth 100000 in
theorem lifted (os : Os) (started : os.Started) (H : Type) (enc : TypeId × Value → H) :
    ReturnsInHanded {} Try.checked os 4 .any (Rows.fnExactBoxesOfKindSpec.pre6 enc Try.prog Try.f4 Rows.fnExactBoxesOfKindRow.domain false) (Rows.fnExactBoxesOfKindSpec.post enc Try.prog Try.f4 false true false false) := by
  refine returnsInHanded_of_change_sized (C := Try.checked) own started (by kernel_rfl) Try.func4
    (ChangeSpec.witness6 (enc := enc) (C := Try.checked) false ⟨#[], #[.agg #[.int .i64 0, .slice none 0 0, .slice none 0 0], .slice none 0 0, .int .i64 0], []⟩ 8 (by kernel_rfl) (by kernel_rfl) (by kernel_rfl) (by kernel_rfl)) ?_
  intro W base args ds gs before hval0 hW hcnd hsz0 _
  have hsz : (DataW.weightsEach Try.prog (Try.f4.params.toList ++ Rows.fnExactBoxesOfKindSpec.plain.varTypes Try.prog) (ds ++ gs)).all (· ≤ reachBytes) = true := hsz0
  have hval : ∀ (j : Nat) t v, Try.f4.params[j]? = some t → args[j]? = some v → Value.okWide Try.prog W .any base t v := hval0
  have hW' := hW
  obtain ⟨p, q, hA0, hV, rfl, hfz, hnd⟩ := hW
  have hA : DataW.TrodAll enc Try.prog W 0 (fun _ => true) true Try.f4.params.toList args.toList ds p := hA0
  rw [Try.params4] at hA hval hsz
  obtain ⟨v0, vs0, d0, ds0, p0, q0, hargs, rfl, rfl, h0, r0⟩ := trodAll_cons hA
  obtain ⟨v1, vs1, d1, ds1, p1, q1, rfl, rfl, rfl, h1, r1⟩ := trodAll_cons r0
  obtain ⟨v2, vs2, d2, ds2, p2, q2, rfl, rfl, rfl, h2, r2⟩ := trodAll_cons r1
  obtain ⟨rfl, rfl, rfl⟩ := trodAll_nil r2
  obtain rfl : args = #[v0, v1, v2] := by cases args; simp_all
  obtain ⟨rfl, rfl⟩ := trodVars_none hV
  have k0 := h0
  have lt0 : ∀ x ∈ p0, x.block < W.heap.size := by obtain ⟨m, hm⟩ := k0; exact DataW.trod_lt m _ _ _ hm
  obtain ⟨x0, cs0, rfl, ok0_, vr0⟩ := arg_structE Try.underlying24 op24 (hval 0 24 v0 rfl rfl) h0
  have k1 := h1
  have lt1 : ∀ x ∈ p1, x.block < W.heap.size := by obtain ⟨m, hm⟩ := k1; exact DataW.trod_lt m _ _ _ hm
  obtain ⟨x1, A1, c1, rfl, ok1_, vr1⟩ := arg_sliceE Try.underlying25 op25 (hval 1 25 v1 rfl rfl) h1
  have y1 : x1.length * 16 ≤ 140737488351232 := sized_anyE hsz (j := 1) rfl rfl Try.underlying25 (by kernel_rfl) h1
  obtain ⟨x2, rfl, rfl, rfl, w2⟩ := open_int Try.underlying3 (hval 2 3 v2 rfl rfl) h2
  have vr2 : VR .nil W (fun g => g < W.heap.size) (.int .i64 x2) (.int .i64 x2) := rfl
  clear hA0 hval0 hsz0 hsz
  obtain ⟨k, hk⟩ := Pure.FnExactBoxesOfKind x0 x1 x2 ok0_ ok1_ y1 w2
  refine (law_calls (args := [.agg (cells (.pair (.int .i64) (.pair (.slice 3 (.int .i64)) (.slice 3 (.int .i64)))) x0), .slc 59 (.pair (.int .i64) (.int .i64)) x1, .int .i64 x2]) m4 rfl rfl rfl hk ⟨_, _, rfl, vr0, ⟨_, _, rfl, vr1, ⟨_, _, rfl, vr2, rfl⟩⟩⟩).mono fun e W' ⟨he, bel⟩ => ?_
  subst he
  exact ⟨_, rfl, _, _, _, [], _, [], hW', trodAll_mk1 (shut_bool Try.underlying4 _), (trodAll_cons_mk (Below.trod laidOut (by kernel_rfl) (of_decide_eq_true (by kernel_rfl)) k0 bel lt0) (trodAll_cons_mk (Below.trod laidOut (by kernel_rfl) (of_decide_eq_true (by kernel_rfl)) k1 bel lt1) (trodAll_cons_mk (shut_int Try.underlying3 w2) trodAll_mk0))), rfl, bel.frame _, fun h => by cases h⟩
theorem andi {a b : Bool} (h : a = true) (h' : b = true) : (a && b) = true := by rw [h, h']; rfl
theorem sp {a b : Bool} (h : (a && b) = true) : a = true ∧ b = true := by cases a <;> cases b <;> first | exact ⟨rfl, rfl⟩ | cases h
theorem jg0 : ((Rows.fnExactBoxesOfKindRow.wf (OpenSpec.ofChange Rows.fnExactBoxesOfKindSpec)) && (mapsRowed Try.pinned.checked.prog) && (Try.f4.params.all (Try.pinned.checked.prog.readableRec ·)) && (namedTie Try.pinned.checked.prog Rows.fnExactBoxesOfKindRow.named Rows.fnExactBoxesOfKindSpec.vars) && ((Rows.fnExactBoxesOfKindRow.stops == [])) && ((Try.pinned.checked.prog.stops == [])) && ((Rows.fnExactBoxesOfKindRow.knobs == [])) && ((Try.pinned.checked.prog.stopKnobs == []))) = true := by kernel_rfl
theorem jf8 : ((Try.pinned.checked.prog.stopKnobs == [])) = true := (sp jg0).2
theorem jf7 : ((Rows.fnExactBoxesOfKindRow.knobs == [])) = true := (sp (sp jg0).1).2
theorem jf6 : ((Try.pinned.checked.prog.stops == [])) = true := (sp (sp (sp jg0).1).1).2
theorem jf5 : ((Rows.fnExactBoxesOfKindRow.stops == [])) = true := (sp (sp (sp (sp jg0).1).1).1).2
theorem jf4 : (namedTie Try.pinned.checked.prog Rows.fnExactBoxesOfKindRow.named Rows.fnExactBoxesOfKindSpec.vars) = true := (sp (sp (sp (sp (sp jg0).1).1).1).1).2
theorem jf3 : (Try.f4.params.all (Try.pinned.checked.prog.readableRec ·)) = true := (sp (sp (sp (sp (sp (sp jg0).1).1).1).1).1).2
theorem jf2 : (mapsRowed Try.pinned.checked.prog) = true := (sp (sp (sp (sp (sp (sp (sp jg0).1).1).1).1).1).1).2
theorem jf0 : (Rows.fnExactBoxesOfKindRow.wf (OpenSpec.ofChange Rows.fnExactBoxesOfKindSpec)) = true := (sp (sp (sp (sp (sp (sp (sp jg0).1).1).1).1).1).1).1
theorem jg1 : ((laidOutB Try.pinned.checked.prog)) = true := by kernel_rfl
theorem jf1 : (laidOutB Try.pinned.checked.prog) = true := jg1
theorem jg2 : (((Rows.fnExactBoxesOfKindRow.inPlace == Try.pinned.checked.prog.inPlace 4)) && ((Rows.fnExactBoxesOfKindRow.unfollowed == Try.pinned.checked.prog.unfollowed 4)) && ((Rows.fnExactBoxesOfKindRow.recurses == Try.pinned.checked.prog.recurses 4)) && ((Rows.fnExactBoxesOfKindRow.named == Try.pinned.checked.prog.varsNamed 4))) = true := by kernel_rfl
theorem jf12 : ((Rows.fnExactBoxesOfKindRow.named == Try.pinned.checked.prog.varsNamed 4)) = true := (sp jg2).2
theorem jf11 : ((Rows.fnExactBoxesOfKindRow.recurses == Try.pinned.checked.prog.recurses 4)) = true := (sp (sp jg2).1).2
theorem jf10 : ((Rows.fnExactBoxesOfKindRow.unfollowed == Try.pinned.checked.prog.unfollowed 4)) = true := (sp (sp (sp jg2).1).1).2
theorem jf9 : ((Rows.fnExactBoxesOfKindRow.inPlace == Try.pinned.checked.prog.inPlace 4)) = true := (sp (sp (sp jg2).1).1).1
theorem jg3 : (((Rows.fnExactBoxesOfKindRow.maps == (Try.f4.params.toList ++ Rows.fnExactBoxesOfKindSpec.plain.varTypes Try.pinned.checked.prog).any (Try.pinned.checked.prog.mapsRec ·))) && ((Rows.fnExactBoxesOfKindRow.ifaces == (Try.f4.params.toList ++ Rows.fnExactBoxesOfKindSpec.plain.varTypes Try.pinned.checked.prog).any (Try.pinned.checked.prog.ifacesRec ·))) && ((Rows.fnExactBoxesOfKindRow.mapsOut == Try.pinned.checked.prog.mapsAmong Try.f4.resultTypes.toList)) && ((Rows.fnExactBoxesOfKindRow.loops == (Try.f4.params.toList ++ Rows.fnExactBoxesOfKindSpec.plain.varTypes Try.pinned.checked.prog).any (Try.pinned.checked.prog.loopsFrom ·))) && ((Rows.fnExactBoxesOfKindRow.wideKeys == (Try.f4.params.toList ++ Rows.fnExactBoxesOfKindSpec.plain.varTypes Try.pinned.checked.prog ++ Try.f4.resultTypes.toList).any (Try.pinned.checked.prog.wideKeysFrom ·))) && (Rows.fnExactBoxesOfKindSpec.vars.all (Try.pinned.checked.prog.varReadable ·)) && (Try.f4.resultTypes.all (fun t => Try.pinned.checked.prog.readableRec t && decide (t < Try.pinned.checked.prog.types.size))) && ((Rows.fnExactBoxesOfKindRow.ifacesOut == Try.f4.resultTypes.toList.any (Try.pinned.checked.prog.ifacesRec ·))) && ((Rows.fnExactBoxesOfKindRow.loopsOut == Try.f4.resultTypes.toList.any (Try.pinned.checked.prog.loopsFrom ·)))) = true := by kernel_rfl
theorem jf21 : ((Rows.fnExactBoxesOfKindRow.loopsOut == Try.f4.resultTypes.toList.any (Try.pinned.checked.prog.loopsFrom ·))) = true := (sp jg3).2
theorem jf20 : ((Rows.fnExactBoxesOfKindRow.ifacesOut == Try.f4.resultTypes.toList.any (Try.pinned.checked.prog.ifacesRec ·))) = true := (sp (sp jg3).1).2
theorem jf19 : (Try.f4.resultTypes.all (fun t => Try.pinned.checked.prog.readableRec t && decide (t < Try.pinned.checked.prog.types.size))) = true := (sp (sp (sp jg3).1).1).2
theorem jf18 : (Rows.fnExactBoxesOfKindSpec.vars.all (Try.pinned.checked.prog.varReadable ·)) = true := (sp (sp (sp (sp jg3).1).1).1).2
theorem jf17 : ((Rows.fnExactBoxesOfKindRow.wideKeys == (Try.f4.params.toList ++ Rows.fnExactBoxesOfKindSpec.plain.varTypes Try.pinned.checked.prog ++ Try.f4.resultTypes.toList).any (Try.pinned.checked.prog.wideKeysFrom ·))) = true := (sp (sp (sp (sp (sp jg3).1).1).1).1).2
theorem jf16 : ((Rows.fnExactBoxesOfKindRow.loops == (Try.f4.params.toList ++ Rows.fnExactBoxesOfKindSpec.plain.varTypes Try.pinned.checked.prog).any (Try.pinned.checked.prog.loopsFrom ·))) = true := (sp (sp (sp (sp (sp (sp jg3).1).1).1).1).1).2
theorem jf15 : ((Rows.fnExactBoxesOfKindRow.mapsOut == Try.pinned.checked.prog.mapsAmong Try.f4.resultTypes.toList)) = true := (sp (sp (sp (sp (sp (sp (sp jg3).1).1).1).1).1).1).2
theorem jf14 : ((Rows.fnExactBoxesOfKindRow.ifaces == (Try.f4.params.toList ++ Rows.fnExactBoxesOfKindSpec.plain.varTypes Try.pinned.checked.prog).any (Try.pinned.checked.prog.ifacesRec ·))) = true := (sp (sp (sp (sp (sp (sp (sp (sp jg3).1).1).1).1).1).1).1).2
theorem jf13 : ((Rows.fnExactBoxesOfKindRow.maps == (Try.f4.params.toList ++ Rows.fnExactBoxesOfKindSpec.plain.varTypes Try.pinned.checked.prog).any (Try.pinned.checked.prog.mapsRec ·))) = true := (sp (sp (sp (sp (sp (sp (sp (sp jg3).1).1).1).1).1).1).1).1
theorem jg4 : (((Rows.fnExactBoxesOfKindRow.plainKeys == Try.pinned.checked.prog.plainKeys)) && (Rows.fnExactBoxesOfKindRow.shortTexts.isNone) && (Try.pinned.checked.prog.stopsHeard)) = true := by kernel_rfl
theorem jf24 : (Try.pinned.checked.prog.stopsHeard) = true := (sp jg4).2
theorem jf23 : (Rows.fnExactBoxesOfKindRow.shortTexts.isNone) = true := (sp (sp jg4).1).2
theorem jf22 : ((Rows.fnExactBoxesOfKindRow.plainKeys == Try.pinned.checked.prog.plainKeys)) = true := (sp (sp jg4).1).1
theorem jg5 : ((Try.pinned.checked.prog.mayEnter)) = true := by kernel_rfl
theorem jf25 : (Try.pinned.checked.prog.mayEnter) = true := jg5
theorem jg6 : (((Rows.fnExactBoxesOfKindRow.lifted == Try.pinned.checked.prog.liftsFinal)) && ((Try.pinned.checked.prog.make == some Rows.fnExactBoxesOfKindRow.make)) && ((Rows.fnExactBoxesOfKindRow.kinds == (if Rows.fnExactBoxesOfKindRow.domain.isEmpty then [] else Try.f4.params.toList.map fun t => match Try.pinned.checked.prog.underlying t with | some (.int k) => some k | _ => none))) && ((Rows.fnExactBoxesOfKindRow.pinned == Rows.fnExactBoxesOfKindRow.pinnedBy))) = true := by kernel_rfl
theorem jf29 : ((Rows.fnExactBoxesOfKindRow.pinned == Rows.fnExactBoxesOfKindRow.pinnedBy)) = true := (sp jg6).2
theorem jf28 : ((Rows.fnExactBoxesOfKindRow.kinds == (if Rows.fnExactBoxesOfKindRow.domain.isEmpty then [] else Try.f4.params.toList.map fun t => match Try.pinned.checked.prog.underlying t with | some (.int k) => some k | _ => none))) = true := (sp (sp jg6).1).2
theorem jf27 : ((Try.pinned.checked.prog.make == some Rows.fnExactBoxesOfKindRow.make)) = true := (sp (sp (sp jg6).1).1).2
theorem jf26 : ((Rows.fnExactBoxesOfKindRow.lifted == Try.pinned.checked.prog.liftsFinal)) = true := (sp (sp (sp jg6).1).1).1
theorem jg7 : (((Rows.fnExactBoxesOfKindRow.veiled == (Try.f4.params.toList ++ Rows.fnExactBoxesOfKindSpec.plain.varTypes Try.pinned.checked.prog ++ Try.f4.resultTypes.toList).any (Try.pinned.checked.prog.veiledRec ·))) && (Rows.fnExactBoxesOfKindRow.veiledFits Try.pinned.checked.prog Try.f4.params.toList (Try.f4.params.toList ++ Rows.fnExactBoxesOfKindSpec.plain.varTypes Try.pinned.checked.prog ++ Try.f4.resultTypes.toList))) = true := by kernel_rfl
theorem jf31 : (Rows.fnExactBoxesOfKindRow.veiledFits Try.pinned.checked.prog Try.f4.params.toList (Try.f4.params.toList ++ Rows.fnExactBoxesOfKindSpec.plain.varTypes Try.pinned.checked.prog ++ Try.f4.resultTypes.toList)) = true := (sp jg7).2
theorem jf30 : ((Rows.fnExactBoxesOfKindRow.veiled == (Try.f4.params.toList ++ Rows.fnExactBoxesOfKindSpec.plain.varTypes Try.pinned.checked.prog ++ Try.f4.resultTypes.toList).any (Try.pinned.checked.prog.veiledRec ·))) = true := (sp jg7).1
theorem named_ : Try.pinned.checked.prog.funcNamed Rows.fnExactBoxesOfKindRow.func = some 4 := by kernel_rfl
set_option maxRecDepth 100000 in
theorem joined_ : joinedFacts Try.pinned.checked.prog 4 Try.f4 Rows.fnExactBoxesOfKindSpec Rows.fnExactBoxesOfKindRow = true := (andi (andi (andi (andi (andi (andi (andi (andi (andi (andi (andi (andi (andi (andi (andi (andi (andi (andi (andi (andi (andi (andi (andi (andi (andi (andi (andi (andi (andi (andi (andi jf0 jf1) jf2) jf3) jf4) jf5) jf6) jf7) jf8) jf9) jf10) jf11) jf12) jf13) jf14) jf15) jf16) jf17) jf18) jf19) jf20) jf21) jf22) jf23) jf24) jf25) jf26) jf27) jf28) jf29) jf30) jf31)
theorem over : Rows.fnExactBoxesOfKindRow.holds Try.pinned (OpenSpec.ofChange Rows.fnExactBoxesOfKindSpec) :=
  OpenClaim.holds_of_wide 4 Try.f4 rfl rfl rfl rfl rfl rfl rfl ⟨rfl, rfl, rfl, rfl, rfl⟩ rfl rfl rfl rfl rfl named_ Try.func4 joined_
    (of_decide_eq_true (by kernel_rfl)) (by unfold Func.isWrapper; first | (rw [if_pos (by decide +kernel)]; kernel_rfl) | (rw [if_neg (by decide +kernel)]; exact ⟨rfl, rfl⟩))
    (fun os started H enc _ => lifted os started H enc)
theorem proved : Rows.FnExactBoxesOfKindSaid := over
#print axioms proved
end Go.Proofs.Ytchdegcfohegfaa.fnExactBoxesOfKind
namespace Go.Proofs.Ytchdegcfohegfaa
/-- The row, under a short name, for the claim. -/
theorem fnExactBoxesOfKind_holds : Rows.FnExactBoxesOfKindSaid := fnExactBoxesOfKind.proved
end Go.Proofs.Ytchdegcfohegfaa
