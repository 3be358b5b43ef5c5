-- Written by a program of the session (wip/eng/tool) for this claim.
import Derived.Test.YtbaeikcfchiiaaaRows
import Derived.Test.YtbaeikcfchiiaaaE22
import Derived.Test.YtbaeikcfchiiaaaFD6
import Derived.Test.YtbaeikcfchiiaaaPureFnExactFindSystem
import Derived.WalkKit
import Derived.ProofKit
import Derived.OpenShut
import Derived.ShutString
import Derived.ChangeOld
import Derived.Below
import Derived.SizedLaws
namespace Go.Proofs.Ytbaeikcfchiiaaa.fnExactFindSystem
open Go.ChangeShapes Go.WideShapes Go.ChangeAt Go.RowKit
open Go.ChangeMaps (open_string shut_string)
open Go.Proofs.YtbaeikcfchiiaaaE
set_option linter.unusedVariables false
theorem own : ownKnob Try.prog.godebug = none := by kernel_rfl
theorem laidOut : laidOutB Try.prog = true := by kernel_rfl
theorem op9 : Opn Try.prog 9 .str := Opn.string (by kernel_rfl) Try.underlying9
theorem op3 : Opn Try.prog 3 (.int .i64) := Opn.int (by kernel_rfl) Try.underlying3
theorem op233 : Opn Try.prog 233 (.pair (.int .i64) (.pair (.int .i64) (.pair (.int .i64) (.int .i64)))) := Opn.struct (by kernel_rfl) Try.underlying233 (OpnF.cons rfl op3 (OpnF.cons rfl op3 (OpnF.cons rfl op3 (OpnF.one rfl op3))))
theorem op202 : Opn Try.prog 202 (.slice 233 (.pair (.int .i64) (.pair (.int .i64) (.pair (.int .i64) (.int .i64))))) := Opn.slice (by kernel_rfl) Try.underlying202 op233
theorem op103 : Opn Try.prog 103 (.slice 202 (.slice 233 (.pair (.int .i64) (.pair (.int .i64) (.pair (.int .i64) (.int .i64)))))) := Opn.slice (by kernel_rfl) Try.underlying103 op202
theorem op22 : Opn Try.prog 22 (.slice 3 (.int .i64)) := Opn.slice (by kernel_rfl) Try.underlying22 op3
theorem op53 : Opn Try.prog 53 (.pair (.int .i64) (.pair (.slice 3 (.int .i64)) (.slice 3 (.int .i64)))) := Opn.struct (by kernel_rfl) Try.underlying53 (OpnF.cons rfl op3 (OpnF.cons rfl op22 (OpnF.one rfl op22)))
theorem op105 : Opn Try.prog 105 (.pair (.str) (.pair (.slice 202 (.slice 233 (.pair (.int .i64) (.pair (.int .i64) (.pair (.int .i64) (.int .i64)))))) (.pair (.pair (.int .i64) (.pair (.slice 3 (.int .i64)) (.slice 3 (.int .i64)))) (.pair (.int .i64) (.pair (.int .i64) (.int .i64)))))) := Opn.struct (by kernel_rfl) Try.underlying105 (OpnF.cons rfl op9 (OpnF.cons rfl op103 (OpnF.cons rfl op53 (OpnF.cons rfl op3 (OpnF.cons rfl op3 (OpnF.one rfl op3))))))
theorem op39 : Opn Try.prog 39 (.slice 105 (.pair (.str) (.pair (.slice 202 (.slice 233 (.pair (.int .i64) (.pair (.int .i64) (.pair (.int .i64) (.int .i64)))))) (.pair (.pair (.int .i64) (.pair (.slice 3 (.int .i64)) (.slice 3 (.int .i64)))) (.pair (.int .i64) (.pair (.int .i64) (.int .i64))))))) := Opn.slice (by kernel_rfl) Try.underlying39 op105
set_option maxRecDepth 100000 in
theorem lifted (os : Os) (started : os.Started) (H : Type) (enc : TypeId × Value → H) :
    ReturnsInHanded {} Try.checked os 9 .any (Rows.fnExactFindSystemSpec.pre6 enc Try.prog Try.f9 Rows.fnExactFindSystemRow.domain false) (Rows.fnExactFindSystemSpec.post enc Try.prog Try.f9 false true false false) := by
  refine returnsInHanded_of_change_sized (C := Try.checked) own started (by kernel_rfl) Try.func9
    (ChangeSpec.witness6 (enc := enc) (C := Try.checked) false ⟨#[], #[.slice none 0 0, .string ByteArray.empty], []⟩ 8 (by kernel_rfl) (by kernel_rfl) (by kernel_rfl) (by kernel_rfl)) ?_
  intro W base args ds gs before hval0 hW hcnd hsz0 _
  have hsz : (DataW.weightsEach Try.prog (Try.f9.params.toList ++ Rows.fnExactFindSystemSpec.plain.varTypes Try.prog) (ds ++ gs)).all (· ≤ reachBytes) = true := hsz0
  have hval : ∀ (j : Nat) t v, Try.f9.params[j]? = some t → args[j]? = some v → Value.okWide Try.prog W .any base t v := hval0
  have hW' := hW
  obtain ⟨p, q, hA0, hV, rfl, hfz, hnd⟩ := hW
  have hA : DataW.TrodAll enc Try.prog W 0 (fun _ => true) true Try.f9.params.toList args.toList ds p := hA0
  rw [Try.params9] at hA hval hsz
  obtain ⟨v0, vs0, d0, ds0, p0, q0, hargs, rfl, rfl, h0, r0⟩ := trodAll_cons hA
  obtain ⟨v1, vs1, d1, ds1, p1, q1, rfl, rfl, rfl, h1, r1⟩ := trodAll_cons r0
  obtain ⟨rfl, rfl, rfl⟩ := trodAll_nil r1
  obtain rfl : args = #[v0, v1] := by cases args; simp_all
  obtain ⟨rfl, rfl⟩ := trodVars_none hV
  have k0 := h0
  have lt0 : ∀ x ∈ p0, x.block < W.heap.size := by obtain ⟨m, hm⟩ := k0; exact DataW.trod_lt m _ _ _ hm
  obtain ⟨x0, A0, c0, rfl, ok0_, vr0⟩ := arg_sliceE Try.underlying39 op39 (hval 0 39 v0 rfl rfl) h0
  have y0 : x0.length * 120 ≤ 140737488351232 := sized_anyE hsz (j := 0) rfl rfl Try.underlying39 (by kernel_rfl) h0
  obtain ⟨x1, rfl, rfl, rfl, y1⟩ := open_string Try.underlying9 (hval 1 9 v1 rfl rfl) h1
  have w1 : x1.size ≤ 140737488351232 := by
    have z := sized_string hsz (j := 1) (t := 9) rfl rfl
    rw [Array.length_toList] at z
    exact z
  have vr1 : VR (fun _ => none) W (fun g => g < W.heap.size) (.str x1) (.string x1) := rfl
  clear hA0 hval0 hsz0 hsz
  obtain ⟨k, hk⟩ := Pure.FnExactFindSystem x0 x1 ok0_ y0 w1
  refine (law_calls (args := [.slc 105 (.pair (.str) (.pair (.slice 202 (.slice 233 (.pair (.int .i64) (.pair (.int .i64) (.pair (.int .i64) (.int .i64)))))) (.pair (.pair (.int .i64) (.pair (.slice 3 (.int .i64)) (.slice 3 (.int .i64)))) (.pair (.int .i64) (.pair (.int .i64) (.int .i64)))))) x0, .str x1]) m9 rfl rfl rfl hk ⟨_, _, rfl, vr0, ⟨_, _, rfl, vr1, rfl⟩⟩).mono fun e W' ⟨he, bel⟩ => ?_
  subst he
  exact ⟨_, rfl, _, _, _, [], _, [], hW', trodAll_mk1 (shut_bool Try.underlying4 _), (trodAll_cons_mk (Below.trod laidOut (by kernel_rfl) (of_decide_eq_true (by kernel_rfl)) k0 bel lt0) (trodAll_cons_mk (shut_string Try.underlying9 y1) trodAll_mk0)), rfl, bel.frame _, fun h => by cases h⟩
theorem andi {a b : Bool} (h : a = true) (h' : b = true) : (a && b) = true := by rw [h, h']; rfl
theorem sp {a b : Bool} (h : (a && b) = true) : a = true ∧ b = true := by cases a <;> cases b <;> first | exact ⟨rfl, rfl⟩ | cases h
theorem jg0 : ((Rows.fnExactFindSystemRow.wf (OpenSpec.ofChange Rows.fnExactFindSystemSpec)) && (mapsRowed Try.pinned.checked.prog) && (Try.f9.params.all (Try.pinned.checked.prog.readableRec ·)) && (namedTie Try.pinned.checked.prog Rows.fnExactFindSystemRow.named Rows.fnExactFindSystemSpec.vars) && ((Rows.fnExactFindSystemRow.stops == [])) && ((Try.pinned.checked.prog.stops == [])) && ((Rows.fnExactFindSystemRow.knobs == [])) && ((Try.pinned.checked.prog.stopKnobs == []))) = true := by kernel_rfl
theorem jf8 : ((Try.pinned.checked.prog.stopKnobs == [])) = true := (sp jg0).2
theorem jf7 : ((Rows.fnExactFindSystemRow.knobs == [])) = true := (sp (sp jg0).1).2
theorem jf6 : ((Try.pinned.checked.prog.stops == [])) = true := (sp (sp (sp jg0).1).1).2
theorem jf5 : ((Rows.fnExactFindSystemRow.stops == [])) = true := (sp (sp (sp (sp jg0).1).1).1).2
theorem jf4 : (namedTie Try.pinned.checked.prog Rows.fnExactFindSystemRow.named Rows.fnExactFindSystemSpec.vars) = true := (sp (sp (sp (sp (sp jg0).1).1).1).1).2
theorem jf3 : (Try.f9.params.all (Try.pinned.checked.prog.readableRec ·)) = true := (sp (sp (sp (sp (sp (sp jg0).1).1).1).1).1).2
theorem jf2 : (mapsRowed Try.pinned.checked.prog) = true := (sp (sp (sp (sp (sp (sp (sp jg0).1).1).1).1).1).1).2
theorem jf0 : (Rows.fnExactFindSystemRow.wf (OpenSpec.ofChange Rows.fnExactFindSystemSpec)) = true := (sp (sp (sp (sp (sp (sp (sp jg0).1).1).1).1).1).1).1
theorem jg1 : ((laidOutB Try.pinned.checked.prog)) = true := by kernel_rfl
theorem jf1 : (laidOutB Try.pinned.checked.prog) = true := jg1
theorem jg2 : (((Rows.fnExactFindSystemRow.inPlace == Try.pinned.checked.prog.inPlace 9)) && ((Rows.fnExactFindSystemRow.unfollowed == Try.pinned.checked.prog.unfollowed 9)) && ((Rows.fnExactFindSystemRow.recurses == Try.pinned.checked.prog.recurses 9)) && ((Rows.fnExactFindSystemRow.named == Try.pinned.checked.prog.varsNamed 9))) = true := by kernel_rfl
theorem jf12 : ((Rows.fnExactFindSystemRow.named == Try.pinned.checked.prog.varsNamed 9)) = true := (sp jg2).2
theorem jf11 : ((Rows.fnExactFindSystemRow.recurses == Try.pinned.checked.prog.recurses 9)) = true := (sp (sp jg2).1).2
theorem jf10 : ((Rows.fnExactFindSystemRow.unfollowed == Try.pinned.checked.prog.unfollowed 9)) = true := (sp (sp (sp jg2).1).1).2
theorem jf9 : ((Rows.fnExactFindSystemRow.inPlace == Try.pinned.checked.prog.inPlace 9)) = true := (sp (sp (sp jg2).1).1).1
theorem jg3 : (((Rows.fnExactFindSystemRow.maps == (Try.f9.params.toList ++ Rows.fnExactFindSystemSpec.plain.varTypes Try.pinned.checked.prog).any (Try.pinned.checked.prog.mapsRec ·))) && ((Rows.fnExactFindSystemRow.ifaces == (Try.f9.params.toList ++ Rows.fnExactFindSystemSpec.plain.varTypes Try.pinned.checked.prog).any (Try.pinned.checked.prog.ifacesRec ·))) && ((Rows.fnExactFindSystemRow.mapsOut == Try.pinned.checked.prog.mapsAmong Try.f9.resultTypes.toList)) && ((Rows.fnExactFindSystemRow.loops == (Try.f9.params.toList ++ Rows.fnExactFindSystemSpec.plain.varTypes Try.pinned.checked.prog).any (Try.pinned.checked.prog.loopsFrom ·))) && ((Rows.fnExactFindSystemRow.wideKeys == (Try.f9.params.toList ++ Rows.fnExactFindSystemSpec.plain.varTypes Try.pinned.checked.prog ++ Try.f9.resultTypes.toList).any (Try.pinned.checked.prog.wideKeysFrom ·))) && (Rows.fnExactFindSystemSpec.vars.all (Try.pinned.checked.prog.varReadable ·)) && (Try.f9.resultTypes.all (fun t => Try.pinned.checked.prog.readableRec t && decide (t < Try.pinned.checked.prog.types.size))) && ((Rows.fnExactFindSystemRow.ifacesOut == Try.f9.resultTypes.toList.any (Try.pinned.checked.prog.ifacesRec ·))) && ((Rows.fnExactFindSystemRow.loopsOut == Try.f9.resultTypes.toList.any (Try.pinned.checked.prog.loopsFrom ·)))) = true := by kernel_rfl
theorem jf21 : ((Rows.fnExactFindSystemRow.loopsOut == Try.f9.resultTypes.toList.any (Try.pinned.checked.prog.loopsFrom ·))) = true := (sp jg3).2
theorem jf20 : ((Rows.fnExactFindSystemRow.ifacesOut == Try.f9.resultTypes.toList.any (Try.pinned.checked.prog.ifacesRec ·))) = true := (sp (sp jg3).1).2
theorem jf19 : (Try.f9.resultTypes.all (fun t => Try.pinned.checked.prog.readableRec t && decide (t < Try.pinned.checked.prog.types.size))) = true := (sp (sp (sp jg3).1).1).2
theorem jf18 : (Rows.fnExactFindSystemSpec.vars.all (Try.pinned.checked.prog.varReadable ·)) = true := (sp (sp (sp (sp jg3).1).1).1).2
theorem jf17 : ((Rows.fnExactFindSystemRow.wideKeys == (Try.f9.params.toList ++ Rows.fnExactFindSystemSpec.plain.varTypes Try.pinned.checked.prog ++ Try.f9.resultTypes.toList).any (Try.pinned.checked.prog.wideKeysFrom ·))) = true := (sp (sp (sp (sp (sp jg3).1).1).1).1).2
theorem jf16 : ((Rows.fnExactFindSystemRow.loops == (Try.f9.params.toList ++ Rows.fnExactFindSystemSpec.plain.varTypes Try.pinned.checked.prog).any (Try.pinned.checked.prog.loopsFrom ·))) = true := (sp (sp (sp (sp (sp (sp jg3).1).1).1).1).1).2
theorem jf15 : ((Rows.fnExactFindSystemRow.mapsOut == Try.pinned.checked.prog.mapsAmong Try.f9.resultTypes.toList)) = true := (sp (sp (sp (sp (sp (sp (sp jg3).1).1).1).1).1).1).2
theorem jf14 : ((Rows.fnExactFindSystemRow.ifaces == (Try.f9.params.toList ++ Rows.fnExactFindSystemSpec.plain.varTypes Try.pinned.checked.prog).any (Try.pinned.checked.prog.ifacesRec ·))) = true := (sp (sp (sp (sp (sp (sp (sp (sp jg3).1).1).1).1).1).1).1).2
theorem jf13 : ((Rows.fnExactFindSystemRow.maps == (Try.f9.params.toList ++ Rows.fnExactFindSystemSpec.plain.varTypes Try.pinned.checked.prog).any (Try.pinned.checked.prog.mapsRec ·))) = true := (sp (sp (sp (sp (sp (sp (sp (sp jg3).1).1).1).1).1).1).1).1
theorem jg4 : (((Rows.fnExactFindSystemRow.plainKeys == Try.pinned.checked.prog.plainKeys)) && (Rows.fnExactFindSystemRow.shortTexts.isNone) && (Try.pinned.checked.prog.stopsHeard)) = true := by kernel_rfl
theorem jf24 : (Try.pinned.checked.prog.stopsHeard) = true := (sp jg4).2
theorem jf23 : (Rows.fnExactFindSystemRow.shortTexts.isNone) = true := (sp (sp jg4).1).2
theorem jf22 : ((Rows.fnExactFindSystemRow.plainKeys == Try.pinned.checked.prog.plainKeys)) = true := (sp (sp jg4).1).1
theorem jg5 : ((Try.pinned.checked.prog.mayEnter)) = true := by kernel_rfl
theorem jf25 : (Try.pinned.checked.prog.mayEnter) = true := jg5
theorem jg6 : (((Rows.fnExactFindSystemRow.lifted == Try.pinned.checked.prog.liftsFinal)) && ((Try.pinned.checked.prog.make == some Rows.fnExactFindSystemRow.make)) && ((Rows.fnExactFindSystemRow.kinds == (if Rows.fnExactFindSystemRow.domain.isEmpty then [] else Try.f9.params.toList.map fun t => match Try.pinned.checked.prog.underlying t with | some (.int k) => some k | _ => none))) && ((Rows.fnExactFindSystemRow.pinned == Rows.fnExactFindSystemRow.pinnedBy))) = true := by kernel_rfl
theorem jf29 : ((Rows.fnExactFindSystemRow.pinned == Rows.fnExactFindSystemRow.pinnedBy)) = true := (sp jg6).2
theorem jf28 : ((Rows.fnExactFindSystemRow.kinds == (if Rows.fnExactFindSystemRow.domain.isEmpty then [] else Try.f9.params.toList.map fun t => match Try.pinned.checked.prog.underlying t with | some (.int k) => some k | _ => none))) = true := (sp (sp jg6).1).2
theorem jf27 : ((Try.pinned.checked.prog.make == some Rows.fnExactFindSystemRow.make)) = true := (sp (sp (sp jg6).1).1).2
theorem jf26 : ((Rows.fnExactFindSystemRow.lifted == Try.pinned.checked.prog.liftsFinal)) = true := (sp (sp (sp jg6).1).1).1
theorem jg7 : (((Rows.fnExactFindSystemRow.veiled == (Try.f9.params.toList ++ Rows.fnExactFindSystemSpec.plain.varTypes Try.pinned.checked.prog ++ Try.f9.resultTypes.toList).any (Try.pinned.checked.prog.veiledRec ·))) && (Rows.fnExactFindSystemRow.veiledFits Try.pinned.checked.prog Try.f9.params.toList (Try.f9.params.toList ++ Rows.fnExactFindSystemSpec.plain.varTypes Try.pinned.checked.prog ++ Try.f9.resultTypes.toList))) = true := by kernel_rfl
theorem jf31 : (Rows.fnExactFindSystemRow.veiledFits Try.pinned.checked.prog Try.f9.params.toList (Try.f9.params.toList ++ Rows.fnExactFindSystemSpec.plain.varTypes Try.pinned.checked.prog ++ Try.f9.resultTypes.toList)) = true := (sp jg7).2
theorem jf30 : ((Rows.fnExactFindSystemRow.veiled == (Try.f9.params.toList ++ Rows.fnExactFindSystemSpec.plain.varTypes Try.pinned.checked.prog ++ Try.f9.resultTypes.toList).any (Try.pinned.checked.prog.veiledRec ·))) = true := (sp jg7).1
theorem named_ : Try.pinned.checked.prog.funcNamed Rows.fnExactFindSystemRow.func = some 9 := by kernel_rfl
set_option maxRecDepth 100000 in
theorem joined_ : joinedFacts Try.pinned.checked.prog 9 Try.f9 Rows.fnExactFindSystemSpec Rows.fnExactFindSystemRow = true := (andi (andi (andi (andi (andi (andi (andi (andi (andi (andi (andi (andi (andi (andi (andi (andi (andi (andi (andi (andi (andi (andi (andi (andi (andi (andi (andi (andi (andi (andi (andi jf0 jf1) jf2) jf3) jf4) jf5) jf6) jf7) jf8) jf9) jf10) jf11) jf12) jf13) jf14) jf15) jf16) jf17) jf18) jf19) jf20) jf21) jf22) jf23) jf24) jf25) jf26) jf27) jf28) jf29) jf30) jf31)
theorem over : Rows.fnExactFindSystemRow.holds Try.pinned (OpenSpec.ofChange Rows.fnExactFindSystemSpec) :=
  OpenClaim.holds_of_wide 9 Try.f9 rfl rfl rfl rfl rfl rfl rfl ⟨rfl, rfl, rfl, rfl, rfl⟩ rfl rfl rfl rfl rfl named_ Try.func9 joined_
    (of_decide_eq_true (by kernel_rfl)) (by unfold Func.isWrapper; first | (rw [if_pos (by decide +kernel)]; kernel_rfl) | (rw [if_neg (by decide +kernel)]; exact ⟨rfl, rfl⟩))
    (fun os started H enc _ => lifted os started H enc)
theorem proved : Rows.FnExactFindSystemSaid := over
#print axioms proved
end Go.Proofs.Ytbaeikcfchiiaaa.fnExactFindSystem
namespace Go.Proofs.Ytbaeikcfchiiaaa
/-- The row, under a short name, for the claim. -/
theorem fnExactFindSystem_holds : Rows.FnExactFindSystemSaid := fnExactFindSystem.proved
end Go.Proofs.Ytbaeikcfchiiaaa
