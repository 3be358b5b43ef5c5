/- Functions, by the engine; printed. -/
import Derived.Test.YtchdegcfohegfaaBL0
set_option maxRecDepth 100000
set_option maxHeartbeats 4000000
set_option linter.unusedVariables false
namespace Go.Proofs.YtchdegcfohegfaaE
-- laws.szIntS
noncomputable def f31 (k : Nat) (a : List (Int)) (left : Int) : Option (Int) :=
  bif decide (IntKind.wrap IntKind.i64 (left - (↑(List.length a) : Int)) < 0) then
    some (-1)
  else
    some (IntKind.wrap IntKind.i64 (left - (↑(List.length a) : Int)))
noncomputable def s31 : Spec := ⟨false, [(.int .i64, false)], true, .int .i64, fun k xs => match xs with | [.slc 3 (.int .i64) a, .int .i64 left] => f31 k a left | _ => none, false, none, false⟩
noncomputable def env1 : List (FuncId × Spec) := (31, s31) :: env0
theorem v31 (k : Nat) (a : List (Int)) (left : Int) : runFn ti (envOf env0) 12 [] (finT ti true Go.Proofs.Try.f31.results.toList [(.int .i64, false)] (.int .i64)) k (bodyOf Go.Proofs.Try.f31) (initS 0 [.slc 3 (.int .i64) a, .int .i64 left]) = f31 k a left := by kernel_rfl
theorem m31 : Meets Go.Proofs.Try.prog 31 s31 := meets_of_run tiOk env0_ok mo Go.Proofs.Try.func31 (body := bodyOf Go.Proofs.Try.f31) (by kernel_rfl) (N := 12) (by kernel_rfl) (hs := []) (by
  intro k xs r h
  unfold s31 at h
  dsimp only at h
  split at h
  · exact ⟨Nat.le_of_ble_eq_true rfl, (v31 k _ _).trans h⟩
  · cases h)
theorem env1_ok : EnvOk Go.Proofs.Try.prog (envOf env1) := envOf_cons m31 Go.Proofs.Try.func31 (by kernel_rfl) (by kernel_rfl) env0_ok

-- laws.szBox
noncomputable def f7 (k : Nat) (a_K : Int) (a_Low : List (Int)) (a_High : List (Int)) (left : Int) : Option (Int) :=
  (f31 k a_Low left).bind fun r0 =>
  bif decide (r0 < 0) then
    some (-1)
  else
    (f31 k a_High r0).bind fun r1 =>
    bif decide (r1 < 0) then
      some (-1)
    else
      some r1
noncomputable def s7 : Spec := ⟨false, [(.int .i64, false)], true, .int .i64, fun k xs => match xs with | [.agg [.int .i64 a_K, .slc 3 (.int .i64) a_Low, .slc 3 (.int .i64) a_High], .int .i64 left] => f7 k a_K a_Low a_High left | _ => none, false, none, false⟩
noncomputable def env2 : List (FuncId × Spec) := (7, s7) :: env1
theorem v7 (k : Nat) (a_K : Int) (a_Low : List (Int)) (a_High : List (Int)) (left : Int) : runFn ti (envOf env1) 18 [] (finT ti true Go.Proofs.Try.f7.results.toList [(.int .i64, false)] (.int .i64)) k (bodyOf Go.Proofs.Try.f7) (initS 0 [.agg [.int .i64 a_K, .slc 3 (.int .i64) a_Low, .slc 3 (.int .i64) a_High], .int .i64 left]) = f7 k a_K a_Low a_High left := by kernel_rfl
theorem m7 : Meets Go.Proofs.Try.prog 7 s7 := meets_of_run tiOk env1_ok mo Go.Proofs.Try.func7 (body := bodyOf Go.Proofs.Try.f7) (by kernel_rfl) (N := 18) (by kernel_rfl) (hs := []) (by
  intro k xs r h
  unfold s7 at h
  dsimp only at h
  split at h
  · exact ⟨Nat.le_of_ble_eq_true rfl, (v7 k _ _ _ _).trans h⟩
  · cases h)
theorem env2_ok : EnvOk Go.Proofs.Try.prog (envOf env2) := envOf_cons m7 Go.Proofs.Try.func7 (by kernel_rfl) (by kernel_rfl) env1_ok

-- laws.szNodeS
noncomputable def f8 (k : Nat) (a : List (Int × Int)) (left : Int) : Option (Int) :=
  bif decide (IntKind.wrap IntKind.i64 (left - (↑(List.length a) : Int)) < 0) then
    some (-1)
  else
    some (IntKind.wrap IntKind.i64 (left - (↑(List.length a) : Int)))
noncomputable def s8 : Spec := ⟨false, [(.int .i64, false)], true, .int .i64, fun k xs => match xs with | [.slc 59 (.pair (.int .i64) (.int .i64)) a, .int .i64 left] => f8 k a left | _ => none, false, none, false⟩
noncomputable def env3 : List (FuncId × Spec) := (8, s8) :: env2
theorem v8 (k : Nat) (a : List (Int × Int)) (left : Int) : runFn ti (envOf env2) 12 [] (finT ti true Go.Proofs.Try.f8.results.toList [(.int .i64, false)] (.int .i64)) k (bodyOf Go.Proofs.Try.f8) (initS 0 [.slc 59 (.pair (.int .i64) (.int .i64)) a, .int .i64 left]) = f8 k a left := by kernel_rfl
theorem m8 : Meets Go.Proofs.Try.prog 8 s8 := meets_of_run tiOk env2_ok mo Go.Proofs.Try.func8 (body := bodyOf Go.Proofs.Try.f8) (by kernel_rfl) (N := 12) (by kernel_rfl) (hs := []) (by
  intro k xs r h
  unfold s8 at h
  dsimp only at h
  split at h
  · exact ⟨Nat.le_of_ble_eq_true rfl, (v8 k _ _).trans h⟩
  · cases h)
theorem env3_ok : EnvOk Go.Proofs.Try.prog (envOf env3) := envOf_cons m8 Go.Proofs.Try.func8 (by kernel_rfl) (by kernel_rfl) env2_ok

-- laws.roomBehind
noncomputable def f36 (k : Nat) (n : Int) : Option (Int) :=
  bif decide (Int.tmod n 6 = 5) then
    some (0)
  else
    bif decide (Int.tmod n 3 = 0) then
      some (1)
    else
      some n
noncomputable def s36 : Spec := ⟨false, [(.int .i64, false)], true, .int .i64, fun k xs => match xs with | [.int .i64 n] => f36 k n | _ => none, false, none, false⟩
noncomputable def env4 : List (FuncId × Spec) := (36, s36) :: env3
theorem v36 (k : Nat) (n : Int) : runFn ti (envOf env3) 10 [] (finT ti true Go.Proofs.Try.f36.results.toList [(.int .i64, false)] (.int .i64)) k (bodyOf Go.Proofs.Try.f36) (initS 0 [.int .i64 n]) = f36 k n := by kernel_rfl
theorem m36 : Meets Go.Proofs.Try.prog 36 s36 := meets_of_run tiOk env3_ok mo Go.Proofs.Try.func36 (body := bodyOf Go.Proofs.Try.f36) (by kernel_rfl) (N := 10) (by kernel_rfl) (hs := []) (by
  intro k xs r h
  unfold s36 at h
  dsimp only at h
  split at h
  · exact ⟨Nat.le_of_ble_eq_true rfl, (v36 k _).trans h⟩
  · cases h)
theorem env4_ok : EnvOk Go.Proofs.Try.prog (envOf env4) := envOf_cons m36 Go.Proofs.Try.func36 (by kernel_rfl) (by kernel_rfl) env3_ok

-- laws.toIntS
def h35 : Hints := [(1005, .lab [(0, .one (.frz 3 (Ty.int IntKind.i64))), (5, .one (.own 3 (Ty.int IntKind.i64))), (6, .one (.v))]), (1009, .lab [(0, .one (.frz 3 (Ty.int IntKind.i64))), (5, .one (.own 3 (Ty.int IntKind.i64))), (7, .one (.v))])]
noncomputable def F35_1005 (k : Nat) (rec1005 : List Int → List Int → Int → Option (List (Int) × Nat)) (rec1009 : List Int → List Int → Int → Option (List (Int) × Nat)) (a : List Int) (outs : List Int) (i : Int) : Option (List (Int) × Nat) :=
  bif decide (i < (↑(List.length a) : Int)) then
    bif boundA i (List.length a) then
      bif boundA i (List.length outs) then
        bif Nat.blt (Int.toNat i) (List.length outs) then
          rec1005 a (List.set outs (Int.toNat i) (List.getD a (Int.toNat i) 0)) (IntKind.wrap IntKind.i64 (i + 1))
        else
          none
      else
        none
    else
      none
  else
    rec1009 a outs ((↑(List.length a) : Int))
noncomputable def F35_1009 (k : Nat) (rec1005 : List Int → List Int → Int → Option (List (Int) × Nat)) (rec1009 : List Int → List Int → Int → Option (List (Int) × Nat)) (a : List Int) (outs : List Int) (i : Int) : Option (List (Int) × Nat) :=
  bif decide (i < (↑(List.length outs) : Int)) then
    bif boundA i (List.length outs) then
      bif Nat.blt (Int.toNat i) (List.length outs) then
        rec1009 a (List.set outs (Int.toNat i) (-7000000000000000101)) (IntKind.wrap IntKind.i64 (i + 1))
      else
        none
    else
      none
  else
    bif boundE (↑(List.length a) : Int) (List.length outs) then
      some ((outs, Option.getD (some (Int.toNat (↑(List.length a) : Int))) (List.length outs)))
    else
      none
noncomputable def F35 (k : Nat) (rec1005 : List Int → List Int → Int → Option (List (Int) × Nat)) (rec1009 : List Int → List Int → Int → Option (List (Int) × Nat)) (a : List (Int)) (bare : Bool) : Option (List (Int) × Nat) :=
  bif bare then
    bif decide ((↑(List.length a) : Int) = 0) then
      some (([], 0))
    else
      (f36 k (↑(List.length a) : Int)).bind fun r0 =>
      bif decide (0 ≤ IntKind.wrap IntKind.i64 ((↑(List.length a) : Int) + r0)) then
        bif decide (IntKind.wrap IntKind.i64 ((↑(List.length a) : Int) + r0) ≤ IntKind.wrap IntKind.i64 ((↑(List.length a) : Int) + r0)) then
          bif decide (IntKind.wrap IntKind.i64 ((↑(List.length a) : Int) + r0) * (↑8 : Int) ≤ 140737488355328) then
            rec1005 a (List.replicate (Int.toNat (IntKind.wrap IntKind.i64 ((↑(List.length a) : Int) + r0))) (dflt (Ty.int IntKind.i64))) (0)
          else
            none
        else
          none
      else
        none
  else
    (f36 k (↑(List.length a) : Int)).bind fun r1 =>
    bif decide (0 ≤ IntKind.wrap IntKind.i64 ((↑(List.length a) : Int) + r1)) then
      bif decide (IntKind.wrap IntKind.i64 ((↑(List.length a) : Int) + r1) ≤ IntKind.wrap IntKind.i64 ((↑(List.length a) : Int) + r1)) then
        bif decide (IntKind.wrap IntKind.i64 ((↑(List.length a) : Int) + r1) * (↑8 : Int) ≤ 140737488355328) then
          rec1005 a (List.replicate (Int.toNat (IntKind.wrap IntKind.i64 ((↑(List.length a) : Int) + r1))) (dflt (Ty.int IntKind.i64))) (0)
        else
          none
      else
        none
    else
      none
noncomputable def l35 : Nat → (List Int → List Int → Int → Option (List (Int) × Nat)) × (List Int → List Int → Int → Option (List (Int) × Nat))
  | 0 => (fun _ _ _ => none, fun _ _ _ => none)
  | k + 1 => (F35_1005 k ((l35 k).1) ((l35 k).2), F35_1009 k ((l35 k).1) ((l35 k).2))
noncomputable def f35 (k : Nat) (a : List (Int)) (bare : Bool) : Option (List (Int) × Nat) := F35 k ((l35 k).1) ((l35 k).2) a bare
noncomputable def s35 : Spec := ⟨false, [(.vslice 3 (.int .i64), false)], true, .vslice 3 (.int .i64), fun k xs => match xs with | [.slc 3 (.int .i64) a, .bool bare] => f35 k a bare | _ => none, false, none, false⟩
noncomputable def env5 : List (FuncId × Spec) := (35, s35) :: env4
noncomputable abbrev x35 := exec tiV (envOf env4) 49 h35 (finT tiV true Go.Proofs.Try.f35.results.toList [(.vslice 3 (.int .i64), false)] (.vslice 3 (.int .i64)))
noncomputable def k35_1005 : List It := stackAt [.r, .r, .r, .l, .r, .b, .lb none] (bodyOf Go.Proofs.Try.f35) []
def t35_1005 (a : List Int) (outs : List Int) (i : Int) : St := [(0, Cell.val (AVal.slc 3 (Ty.int IntKind.i64) a)), (10, Cell.val (AVal.ref 33 none)), (33, Cell.row true 3 (Ty.int IntKind.i64) outs), (12, Cell.val (AVal.int IntKind.i64 i))]
noncomputable def k35_1009 : List It := stackAt [.r, .r, .r, .r, .l, .r, .b, .lb none] (bodyOf Go.Proofs.Try.f35) []
def t35_1009 (a : List Int) (outs : List Int) (i : Int) : St := [(0, Cell.val (AVal.slc 3 (Ty.int IntKind.i64) a)), (10, Cell.val (AVal.ref 33 none)), (33, Cell.row true 3 (Ty.int IntKind.i64) outs), (14, Cell.val (AVal.int IntKind.i64 i))]
theorem e35_1005 (k : Nat) (a : List Int) (outs : List Int) (i : Int) : x35 (k + 1) k35_1005 (t35_1005 a outs i) = F35_1005 k (fun (a : List Int) (outs : List Int) (i : Int) => x35 k k35_1005 (t35_1005 a outs i)) (fun (a : List Int) (outs : List Int) (i : Int) => x35 k k35_1009 (t35_1009 a outs i)) a outs i := by kernel_rfl
theorem e35_1009 (k : Nat) (a : List Int) (outs : List Int) (i : Int) : x35 (k + 1) k35_1009 (t35_1009 a outs i) = F35_1009 k (fun (a : List Int) (outs : List Int) (i : Int) => x35 k k35_1005 (t35_1005 a outs i)) (fun (a : List Int) (outs : List Int) (i : Int) => x35 k k35_1009 (t35_1009 a outs i)) a outs i := by kernel_rfl
theorem q35 : ∀ k : Nat, ((fun (a : List Int) (outs : List Int) (i : Int) => x35 k k35_1005 (t35_1005 a outs i)), (fun (a : List Int) (outs : List Int) (i : Int) => x35 k k35_1009 (t35_1009 a outs i))) = l35 k
  | 0 => rfl
  | k + 1 => by
    have h := q35 k
    show _ = (F35_1005 k ((l35 k).1) ((l35 k).2), F35_1009 k ((l35 k).1) ((l35 k).2))
    rw [← h]
    exact (Prod.ext (funext fun a => funext fun outs => funext fun i => e35_1005 k a outs i) (funext fun a => funext fun outs => funext fun i => e35_1009 k a outs i))
theorem w35 (k : Nat) (a : List (Int)) (bare : Bool) : runFn tiV (envOf env4) 49 h35 (finT tiV true Go.Proofs.Try.f35.results.toList [(.vslice 3 (.int .i64), false)] (.vslice 3 (.int .i64))) k (bodyOf Go.Proofs.Try.f35) (initS 0 [.slc 3 (.int .i64) a, .bool bare]) = F35 k (fun (a : List Int) (outs : List Int) (i : Int) => x35 k k35_1005 (t35_1005 a outs i)) (fun (a : List Int) (outs : List Int) (i : Int) => x35 k k35_1009 (t35_1009 a outs i)) a bare := by kernel_rfl
theorem v35 (k : Nat) (a : List (Int)) (bare : Bool) : runFn tiV (envOf env4) 49 h35 (finT tiV true Go.Proofs.Try.f35.results.toList [(.vslice 3 (.int .i64), false)] (.vslice 3 (.int .i64))) k (bodyOf Go.Proofs.Try.f35) (initS 0 [.slc 3 (.int .i64) a, .bool bare]) = f35 k a bare := by
  rw [w35]
  have h := q35 k
  unfold f35
  rw [← h]
theorem m35 : Meets Go.Proofs.Try.prog 35 s35 := meets_of_run tiVOk env4_ok mo Go.Proofs.Try.func35 (body := bodyOf Go.Proofs.Try.f35) (by kernel_rfl) (N := 49) (by kernel_rfl) (hs := h35) (by
  intro k xs r h
  unfold s35 at h
  dsimp only at h
  split at h
  · exact ⟨Nat.le_of_ble_eq_true rfl, (v35 k _ _).trans h⟩
  · cases h)
theorem env5_ok : EnvOk Go.Proofs.Try.prog (envOf env5) := envOf_cons m35 Go.Proofs.Try.func35 (by kernel_rfl) (by kernel_rfl) env4_ok

-- laws.toBox
noncomputable def f10 (k : Nat) (a_K : Int) (a_Low : List (Int)) (a_High : List (Int)) (bare : Bool) : Option (Int × (List (Int) × Nat) × List (Int) × Nat) :=
  (f35 k a_Low bare).bind fun r0 =>
  (f35 k a_High bare).bind fun r1 =>
  some ((a_K, (r0.fst, Option.getD (some r0.snd) (List.length r0.fst)), r1.fst, Option.getD (some r1.snd) (List.length r1.fst)))
noncomputable def s10 : Spec := ⟨false, [(.pair (.int .i64) (.pair (.vslice 3 (.int .i64)) (.vslice 3 (.int .i64))), true)], true, .pair (.int .i64) (.pair (.vslice 3 (.int .i64)) (.vslice 3 (.int .i64))), fun k xs => match xs with | [.agg [.int .i64 a_K, .slc 3 (.int .i64) a_Low, .slc 3 (.int .i64) a_High], .bool bare] => f10 k a_K a_Low a_High bare | _ => none, false, none, false⟩
noncomputable def env6 : List (FuncId × Spec) := (10, s10) :: env5
theorem v10 (k : Nat) (a_K : Int) (a_Low : List (Int)) (a_High : List (Int)) (bare : Bool) : runFn tiV (envOf env5) 20 [] (finT tiV true Go.Proofs.Try.f10.results.toList [(.pair (.int .i64) (.pair (.vslice 3 (.int .i64)) (.vslice 3 (.int .i64))), true)] (.pair (.int .i64) (.pair (.vslice 3 (.int .i64)) (.vslice 3 (.int .i64))))) k (bodyOf Go.Proofs.Try.f10) (initS 0 [.agg [.int .i64 a_K, .slc 3 (.int .i64) a_Low, .slc 3 (.int .i64) a_High], .bool bare]) = f10 k a_K a_Low a_High bare := by kernel_rfl
theorem m10 : Meets Go.Proofs.Try.prog 10 s10 := meets_of_run tiVOk env5_ok mo Go.Proofs.Try.func10 (body := bodyOf Go.Proofs.Try.f10) (by kernel_rfl) (N := 20) (by kernel_rfl) (hs := []) (by
  intro k xs r h
  unfold s10 at h
  dsimp only at h
  split at h
  · exact ⟨Nat.le_of_ble_eq_true rfl, (v10 k _ _ _ _).trans h⟩
  · cases h)
theorem env6_ok : EnvOk Go.Proofs.Try.prog (envOf env6) := envOf_cons m10 Go.Proofs.Try.func10 (by kernel_rfl) (by kernel_rfl) env5_ok

-- laws.toNode
noncomputable def f37 (k : Nat) (a_Kind : Int) (a_Number : Int) : Option (Int × Int) :=
  some ((a_Kind, a_Number))
noncomputable def s37 : Spec := ⟨false, [(.pair (.int .i64) (.int .i64), true)], true, .pair (.int .i64) (.int .i64), fun k xs => match xs with | [.agg [.int .i64 a_Kind, .int .i64 a_Number]] => f37 k a_Kind a_Number | _ => none, false, none, false⟩
noncomputable def env7 : List (FuncId × Spec) := (37, s37) :: env6
theorem v37 (k : Nat) (a_Kind : Int) (a_Number : Int) : runFn tiV (envOf env6) 11 [] (finT tiV true Go.Proofs.Try.f37.results.toList [(.pair (.int .i64) (.int .i64), true)] (.pair (.int .i64) (.int .i64))) k (bodyOf Go.Proofs.Try.f37) (initS 0 [.agg [.int .i64 a_Kind, .int .i64 a_Number]]) = f37 k a_Kind a_Number := by kernel_rfl
theorem m37 : Meets Go.Proofs.Try.prog 37 s37 := meets_of_run tiVOk env6_ok mo Go.Proofs.Try.func37 (body := bodyOf Go.Proofs.Try.f37) (by kernel_rfl) (N := 11) (by kernel_rfl) (hs := []) (by
  intro k xs r h
  unfold s37 at h
  dsimp only at h
  split at h
  · exact ⟨Nat.le_of_ble_eq_true rfl, (v37 k _ _).trans h⟩
  · cases h)
theorem env7_ok : EnvOk Go.Proofs.Try.prog (envOf env7) := envOf_cons m37 Go.Proofs.Try.func37 (by kernel_rfl) (by kernel_rfl) env6_ok

-- laws.fillerNode
noncomputable def f38 (k : Nat)  : Option (Int × Int) :=
  some ((-7000000000000000101, -7000000000000000101))
noncomputable def s38 : Spec := ⟨false, [(.pair (.int .i64) (.int .i64), true)], true, .pair (.int .i64) (.int .i64), fun k xs => match xs with | [] => f38 k  | _ => none, false, none, false⟩
noncomputable def env8 : List (FuncId × Spec) := (38, s38) :: env7
theorem v38 (k : Nat)  : runFn tiV (envOf env7) 2 [] (finT tiV true Go.Proofs.Try.f38.results.toList [(.pair (.int .i64) (.int .i64), true)] (.pair (.int .i64) (.int .i64))) k (bodyOf Go.Proofs.Try.f38) (initS 0 []) = f38 k  := by kernel_rfl
theorem m38 : Meets Go.Proofs.Try.prog 38 s38 := meets_of_run tiVOk env7_ok mo Go.Proofs.Try.func38 (body := bodyOf Go.Proofs.Try.f38) (by kernel_rfl) (N := 2) (by kernel_rfl) (hs := []) (by
  intro k xs r h
  unfold s38 at h
  dsimp only at h
  split at h
  · exact ⟨Nat.le_of_ble_eq_true rfl, (v38 k).trans h⟩
  · cases h)
theorem env8_ok : EnvOk Go.Proofs.Try.prog (envOf env8) := envOf_cons m38 Go.Proofs.Try.func38 (by kernel_rfl) (by kernel_rfl) env7_ok

-- laws.toNodeS
def h11 : Hints := [(1005, .lab [(0, .one (.frz 59 (Ty.pair (Ty.int IntKind.i64) (Ty.int IntKind.i64)))), (5, .one (.own 57 (Ty.pair (Ty.int IntKind.i64) (Ty.int IntKind.i64)))), (6, .one (.v))]), (1009, .lab [(0, .one (.frz 59 (Ty.pair (Ty.int IntKind.i64) (Ty.int IntKind.i64)))), (5, .one (.own 57 (Ty.pair (Ty.int IntKind.i64) (Ty.int IntKind.i64)))), (7, .one (.v))])]
noncomputable def F11_1005 (k : Nat) (rec1005 : List (Int × Int) → List (Int × Int) → Int → Option (List (Int × Int) × Nat)) (rec1009 : List (Int × Int) → List (Int × Int) → Int → Option (List (Int × Int) × Nat)) (a : List (Int × Int)) (outs : List (Int × Int)) (i : Int) : Option (List (Int × Int) × Nat) :=
  bif decide (i < (↑(List.length a) : Int)) then
    bif boundA i (List.length a) then
      bif boundA i (List.length outs) then
        bif Nat.blt (Int.toNat i) (List.length outs) then
          rec1005 a (List.set outs (Int.toNat i) ((List.getD a (Int.toNat i) (0, 0)).fst, (List.getD a (Int.toNat i) (0, 0)).snd)) (IntKind.wrap IntKind.i64 (i + 1))
        else
          none
      else
        none
    else
      none
  else
    rec1009 a outs ((↑(List.length a) : Int))
noncomputable def F11_1009 (k : Nat) (rec1005 : List (Int × Int) → List (Int × Int) → Int → Option (List (Int × Int) × Nat)) (rec1009 : List (Int × Int) → List (Int × Int) → Int → Option (List (Int × Int) × Nat)) (a : List (Int × Int)) (outs : List (Int × Int)) (i : Int) : Option (List (Int × Int) × Nat) :=
  bif decide (i < (↑(List.length outs) : Int)) then
    bif boundA i (List.length outs) then
      bif Nat.blt (Int.toNat i) (List.length outs) then
        rec1009 a (List.set outs (Int.toNat i) (-7000000000000000101, -7000000000000000101)) (IntKind.wrap IntKind.i64 (i + 1))
      else
        none
    else
      none
  else
    bif boundE (↑(List.length a) : Int) (List.length outs) then
      some ((outs, Option.getD (some (Int.toNat (↑(List.length a) : Int))) (List.length outs)))
    else
      none
noncomputable def F11 (k : Nat) (rec1005 : List (Int × Int) → List (Int × Int) → Int → Option (List (Int × Int) × Nat)) (rec1009 : List (Int × Int) → List (Int × Int) → Int → Option (List (Int × Int) × Nat)) (a : List (Int × Int)) (bare : Bool) : Option (List (Int × Int) × Nat) :=
  bif bare then
    bif decide ((↑(List.length a) : Int) = 0) then
      some (([], 0))
    else
      (f36 k (↑(List.length a) : Int)).bind fun r0 =>
      bif decide (0 ≤ IntKind.wrap IntKind.i64 ((↑(List.length a) : Int) + r0)) then
        bif decide (IntKind.wrap IntKind.i64 ((↑(List.length a) : Int) + r0) ≤ IntKind.wrap IntKind.i64 ((↑(List.length a) : Int) + r0)) then
          bif decide (IntKind.wrap IntKind.i64 ((↑(List.length a) : Int) + r0) * (↑16 : Int) ≤ 140737488355328) then
            rec1005 a (List.replicate (Int.toNat (IntKind.wrap IntKind.i64 ((↑(List.length a) : Int) + r0))) (dflt (Ty.pair (Ty.int IntKind.i64) (Ty.int IntKind.i64)))) (0)
          else
            none
        else
          none
      else
        none
  else
    (f36 k (↑(List.length a) : Int)).bind fun r1 =>
    bif decide (0 ≤ IntKind.wrap IntKind.i64 ((↑(List.length a) : Int) + r1)) then
      bif decide (IntKind.wrap IntKind.i64 ((↑(List.length a) : Int) + r1) ≤ IntKind.wrap IntKind.i64 ((↑(List.length a) : Int) + r1)) then
        bif decide (IntKind.wrap IntKind.i64 ((↑(List.length a) : Int) + r1) * (↑16 : Int) ≤ 140737488355328) then
          rec1005 a (List.replicate (Int.toNat (IntKind.wrap IntKind.i64 ((↑(List.length a) : Int) + r1))) (dflt (Ty.pair (Ty.int IntKind.i64) (Ty.int IntKind.i64)))) (0)
        else
          none
      else
        none
    else
      none
noncomputable def l11 : Nat → (List (Int × Int) → List (Int × Int) → Int → Option (List (Int × Int) × Nat)) × (List (Int × Int) → List (Int × Int) → Int → Option (List (Int × Int) × Nat))
  | 0 => (fun _ _ _ => none, fun _ _ _ => none)
  | k + 1 => (F11_1005 k ((l11 k).1) ((l11 k).2), F11_1009 k ((l11 k).1) ((l11 k).2))
noncomputable def f11 (k : Nat) (a : List (Int × Int)) (bare : Bool) : Option (List (Int × Int) × Nat) := F11 k ((l11 k).1) ((l11 k).2) a bare
noncomputable def s11 : Spec := ⟨false, [(.vslice 57 (.pair (.int .i64) (.int .i64)), false)], true, .vslice 57 (.pair (.int .i64) (.int .i64)), fun k xs => match xs with | [.slc 59 (.pair (.int .i64) (.int .i64)) a, .bool bare] => f11 k a bare | _ => none, false, none, false⟩
noncomputable def env9 : List (FuncId × Spec) := (11, s11) :: env8
noncomputable abbrev x11 := exec tiV (envOf env8) 51 h11 (finT tiV true Go.Proofs.Try.f11.results.toList [(.vslice 57 (.pair (.int .i64) (.int .i64)), false)] (.vslice 57 (.pair (.int .i64) (.int .i64))))
noncomputable def k11_1005 : List It := stackAt [.r, .r, .r, .l, .r, .b, .lb none] (bodyOf Go.Proofs.Try.f11) []
def t11_1005 (a : List (Int × Int)) (outs : List (Int × Int)) (i : Int) : St := [(0, Cell.val (AVal.slc 59 (Ty.pair (Ty.int IntKind.i64) (Ty.int IntKind.i64)) a)), (10, Cell.val (AVal.ref 33 none)), (33, Cell.row true 57 (Ty.pair (Ty.int IntKind.i64) (Ty.int IntKind.i64)) outs), (12, Cell.val (AVal.int IntKind.i64 i))]
noncomputable def k11_1009 : List It := stackAt [.r, .r, .r, .r, .l, .r, .b, .lb none] (bodyOf Go.Proofs.Try.f11) []
def t11_1009 (a : List (Int × Int)) (outs : List (Int × Int)) (i : Int) : St := [(0, Cell.val (AVal.slc 59 (Ty.pair (Ty.int IntKind.i64) (Ty.int IntKind.i64)) a)), (10, Cell.val (AVal.ref 33 none)), (33, Cell.row true 57 (Ty.pair (Ty.int IntKind.i64) (Ty.int IntKind.i64)) outs), (14, Cell.val (AVal.int IntKind.i64 i))]
theorem e11_1005 (k : Nat) (a : List (Int × Int)) (outs : List (Int × Int)) (i : Int) : x11 (k + 1) k11_1005 (t11_1005 a outs i) = F11_1005 k (fun (a : List (Int × Int)) (outs : List (Int × Int)) (i : Int) => x11 k k11_1005 (t11_1005 a outs i)) (fun (a : List (Int × Int)) (outs : List (Int × Int)) (i : Int) => x11 k k11_1009 (t11_1009 a outs i)) a outs i := by kernel_rfl
theorem e11_1009 (k : Nat) (a : List (Int × Int)) (outs : List (Int × Int)) (i : Int) : x11 (k + 1) k11_1009 (t11_1009 a outs i) = F11_1009 k (fun (a : List (Int × Int)) (outs : List (Int × Int)) (i : Int) => x11 k k11_1005 (t11_1005 a outs i)) (fun (a : List (Int × Int)) (outs : List (Int × Int)) (i : Int) => x11 k k11_1009 (t11_1009 a outs i)) a outs i := by kernel_rfl
theorem q11 : ∀ k : Nat, ((fun (a : List (Int × Int)) (outs : List (Int × Int)) (i : Int) => x11 k k11_1005 (t11_1005 a outs i)), (fun (a : List (Int × Int)) (outs : List (Int × Int)) (i : Int) => x11 k k11_1009 (t11_1009 a outs i))) = l11 k
  | 0 => rfl
  | k + 1 => by
    have h := q11 k
    show _ = (F11_1005 k ((l11 k).1) ((l11 k).2), F11_1009 k ((l11 k).1) ((l11 k).2))
    rw [← h]
    exact (Prod.ext (funext fun a => funext fun outs => funext fun i => e11_1005 k a outs i) (funext fun a => funext fun outs => funext fun i => e11_1009 k a outs i))
theorem w11 (k : Nat) (a : List (Int × Int)) (bare : Bool) : runFn tiV (envOf env8) 51 h11 (finT tiV true Go.Proofs.Try.f11.results.toList [(.vslice 57 (.pair (.int .i64) (.int .i64)), false)] (.vslice 57 (.pair (.int .i64) (.int .i64)))) k (bodyOf Go.Proofs.Try.f11) (initS 0 [.slc 59 (.pair (.int .i64) (.int .i64)) a, .bool bare]) = F11 k (fun (a : List (Int × Int)) (outs : List (Int × Int)) (i : Int) => x11 k k11_1005 (t11_1005 a outs i)) (fun (a : List (Int × Int)) (outs : List (Int × Int)) (i : Int) => x11 k k11_1009 (t11_1009 a outs i)) a bare := by kernel_rfl
theorem v11 (k : Nat) (a : List (Int × Int)) (bare : Bool) : runFn tiV (envOf env8) 51 h11 (finT tiV true Go.Proofs.Try.f11.results.toList [(.vslice 57 (.pair (.int .i64) (.int .i64)), false)] (.vslice 57 (.pair (.int .i64) (.int .i64)))) k (bodyOf Go.Proofs.Try.f11) (initS 0 [.slc 59 (.pair (.int .i64) (.int .i64)) a, .bool bare]) = f11 k a bare := by
  rw [w11]
  have h := q11 k
  unfold f11
  rw [← h]
theorem m11 : Meets Go.Proofs.Try.prog 11 s11 := meets_of_run tiVOk env8_ok mo Go.Proofs.Try.func11 (body := bodyOf Go.Proofs.Try.f11) (by kernel_rfl) (N := 51) (by kernel_rfl) (hs := h11) (by
  intro k xs r h
  unfold s11 at h
  dsimp only at h
  split at h
  · exact ⟨Nat.le_of_ble_eq_true rfl, (v11 k _ _).trans h⟩
  · cases h)
theorem env9_ok : EnvOk Go.Proofs.Try.prog (envOf env9) := envOf_cons m11 Go.Proofs.Try.func11 (by kernel_rfl) (by kernel_rfl) env8_ok

-- laws.eqIntS
def h56 : Hints := [(1004, .lab [(0, .one (.frz 3 (Ty.int IntKind.i64))), (1, .one (.frz 3 (Ty.int IntKind.i64))), (5, .one (.v))])]
noncomputable def F56_1004 (k : Nat) (rec1004 : List Int → List Int → Int → Option (Bool)) (a : List Int) (b : List Int) (i : Int) : Option (Bool) :=
  bif decide (i < (↑(List.length a) : Int)) then
    bif boundA i (List.length a) then
      bif boundA i (List.length b) then
        bif !decide (List.getD a (Int.toNat i) 0 = List.getD b (Int.toNat i) 0) then
          some false
        else
          rec1004 a b (IntKind.wrap IntKind.i64 (i + 1))
      else
        none
    else
      none
  else
    some true
noncomputable def F56 (k : Nat) (rec1004 : List Int → List Int → Int → Option (Bool)) (a : List (Int)) (b : List (Int)) : Option (Bool) :=
  bif !decide ((↑(List.length a) : Int) = (↑(List.length b) : Int)) then
    some false
  else
    rec1004 a b (0)
noncomputable def l56 : Nat → (List Int → List Int → Int → Option (Bool))
  | 0 => fun _ _ _ => none
  | k + 1 => F56_1004 k (l56 k)
noncomputable def f56 (k : Nat) (a : List (Int)) (b : List (Int)) : Option (Bool) := F56 k (l56 k) a b
noncomputable def s56 : Spec := ⟨false, [(.bool, false)], true, .bool, fun k xs => match xs with | [.slc 3 (.int .i64) a, .slc 3 (.int .i64) b] => f56 k a b | _ => none, false, none, false⟩
noncomputable def env10 : List (FuncId × Spec) := (56, s56) :: env9
noncomputable abbrev x56 := exec ti (envOf env9) 26 h56 (finT ti true Go.Proofs.Try.f56.results.toList [(.bool, false)] (.bool))
noncomputable def k56_1004 : List It := stackAt [.r, .r, .l, .r, .b, .lb none] (bodyOf Go.Proofs.Try.f56) []
def t56_1004 (a : List Int) (b : List Int) (i : Int) : St := [(0, Cell.val (AVal.slc 3 (Ty.int IntKind.i64) a)), (2, Cell.val (AVal.slc 3 (Ty.int IntKind.i64) b)), (10, Cell.val (AVal.int IntKind.i64 i))]
theorem e56_1004 (k : Nat) (a : List Int) (b : List Int) (i : Int) : x56 (k + 1) k56_1004 (t56_1004 a b i) = F56_1004 k (fun (a : List Int) (b : List Int) (i : Int) => x56 k k56_1004 (t56_1004 a b i)) a b i := by kernel_rfl
theorem q56 : ∀ k : Nat, (fun (a : List Int) (b : List Int) (i : Int) => x56 k k56_1004 (t56_1004 a b i)) = l56 k
  | 0 => rfl
  | k + 1 => by
    have h := q56 k
    show _ = F56_1004 k (l56 k)
    rw [← h]
    exact (funext fun a => funext fun b => funext fun i => e56_1004 k a b i)
theorem w56 (k : Nat) (a : List (Int)) (b : List (Int)) : runFn ti (envOf env9) 26 h56 (finT ti true Go.Proofs.Try.f56.results.toList [(.bool, false)] (.bool)) k (bodyOf Go.Proofs.Try.f56) (initS 0 [.slc 3 (.int .i64) a, .slc 3 (.int .i64) b]) = F56 k (fun (a : List Int) (b : List Int) (i : Int) => x56 k k56_1004 (t56_1004 a b i)) a b := by kernel_rfl
theorem v56 (k : Nat) (a : List (Int)) (b : List (Int)) : runFn ti (envOf env9) 26 h56 (finT ti true Go.Proofs.Try.f56.results.toList [(.bool, false)] (.bool)) k (bodyOf Go.Proofs.Try.f56) (initS 0 [.slc 3 (.int .i64) a, .slc 3 (.int .i64) b]) = f56 k a b := by
  rw [w56]
  have h := q56 k
  unfold f56
  rw [← h]
theorem m56 : Meets Go.Proofs.Try.prog 56 s56 := meets_of_run tiOk env9_ok mo Go.Proofs.Try.func56 (body := bodyOf Go.Proofs.Try.f56) (by kernel_rfl) (N := 26) (by kernel_rfl) (hs := h56) (by
  intro k xs r h
  unfold s56 at h
  dsimp only at h
  split at h
  · exact ⟨Nat.le_of_ble_eq_true rfl, (v56 k _ _).trans h⟩
  · cases h)
theorem env10_ok : EnvOk Go.Proofs.Try.prog (envOf env10) := envOf_cons m56 Go.Proofs.Try.func56 (by kernel_rfl) (by kernel_rfl) env9_ok

-- laws.intactIntS
noncomputable def f42 (k : Nat) (x : List (Int)) (x_n : Nat) (y : List (Int)) (y_n : Nat) : Option (Bool) :=
  (f36 k (↑y_n : Int)).bind fun r0 =>
  bif decide ((↑x_n : Int) = (↑y_n : Int)) then
    bif boundE (IntKind.wrap IntKind.i64 ((↑y_n : Int) + r0)) (List.length x) then
      bif decide (0 ≤ 0) && decide (0 ≤ IntKind.wrap IntKind.i64 ((↑y_n : Int) + r0)) then
        bif boundE (IntKind.wrap IntKind.i64 ((↑y_n : Int) + r0)) (List.length y) then
          bif decide (0 ≤ 0) && decide (0 ≤ IntKind.wrap IntKind.i64 ((↑y_n : Int) + r0)) then
            (f56 k (List.drop (Int.toNat 0) (List.take (Int.toNat (IntKind.wrap IntKind.i64 ((↑y_n : Int) + r0))) x)) (List.drop (Int.toNat 0) (List.take (Int.toNat (IntKind.wrap IntKind.i64 ((↑y_n : Int) + r0))) y))).bind fun r1 =>
            some r1
          else
            none
        else
          none
      else
        none
    else
      none
  else
    some false
noncomputable def s42 : Spec := ⟨true, [(.bool, false)], true, .bool, fun k xs => match xs with | [.vslc 3 (.int .i64) x x_n, .vslc 3 (.int .i64) y y_n] => f42 k x x_n y y_n | _ => none, false, none, false⟩
noncomputable def env11 : List (FuncId × Spec) := (42, s42) :: env10
theorem v42 (k : Nat) (x : List (Int)) (x_n : Nat) (y : List (Int)) (y_n : Nat) : runFn tiV (envOf env10) 26 [] (finT tiV true Go.Proofs.Try.f42.results.toList [(.bool, false)] (.bool)) k (bodyOf Go.Proofs.Try.f42) (initS 0 [.vslc 3 (.int .i64) x x_n, .vslc 3 (.int .i64) y y_n]) = f42 k x x_n y y_n := by kernel_rfl
theorem m42 : Meets Go.Proofs.Try.prog 42 s42 := meets_of_run tiVOk env10_ok mo Go.Proofs.Try.func42 (body := bodyOf Go.Proofs.Try.f42) (by kernel_rfl) (N := 26) (by kernel_rfl) (hs := []) (by
  intro k xs r h
  unfold s42 at h
  dsimp only at h
  split at h
  · exact ⟨Nat.le_of_ble_eq_true rfl, (v42 k _ _ _ _).trans h⟩
  · cases h)
theorem env11_ok : EnvOk Go.Proofs.Try.prog (envOf env11) := envOf_cons m42 Go.Proofs.Try.func42 (by kernel_rfl) (by kernel_rfl) env10_ok

-- laws.intactBox
noncomputable def f14 (k : Nat) (x_K : Int) (x_Low : List (Int)) (x_Low_n : Nat) (x_High : List (Int)) (x_High_n : Nat) (y_K : Int) (y_Low : List (Int)) (y_Low_n : Nat) (y_High : List (Int)) (y_High_n : Nat) : Option (Bool) :=
  bif !decide (x_K = y_K) then
    some false
  else
    (f42 k x_Low x_Low_n y_Low y_Low_n).bind fun r0 =>
    bif !r0 then
      some false
    else
      (f42 k x_High x_High_n y_High y_High_n).bind fun r1 =>
      bif !r1 then
        some false
      else
        some true
noncomputable def s14 : Spec := ⟨true, [(.bool, false)], true, .bool, fun k xs => match xs with | [.agg [.int .i64 x_K, .vslc 3 (.int .i64) x_Low x_Low_n, .vslc 3 (.int .i64) x_High x_High_n], .agg [.int .i64 y_K, .vslc 3 (.int .i64) y_Low y_Low_n, .vslc 3 (.int .i64) y_High y_High_n]] => f14 k x_K x_Low x_Low_n x_High x_High_n y_K y_Low y_Low_n y_High y_High_n | _ => none, false, none, false⟩
noncomputable def env12 : List (FuncId × Spec) := (14, s14) :: env11
theorem v14 (k : Nat) (x_K : Int) (x_Low : List (Int)) (x_Low_n : Nat) (x_High : List (Int)) (x_High_n : Nat) (y_K : Int) (y_Low : List (Int)) (y_Low_n : Nat) (y_High : List (Int)) (y_High_n : Nat) : runFn tiV (envOf env11) 22 [] (finT tiV true Go.Proofs.Try.f14.results.toList [(.bool, false)] (.bool)) k (bodyOf Go.Proofs.Try.f14) (initS 0 [.agg [.int .i64 x_K, .vslc 3 (.int .i64) x_Low x_Low_n, .vslc 3 (.int .i64) x_High x_High_n], .agg [.int .i64 y_K, .vslc 3 (.int .i64) y_Low y_Low_n, .vslc 3 (.int .i64) y_High y_High_n]]) = f14 k x_K x_Low x_Low_n x_High x_High_n y_K y_Low y_Low_n y_High y_High_n := by kernel_rfl
theorem m14 : Meets Go.Proofs.Try.prog 14 s14 := meets_of_run tiVOk env11_ok mo Go.Proofs.Try.func14 (body := bodyOf Go.Proofs.Try.f14) (by kernel_rfl) (N := 22) (by kernel_rfl) (hs := []) (by
  intro k xs r h
  unfold s14 at h
  dsimp only at h
  split at h
  · exact ⟨Nat.le_of_ble_eq_true rfl, (v14 k _ _ _ _ _ _ _ _ _ _).trans h⟩
  · cases h)
theorem env12_ok : EnvOk Go.Proofs.Try.prog (envOf env12) := envOf_cons m14 Go.Proofs.Try.func14 (by kernel_rfl) (by kernel_rfl) env11_ok

end Go.Proofs.YtchdegcfohegfaaE
