/- Functions, by the engine; printed. -/
import Derived.Test.YtkahcjnkmbbplaaCN0
set_option maxRecDepth 100000
set_option maxHeartbeats 4000000
set_option linter.unusedVariables false
namespace Go.Proofs.YtkahcjnkmbbplaaE
-- laws.szIntS
noncomputable def f34 (k : Nat) (a : List (Int)) (left : Int) : Option (Int) :=
  bif decide (IntKind.wrap IntKind.i64 (left - (↑(List.length a) : Int)) < 0) then
    some (-1)
  else
    some (IntKind.wrap IntKind.i64 (left - (↑(List.length a) : Int)))
noncomputable def s34 : Spec := ⟨false, [(.int .i64, false)], true, .int .i64, fun k xs => match xs with | [.slc 3 (.int .i64) a, .int .i64 left] => f34 k a left | _ => none, false, none⟩
noncomputable def env1 : List (FuncId × Spec) := (34, s34) :: env0
theorem v34 (k : Nat) (a : List (Int)) (left : Int) : runFn ti (envOf env0) 12 [] (finT ti true Go.Proofs.Try.f34.results.toList [(.int .i64, false)] (.int .i64)) k (bodyOf Go.Proofs.Try.f34) (initS 0 [.slc 3 (.int .i64) a, .int .i64 left]) = f34 k a left := by kernel_rfl
theorem m34 : Meets Go.Proofs.Try.prog 34 s34 := meets_of_run tiOk env0_ok mo Go.Proofs.Try.func34 (body := bodyOf Go.Proofs.Try.f34) (by kernel_rfl) (N := 12) (by kernel_rfl) (hs := []) (by
  intro k xs r h
  unfold s34 at h
  dsimp only at h
  split at h
  · exact ⟨Nat.le_of_ble_eq_true rfl, (v34 k _ _).trans h⟩
  · cases h)
theorem env1_ok : EnvOk Go.Proofs.Try.prog (envOf env1) := envOf_cons m34 Go.Proofs.Try.func34 (by kernel_rfl) (by kernel_rfl) env0_ok

-- laws.szBox
noncomputable def f8 (k : Nat) (a_K : Int) (a_Low : List (Int)) (a_High : List (Int)) (left : Int) : Option (Int) :=
  (f34 k a_Low left).bind fun r0 =>
  bif decide (r0 < 0) then
    some (-1)
  else
    (f34 k a_High r0).bind fun r1 =>
    bif decide (r1 < 0) then
      some (-1)
    else
      some r1
noncomputable def s8 : Spec := ⟨false, [(.int .i64, false)], true, .int .i64, fun k xs => match xs with | [.agg [.int .i64 a_K, .slc 3 (.int .i64) a_Low, .slc 3 (.int .i64) a_High], .int .i64 left] => f8 k a_K a_Low a_High left | _ => none, false, none⟩
noncomputable def env2 : List (FuncId × Spec) := (8, s8) :: env1
theorem v8 (k : Nat) (a_K : Int) (a_Low : List (Int)) (a_High : List (Int)) (left : Int) : runFn ti (envOf env1) 18 [] (finT ti true Go.Proofs.Try.f8.results.toList [(.int .i64, false)] (.int .i64)) k (bodyOf Go.Proofs.Try.f8) (initS 0 [.agg [.int .i64 a_K, .slc 3 (.int .i64) a_Low, .slc 3 (.int .i64) a_High], .int .i64 left]) = f8 k a_K a_Low a_High left := by kernel_rfl
theorem m8 : Meets Go.Proofs.Try.prog 8 s8 := meets_of_run tiOk env1_ok mo Go.Proofs.Try.func8 (body := bodyOf Go.Proofs.Try.f8) (by kernel_rfl) (N := 18) (by kernel_rfl) (hs := []) (by
  intro k xs r h
  unfold s8 at h
  dsimp only at h
  split at h
  · exact ⟨Nat.le_of_ble_eq_true rfl, (v8 k _ _ _ _).trans h⟩
  · cases h)
theorem env2_ok : EnvOk Go.Proofs.Try.prog (envOf env2) := envOf_cons m8 Go.Proofs.Try.func8 (by kernel_rfl) (by kernel_rfl) env1_ok

-- laws.szNodeS
noncomputable def f9 (k : Nat) (a : List (Int × Int)) (left : Int) : Option (Int) :=
  bif decide (IntKind.wrap IntKind.i64 (left - (↑(List.length a) : Int)) < 0) then
    some (-1)
  else
    some (IntKind.wrap IntKind.i64 (left - (↑(List.length a) : Int)))
noncomputable def s9 : Spec := ⟨false, [(.int .i64, false)], true, .int .i64, fun k xs => match xs with | [.slc 65 (.pair (.int .i64) (.int .i64)) a, .int .i64 left] => f9 k a left | _ => none, false, none⟩
noncomputable def env3 : List (FuncId × Spec) := (9, s9) :: env2
theorem v9 (k : Nat) (a : List (Int × Int)) (left : Int) : runFn ti (envOf env2) 12 [] (finT ti true Go.Proofs.Try.f9.results.toList [(.int .i64, false)] (.int .i64)) k (bodyOf Go.Proofs.Try.f9) (initS 0 [.slc 65 (.pair (.int .i64) (.int .i64)) a, .int .i64 left]) = f9 k a left := by kernel_rfl
theorem m9 : Meets Go.Proofs.Try.prog 9 s9 := meets_of_run tiOk env2_ok mo Go.Proofs.Try.func9 (body := bodyOf Go.Proofs.Try.f9) (by kernel_rfl) (N := 12) (by kernel_rfl) (hs := []) (by
  intro k xs r h
  unfold s9 at h
  dsimp only at h
  split at h
  · exact ⟨Nat.le_of_ble_eq_true rfl, (v9 k _ _).trans h⟩
  · cases h)
theorem env3_ok : EnvOk Go.Proofs.Try.prog (envOf env3) := envOf_cons m9 Go.Proofs.Try.func9 (by kernel_rfl) (by kernel_rfl) env2_ok

-- laws.roomBehind
noncomputable def f39 (k : Nat) (n : Int) : Option (Int) :=
  bif decide (Int.tmod n 6 = 5) then
    some (0)
  else
    bif decide (Int.tmod n 3 = 0) then
      some (1)
    else
      some n
noncomputable def s39 : Spec := ⟨false, [(.int .i64, false)], true, .int .i64, fun k xs => match xs with | [.int .i64 n] => f39 k n | _ => none, false, none⟩
noncomputable def env4 : List (FuncId × Spec) := (39, s39) :: env3
theorem v39 (k : Nat) (n : Int) : runFn ti (envOf env3) 10 [] (finT ti true Go.Proofs.Try.f39.results.toList [(.int .i64, false)] (.int .i64)) k (bodyOf Go.Proofs.Try.f39) (initS 0 [.int .i64 n]) = f39 k n := by kernel_rfl
theorem m39 : Meets Go.Proofs.Try.prog 39 s39 := meets_of_run tiOk env3_ok mo Go.Proofs.Try.func39 (body := bodyOf Go.Proofs.Try.f39) (by kernel_rfl) (N := 10) (by kernel_rfl) (hs := []) (by
  intro k xs r h
  unfold s39 at h
  dsimp only at h
  split at h
  · exact ⟨Nat.le_of_ble_eq_true rfl, (v39 k _).trans h⟩
  · cases h)
theorem env4_ok : EnvOk Go.Proofs.Try.prog (envOf env4) := envOf_cons m39 Go.Proofs.Try.func39 (by kernel_rfl) (by kernel_rfl) env3_ok

-- laws.toIntS
def h38 : Hints := [(1005, .lab [(0, .one (.frz 3 (Ty.int IntKind.i64))), (5, .one (.own 3 (Ty.int IntKind.i64))), (6, .one (.v))]), (1009, .lab [(0, .one (.frz 3 (Ty.int IntKind.i64))), (5, .one (.own 3 (Ty.int IntKind.i64))), (7, .one (.v))])]
noncomputable def F38_1005 (k : Nat) (rec1005 : List Int → List Int → Int → Option (List (Int) × Nat)) (rec1009 : List Int → List Int → Int → Option (List (Int) × Nat)) (a : List Int) (outs : List Int) (i : Int) : Option (List (Int) × Nat) :=
  bif decide (i < (↑(List.length a) : Int)) then
    bif boundA i (List.length a) then
      bif boundA i (List.length outs) then
        bif Nat.blt (Int.toNat i) (List.length outs) then
          rec1005 a (List.set outs (Int.toNat i) (List.getD a (Int.toNat i) 0)) (IntKind.wrap IntKind.i64 (i + 1))
        else
          none
      else
        none
    else
      none
  else
    rec1009 a outs ((↑(List.length a) : Int))
noncomputable def F38_1009 (k : Nat) (rec1005 : List Int → List Int → Int → Option (List (Int) × Nat)) (rec1009 : List Int → List Int → Int → Option (List (Int) × Nat)) (a : List Int) (outs : List Int) (i : Int) : Option (List (Int) × Nat) :=
  bif decide (i < (↑(List.length outs) : Int)) then
    bif boundA i (List.length outs) then
      bif Nat.blt (Int.toNat i) (List.length outs) then
        rec1009 a (List.set outs (Int.toNat i) (-7000000000000000101)) (IntKind.wrap IntKind.i64 (i + 1))
      else
        none
    else
      none
  else
    bif boundE (↑(List.length a) : Int) (List.length outs) then
      some ((outs, Option.getD (some (Int.toNat (↑(List.length a) : Int))) (List.length outs)))
    else
      none
noncomputable def F38 (k : Nat) (rec1005 : List Int → List Int → Int → Option (List (Int) × Nat)) (rec1009 : List Int → List Int → Int → Option (List (Int) × Nat)) (a : List (Int)) (bare : Bool) : Option (List (Int) × Nat) :=
  bif bare then
    bif decide ((↑(List.length a) : Int) = 0) then
      some (([], 0))
    else
      (f39 k (↑(List.length a) : Int)).bind fun r0 =>
      bif decide (0 ≤ IntKind.wrap IntKind.i64 ((↑(List.length a) : Int) + r0)) then
        bif decide (IntKind.wrap IntKind.i64 ((↑(List.length a) : Int) + r0) ≤ IntKind.wrap IntKind.i64 ((↑(List.length a) : Int) + r0)) then
          bif decide (IntKind.wrap IntKind.i64 ((↑(List.length a) : Int) + r0) * (↑8 : Int) ≤ 140737488355328) then
            rec1005 a (List.replicate (Int.toNat (IntKind.wrap IntKind.i64 ((↑(List.length a) : Int) + r0))) (dflt (Ty.int IntKind.i64))) (0)
          else
            none
        else
          none
      else
        none
  else
    (f39 k (↑(List.length a) : Int)).bind fun r1 =>
    bif decide (0 ≤ IntKind.wrap IntKind.i64 ((↑(List.length a) : Int) + r1)) then
      bif decide (IntKind.wrap IntKind.i64 ((↑(List.length a) : Int) + r1) ≤ IntKind.wrap IntKind.i64 ((↑(List.length a) : Int) + r1)) then
        bif decide (IntKind.wrap IntKind.i64 ((↑(List.length a) : Int) + r1) * (↑8 : Int) ≤ 140737488355328) then
          rec1005 a (List.replicate (Int.toNat (IntKind.wrap IntKind.i64 ((↑(List.length a) : Int) + r1))) (dflt (Ty.int IntKind.i64))) (0)
        else
          none
      else
        none
    else
      none
noncomputable def l38 : Nat → (List Int → List Int → Int → Option (List (Int) × Nat)) × (List Int → List Int → Int → Option (List (Int) × Nat))
  | 0 => (fun _ _ _ => none, fun _ _ _ => none)
  | k + 1 => (F38_1005 k ((l38 k).1) ((l38 k).2), F38_1009 k ((l38 k).1) ((l38 k).2))
noncomputable def f38 (k : Nat) (a : List (Int)) (bare : Bool) : Option (List (Int) × Nat) := F38 k ((l38 k).1) ((l38 k).2) a bare
noncomputable def s38 : Spec := ⟨false, [(.vslice 3 (.int .i64), false)], true, .vslice 3 (.int .i64), fun k xs => match xs with | [.slc 3 (.int .i64) a, .bool bare] => f38 k a bare | _ => none, false, none⟩
noncomputable def env5 : List (FuncId × Spec) := (38, s38) :: env4
noncomputable abbrev x38 := exec tiV (envOf env4) 49 h38 (finT tiV true Go.Proofs.Try.f38.results.toList [(.vslice 3 (.int .i64), false)] (.vslice 3 (.int .i64)))
noncomputable def k38_1005 : List It := stackAt [.r, .r, .r, .l, .r, .b, .lb none] (bodyOf Go.Proofs.Try.f38) []
def t38_1005 (a : List Int) (outs : List Int) (i : Int) : St := [(0, Cell.val (AVal.slc 3 (Ty.int IntKind.i64) a)), (10, Cell.val (AVal.ref 33 none)), (33, Cell.row true 3 (Ty.int IntKind.i64) outs), (12, Cell.val (AVal.int IntKind.i64 i))]
noncomputable def k38_1009 : List It := stackAt [.r, .r, .r, .r, .l, .r, .b, .lb none] (bodyOf Go.Proofs.Try.f38) []
def t38_1009 (a : List Int) (outs : List Int) (i : Int) : St := [(0, Cell.val (AVal.slc 3 (Ty.int IntKind.i64) a)), (10, Cell.val (AVal.ref 33 none)), (33, Cell.row true 3 (Ty.int IntKind.i64) outs), (14, Cell.val (AVal.int IntKind.i64 i))]
theorem e38_1005 (k : Nat) (a : List Int) (outs : List Int) (i : Int) : x38 (k + 1) k38_1005 (t38_1005 a outs i) = F38_1005 k (fun (a : List Int) (outs : List Int) (i : Int) => x38 k k38_1005 (t38_1005 a outs i)) (fun (a : List Int) (outs : List Int) (i : Int) => x38 k k38_1009 (t38_1009 a outs i)) a outs i := by kernel_rfl
theorem e38_1009 (k : Nat) (a : List Int) (outs : List Int) (i : Int) : x38 (k + 1) k38_1009 (t38_1009 a outs i) = F38_1009 k (fun (a : List Int) (outs : List Int) (i : Int) => x38 k k38_1005 (t38_1005 a outs i)) (fun (a : List Int) (outs : List Int) (i : Int) => x38 k k38_1009 (t38_1009 a outs i)) a outs i := by kernel_rfl
theorem q38 : ∀ k : Nat, ((fun (a : List Int) (outs : List Int) (i : Int) => x38 k k38_1005 (t38_1005 a outs i)), (fun (a : List Int) (outs : List Int) (i : Int) => x38 k k38_1009 (t38_1009 a outs i))) = l38 k
  | 0 => rfl
  | k + 1 => by
    have h := q38 k
    show _ = (F38_1005 k ((l38 k).1) ((l38 k).2), F38_1009 k ((l38 k).1) ((l38 k).2))
    rw [← h]
    exact (Prod.ext (funext fun a => funext fun outs => funext fun i => e38_1005 k a outs i) (funext fun a => funext fun outs => funext fun i => e38_1009 k a outs i))
theorem w38 (k : Nat) (a : List (Int)) (bare : Bool) : runFn tiV (envOf env4) 49 h38 (finT tiV true Go.Proofs.Try.f38.results.toList [(.vslice 3 (.int .i64), false)] (.vslice 3 (.int .i64))) k (bodyOf Go.Proofs.Try.f38) (initS 0 [.slc 3 (.int .i64) a, .bool bare]) = F38 k (fun (a : List Int) (outs : List Int) (i : Int) => x38 k k38_1005 (t38_1005 a outs i)) (fun (a : List Int) (outs : List Int) (i : Int) => x38 k k38_1009 (t38_1009 a outs i)) a bare := by kernel_rfl
theorem v38 (k : Nat) (a : List (Int)) (bare : Bool) : runFn tiV (envOf env4) 49 h38 (finT tiV true Go.Proofs.Try.f38.results.toList [(.vslice 3 (.int .i64), false)] (.vslice 3 (.int .i64))) k (bodyOf Go.Proofs.Try.f38) (initS 0 [.slc 3 (.int .i64) a, .bool bare]) = f38 k a bare := by
  rw [w38]
  have h := q38 k
  unfold f38
  rw [← h]
theorem m38 : Meets Go.Proofs.Try.prog 38 s38 := meets_of_run tiVOk env4_ok mo Go.Proofs.Try.func38 (body := bodyOf Go.Proofs.Try.f38) (by kernel_rfl) (N := 49) (by kernel_rfl) (hs := h38) (by
  intro k xs r h
  unfold s38 at h
  dsimp only at h
  split at h
  · exact ⟨Nat.le_of_ble_eq_true rfl, (v38 k _ _).trans h⟩
  · cases h)
theorem env5_ok : EnvOk Go.Proofs.Try.prog (envOf env5) := envOf_cons m38 Go.Proofs.Try.func38 (by kernel_rfl) (by kernel_rfl) env4_ok

-- laws.toBox
noncomputable def f12 (k : Nat) (a_K : Int) (a_Low : List (Int)) (a_High : List (Int)) (bare : Bool) : Option (Int × (List (Int) × Nat) × List (Int) × Nat) :=
  (f38 k a_Low bare).bind fun r0 =>
  (f38 k a_High bare).bind fun r1 =>
  some ((a_K, (r0.fst, Option.getD (some r0.snd) (List.length r0.fst)), r1.fst, Option.getD (some r1.snd) (List.length r1.fst)))
noncomputable def s12 : Spec := ⟨false, [(.pair (.int .i64) (.pair (.vslice 3 (.int .i64)) (.vslice 3 (.int .i64))), true)], true, .pair (.int .i64) (.pair (.vslice 3 (.int .i64)) (.vslice 3 (.int .i64))), fun k xs => match xs with | [.agg [.int .i64 a_K, .slc 3 (.int .i64) a_Low, .slc 3 (.int .i64) a_High], .bool bare] => f12 k a_K a_Low a_High bare | _ => none, false, none⟩
noncomputable def env6 : List (FuncId × Spec) := (12, s12) :: env5
theorem v12 (k : Nat) (a_K : Int) (a_Low : List (Int)) (a_High : List (Int)) (bare : Bool) : runFn tiV (envOf env5) 20 [] (finT tiV true Go.Proofs.Try.f12.results.toList [(.pair (.int .i64) (.pair (.vslice 3 (.int .i64)) (.vslice 3 (.int .i64))), true)] (.pair (.int .i64) (.pair (.vslice 3 (.int .i64)) (.vslice 3 (.int .i64))))) k (bodyOf Go.Proofs.Try.f12) (initS 0 [.agg [.int .i64 a_K, .slc 3 (.int .i64) a_Low, .slc 3 (.int .i64) a_High], .bool bare]) = f12 k a_K a_Low a_High bare := by kernel_rfl
theorem m12 : Meets Go.Proofs.Try.prog 12 s12 := meets_of_run tiVOk env5_ok mo Go.Proofs.Try.func12 (body := bodyOf Go.Proofs.Try.f12) (by kernel_rfl) (N := 20) (by kernel_rfl) (hs := []) (by
  intro k xs r h
  unfold s12 at h
  dsimp only at h
  split at h
  · exact ⟨Nat.le_of_ble_eq_true rfl, (v12 k _ _ _ _).trans h⟩
  · cases h)
theorem env6_ok : EnvOk Go.Proofs.Try.prog (envOf env6) := envOf_cons m12 Go.Proofs.Try.func12 (by kernel_rfl) (by kernel_rfl) env5_ok

-- laws.toNode
noncomputable def f40 (k : Nat) (a_Kind : Int) (a_Number : Int) : Option (Int × Int) :=
  some ((a_Kind, a_Number))
noncomputable def s40 : Spec := ⟨false, [(.pair (.int .i64) (.int .i64), true)], true, .pair (.int .i64) (.int .i64), fun k xs => match xs with | [.agg [.int .i64 a_Kind, .int .i64 a_Number]] => f40 k a_Kind a_Number | _ => none, false, none⟩
noncomputable def env7 : List (FuncId × Spec) := (40, s40) :: env6
theorem v40 (k : Nat) (a_Kind : Int) (a_Number : Int) : runFn tiV (envOf env6) 11 [] (finT tiV true Go.Proofs.Try.f40.results.toList [(.pair (.int .i64) (.int .i64), true)] (.pair (.int .i64) (.int .i64))) k (bodyOf Go.Proofs.Try.f40) (initS 0 [.agg [.int .i64 a_Kind, .int .i64 a_Number]]) = f40 k a_Kind a_Number := by kernel_rfl
theorem m40 : Meets Go.Proofs.Try.prog 40 s40 := meets_of_run tiVOk env6_ok mo Go.Proofs.Try.func40 (body := bodyOf Go.Proofs.Try.f40) (by kernel_rfl) (N := 11) (by kernel_rfl) (hs := []) (by
  intro k xs r h
  unfold s40 at h
  dsimp only at h
  split at h
  · exact ⟨Nat.le_of_ble_eq_true rfl, (v40 k _ _).trans h⟩
  · cases h)
theorem env7_ok : EnvOk Go.Proofs.Try.prog (envOf env7) := envOf_cons m40 Go.Proofs.Try.func40 (by kernel_rfl) (by kernel_rfl) env6_ok

-- laws.fillerNode
noncomputable def f41 (k : Nat)  : Option (Int × Int) :=
  some ((-7000000000000000101, -7000000000000000101))
noncomputable def s41 : Spec := ⟨false, [(.pair (.int .i64) (.int .i64), true)], true, .pair (.int .i64) (.int .i64), fun k xs => match xs with | [] => f41 k  | _ => none, false, none⟩
noncomputable def env8 : List (FuncId × Spec) := (41, s41) :: env7
theorem v41 (k : Nat)  : runFn tiV (envOf env7) 2 [] (finT tiV true Go.Proofs.Try.f41.results.toList [(.pair (.int .i64) (.int .i64), true)] (.pair (.int .i64) (.int .i64))) k (bodyOf Go.Proofs.Try.f41) (initS 0 []) = f41 k  := by kernel_rfl
theorem m41 : Meets Go.Proofs.Try.prog 41 s41 := meets_of_run tiVOk env7_ok mo Go.Proofs.Try.func41 (body := bodyOf Go.Proofs.Try.f41) (by kernel_rfl) (N := 2) (by kernel_rfl) (hs := []) (by
  intro k xs r h
  unfold s41 at h
  dsimp only at h
  split at h
  · exact ⟨Nat.le_of_ble_eq_true rfl, (v41 k).trans h⟩
  · cases h)
theorem env8_ok : EnvOk Go.Proofs.Try.prog (envOf env8) := envOf_cons m41 Go.Proofs.Try.func41 (by kernel_rfl) (by kernel_rfl) env7_ok

-- laws.toNodeS
def h13 : Hints := [(1005, .lab [(0, .one (.frz 65 (Ty.pair (Ty.int IntKind.i64) (Ty.int IntKind.i64)))), (5, .one (.own 63 (Ty.pair (Ty.int IntKind.i64) (Ty.int IntKind.i64)))), (6, .one (.v))]), (1009, .lab [(0, .one (.frz 65 (Ty.pair (Ty.int IntKind.i64) (Ty.int IntKind.i64)))), (5, .one (.own 63 (Ty.pair (Ty.int IntKind.i64) (Ty.int IntKind.i64)))), (7, .one (.v))])]
noncomputable def F13_1005 (k : Nat) (rec1005 : List (Int × Int) → List (Int × Int) → Int → Option (List (Int × Int) × Nat)) (rec1009 : List (Int × Int) → List (Int × Int) → Int → Option (List (Int × Int) × Nat)) (a : List (Int × Int)) (outs : List (Int × Int)) (i : Int) : Option (List (Int × Int) × Nat) :=
  bif decide (i < (↑(List.length a) : Int)) then
    bif boundA i (List.length a) then
      bif boundA i (List.length outs) then
        bif Nat.blt (Int.toNat i) (List.length outs) then
          rec1005 a (List.set outs (Int.toNat i) ((List.getD a (Int.toNat i) (0, 0)).fst, (List.getD a (Int.toNat i) (0, 0)).snd)) (IntKind.wrap IntKind.i64 (i + 1))
        else
          none
      else
        none
    else
      none
  else
    rec1009 a outs ((↑(List.length a) : Int))
noncomputable def F13_1009 (k : Nat) (rec1005 : List (Int × Int) → List (Int × Int) → Int → Option (List (Int × Int) × Nat)) (rec1009 : List (Int × Int) → List (Int × Int) → Int → Option (List (Int × Int) × Nat)) (a : List (Int × Int)) (outs : List (Int × Int)) (i : Int) : Option (List (Int × Int) × Nat) :=
  bif decide (i < (↑(List.length outs) : Int)) then
    bif boundA i (List.length outs) then
      bif Nat.blt (Int.toNat i) (List.length outs) then
        rec1009 a (List.set outs (Int.toNat i) (-7000000000000000101, -7000000000000000101)) (IntKind.wrap IntKind.i64 (i + 1))
      else
        none
    else
      none
  else
    bif boundE (↑(List.length a) : Int) (List.length outs) then
      some ((outs, Option.getD (some (Int.toNat (↑(List.length a) : Int))) (List.length outs)))
    else
      none
noncomputable def F13 (k : Nat) (rec1005 : List (Int × Int) → List (Int × Int) → Int → Option (List (Int × Int) × Nat)) (rec1009 : List (Int × Int) → List (Int × Int) → Int → Option (List (Int × Int) × Nat)) (a : List (Int × Int)) (bare : Bool) : Option (List (Int × Int) × Nat) :=
  bif bare then
    bif decide ((↑(List.length a) : Int) = 0) then
      some (([], 0))
    else
      (f39 k (↑(List.length a) : Int)).bind fun r0 =>
      bif decide (0 ≤ IntKind.wrap IntKind.i64 ((↑(List.length a) : Int) + r0)) then
        bif decide (IntKind.wrap IntKind.i64 ((↑(List.length a) : Int) + r0) ≤ IntKind.wrap IntKind.i64 ((↑(List.length a) : Int) + r0)) then
          bif decide (IntKind.wrap IntKind.i64 ((↑(List.length a) : Int) + r0) * (↑16 : Int) ≤ 140737488355328) then
            rec1005 a (List.replicate (Int.toNat (IntKind.wrap IntKind.i64 ((↑(List.length a) : Int) + r0))) (dflt (Ty.pair (Ty.int IntKind.i64) (Ty.int IntKind.i64)))) (0)
          else
            none
        else
          none
      else
        none
  else
    (f39 k (↑(List.length a) : Int)).bind fun r1 =>
    bif decide (0 ≤ IntKind.wrap IntKind.i64 ((↑(List.length a) : Int) + r1)) then
      bif decide (IntKind.wrap IntKind.i64 ((↑(List.length a) : Int) + r1) ≤ IntKind.wrap IntKind.i64 ((↑(List.length a) : Int) + r1)) then
        bif decide (IntKind.wrap IntKind.i64 ((↑(List.length a) : Int) + r1) * (↑16 : Int) ≤ 140737488355328) then
          rec1005 a (List.replicate (Int.toNat (IntKind.wrap IntKind.i64 ((↑(List.length a) : Int) + r1))) (dflt (Ty.pair (Ty.int IntKind.i64) (Ty.int IntKind.i64)))) (0)
        else
          none
      else
        none
    else
      none
noncomputable def l13 : Nat → (List (Int × Int) → List (Int × Int) → Int → Option (List (Int × Int) × Nat)) × (List (Int × Int) → List (Int × Int) → Int → Option (List (Int × Int) × Nat))
  | 0 => (fun _ _ _ => none, fun _ _ _ => none)
  | k + 1 => (F13_1005 k ((l13 k).1) ((l13 k).2), F13_1009 k ((l13 k).1) ((l13 k).2))
noncomputable def f13 (k : Nat) (a : List (Int × Int)) (bare : Bool) : Option (List (Int × Int) × Nat) := F13 k ((l13 k).1) ((l13 k).2) a bare
noncomputable def s13 : Spec := ⟨false, [(.vslice 63 (.pair (.int .i64) (.int .i64)), false)], true, .vslice 63 (.pair (.int .i64) (.int .i64)), fun k xs => match xs with | [.slc 65 (.pair (.int .i64) (.int .i64)) a, .bool bare] => f13 k a bare | _ => none, false, none⟩
noncomputable def env9 : List (FuncId × Spec) := (13, s13) :: env8
noncomputable abbrev x13 := exec tiV (envOf env8) 51 h13 (finT tiV true Go.Proofs.Try.f13.results.toList [(.vslice 63 (.pair (.int .i64) (.int .i64)), false)] (.vslice 63 (.pair (.int .i64) (.int .i64))))
noncomputable def k13_1005 : List It := stackAt [.r, .r, .r, .l, .r, .b, .lb none] (bodyOf Go.Proofs.Try.f13) []
def t13_1005 (a : List (Int × Int)) (outs : List (Int × Int)) (i : Int) : St := [(0, Cell.val (AVal.slc 65 (Ty.pair (Ty.int IntKind.i64) (Ty.int IntKind.i64)) a)), (10, Cell.val (AVal.ref 33 none)), (33, Cell.row true 63 (Ty.pair (Ty.int IntKind.i64) (Ty.int IntKind.i64)) outs), (12, Cell.val (AVal.int IntKind.i64 i))]
noncomputable def k13_1009 : List It := stackAt [.r, .r, .r, .r, .l, .r, .b, .lb none] (bodyOf Go.Proofs.Try.f13) []
def t13_1009 (a : List (Int × Int)) (outs : List (Int × Int)) (i : Int) : St := [(0, Cell.val (AVal.slc 65 (Ty.pair (Ty.int IntKind.i64) (Ty.int IntKind.i64)) a)), (10, Cell.val (AVal.ref 33 none)), (33, Cell.row true 63 (Ty.pair (Ty.int IntKind.i64) (Ty.int IntKind.i64)) outs), (14, Cell.val (AVal.int IntKind.i64 i))]
theorem e13_1005 (k : Nat) (a : List (Int × Int)) (outs : List (Int × Int)) (i : Int) : x13 (k + 1) k13_1005 (t13_1005 a outs i) = F13_1005 k (fun (a : List (Int × Int)) (outs : List (Int × Int)) (i : Int) => x13 k k13_1005 (t13_1005 a outs i)) (fun (a : List (Int × Int)) (outs : List (Int × Int)) (i : Int) => x13 k k13_1009 (t13_1009 a outs i)) a outs i := by kernel_rfl
theorem e13_1009 (k : Nat) (a : List (Int × Int)) (outs : List (Int × Int)) (i : Int) : x13 (k + 1) k13_1009 (t13_1009 a outs i) = F13_1009 k (fun (a : List (Int × Int)) (outs : List (Int × Int)) (i : Int) => x13 k k13_1005 (t13_1005 a outs i)) (fun (a : List (Int × Int)) (outs : List (Int × Int)) (i : Int) => x13 k k13_1009 (t13_1009 a outs i)) a outs i := by kernel_rfl
theorem q13 : ∀ k : Nat, ((fun (a : List (Int × Int)) (outs : List (Int × Int)) (i : Int) => x13 k k13_1005 (t13_1005 a outs i)), (fun (a : List (Int × Int)) (outs : List (Int × Int)) (i : Int) => x13 k k13_1009 (t13_1009 a outs i))) = l13 k
  | 0 => rfl
  | k + 1 => by
    have h := q13 k
    show _ = (F13_1005 k ((l13 k).1) ((l13 k).2), F13_1009 k ((l13 k).1) ((l13 k).2))
    rw [← h]
    exact (Prod.ext (funext fun a => funext fun outs => funext fun i => e13_1005 k a outs i) (funext fun a => funext fun outs => funext fun i => e13_1009 k a outs i))
theorem w13 (k : Nat) (a : List (Int × Int)) (bare : Bool) : runFn tiV (envOf env8) 51 h13 (finT tiV true Go.Proofs.Try.f13.results.toList [(.vslice 63 (.pair (.int .i64) (.int .i64)), false)] (.vslice 63 (.pair (.int .i64) (.int .i64)))) k (bodyOf Go.Proofs.Try.f13) (initS 0 [.slc 65 (.pair (.int .i64) (.int .i64)) a, .bool bare]) = F13 k (fun (a : List (Int × Int)) (outs : List (Int × Int)) (i : Int) => x13 k k13_1005 (t13_1005 a outs i)) (fun (a : List (Int × Int)) (outs : List (Int × Int)) (i : Int) => x13 k k13_1009 (t13_1009 a outs i)) a bare := by kernel_rfl
theorem v13 (k : Nat) (a : List (Int × Int)) (bare : Bool) : runFn tiV (envOf env8) 51 h13 (finT tiV true Go.Proofs.Try.f13.results.toList [(.vslice 63 (.pair (.int .i64) (.int .i64)), false)] (.vslice 63 (.pair (.int .i64) (.int .i64)))) k (bodyOf Go.Proofs.Try.f13) (initS 0 [.slc 65 (.pair (.int .i64) (.int .i64)) a, .bool bare]) = f13 k a bare := by
  rw [w13]
  have h := q13 k
  unfold f13
  rw [← h]
theorem m13 : Meets Go.Proofs.Try.prog 13 s13 := meets_of_run tiVOk env8_ok mo Go.Proofs.Try.func13 (body := bodyOf Go.Proofs.Try.f13) (by kernel_rfl) (N := 51) (by kernel_rfl) (hs := h13) (by
  intro k xs r h
  unfold s13 at h
  dsimp only at h
  split at h
  · exact ⟨Nat.le_of_ble_eq_true rfl, (v13 k _ _).trans h⟩
  · cases h)
theorem env9_ok : EnvOk Go.Proofs.Try.prog (envOf env9) := envOf_cons m13 Go.Proofs.Try.func13 (by kernel_rfl) (by kernel_rfl) env8_ok

-- laws.eqIntS
def h57 : Hints := [(1004, .lab [(0, .one (.frz 3 (Ty.int IntKind.i64))), (1, .one (.frz 3 (Ty.int IntKind.i64))), (5, .one (.v))])]
noncomputable def F57_1004 (k : Nat) (rec1004 : List Int → List Int → Int → Option (Bool)) (a : List Int) (b : List Int) (i : Int) : Option (Bool) :=
  bif decide (i < (↑(List.length a) : Int)) then
    bif boundA i (List.length a) then
      bif boundA i (List.length b) then
        bif !decide (List.getD a (Int.toNat i) 0 = List.getD b (Int.toNat i) 0) then
          some false
        else
          rec1004 a b (IntKind.wrap IntKind.i64 (i + 1))
      else
        none
    else
      none
  else
    some true
noncomputable def F57 (k : Nat) (rec1004 : List Int → List Int → Int → Option (Bool)) (a : List (Int)) (b : List (Int)) : Option (Bool) :=
  bif !decide ((↑(List.length a) : Int) = (↑(List.length b) : Int)) then
    some false
  else
    rec1004 a b (0)
noncomputable def l57 : Nat → (List Int → List Int → Int → Option (Bool))
  | 0 => fun _ _ _ => none
  | k + 1 => F57_1004 k (l57 k)
noncomputable def f57 (k : Nat) (a : List (Int)) (b : List (Int)) : Option (Bool) := F57 k (l57 k) a b
noncomputable def s57 : Spec := ⟨false, [(.bool, false)], true, .bool, fun k xs => match xs with | [.slc 3 (.int .i64) a, .slc 3 (.int .i64) b] => f57 k a b | _ => none, false, none⟩
noncomputable def env10 : List (FuncId × Spec) := (57, s57) :: env9
noncomputable abbrev x57 := exec ti (envOf env9) 26 h57 (finT ti true Go.Proofs.Try.f57.results.toList [(.bool, false)] (.bool))
noncomputable def k57_1004 : List It := stackAt [.r, .r, .l, .r, .b, .lb none] (bodyOf Go.Proofs.Try.f57) []
def t57_1004 (a : List Int) (b : List Int) (i : Int) : St := [(0, Cell.val (AVal.slc 3 (Ty.int IntKind.i64) a)), (2, Cell.val (AVal.slc 3 (Ty.int IntKind.i64) b)), (10, Cell.val (AVal.int IntKind.i64 i))]
theorem e57_1004 (k : Nat) (a : List Int) (b : List Int) (i : Int) : x57 (k + 1) k57_1004 (t57_1004 a b i) = F57_1004 k (fun (a : List Int) (b : List Int) (i : Int) => x57 k k57_1004 (t57_1004 a b i)) a b i := by kernel_rfl
theorem q57 : ∀ k : Nat, (fun (a : List Int) (b : List Int) (i : Int) => x57 k k57_1004 (t57_1004 a b i)) = l57 k
  | 0 => rfl
  | k + 1 => by
    have h := q57 k
    show _ = F57_1004 k (l57 k)
    rw [← h]
    exact (funext fun a => funext fun b => funext fun i => e57_1004 k a b i)
theorem w57 (k : Nat) (a : List (Int)) (b : List (Int)) : runFn ti (envOf env9) 26 h57 (finT ti true Go.Proofs.Try.f57.results.toList [(.bool, false)] (.bool)) k (bodyOf Go.Proofs.Try.f57) (initS 0 [.slc 3 (.int .i64) a, .slc 3 (.int .i64) b]) = F57 k (fun (a : List Int) (b : List Int) (i : Int) => x57 k k57_1004 (t57_1004 a b i)) a b := by kernel_rfl
theorem v57 (k : Nat) (a : List (Int)) (b : List (Int)) : runFn ti (envOf env9) 26 h57 (finT ti true Go.Proofs.Try.f57.results.toList [(.bool, false)] (.bool)) k (bodyOf Go.Proofs.Try.f57) (initS 0 [.slc 3 (.int .i64) a, .slc 3 (.int .i64) b]) = f57 k a b := by
  rw [w57]
  have h := q57 k
  unfold f57
  rw [← h]
theorem m57 : Meets Go.Proofs.Try.prog 57 s57 := meets_of_run tiOk env9_ok mo Go.Proofs.Try.func57 (body := bodyOf Go.Proofs.Try.f57) (by kernel_rfl) (N := 26) (by kernel_rfl) (hs := h57) (by
  intro k xs r h
  unfold s57 at h
  dsimp only at h
  split at h
  · exact ⟨Nat.le_of_ble_eq_true rfl, (v57 k _ _).trans h⟩
  · cases h)
theorem env10_ok : EnvOk Go.Proofs.Try.prog (envOf env10) := envOf_cons m57 Go.Proofs.Try.func57 (by kernel_rfl) (by kernel_rfl) env9_ok

-- laws.intactIntS
noncomputable def f47 (k : Nat) (x : List (Int)) (x_n : Nat) (y : List (Int)) (y_n : Nat) : Option (Bool) :=
  (f39 k (↑y_n : Int)).bind fun r0 =>
  bif decide ((↑x_n : Int) = (↑y_n : Int)) then
    bif boundE (IntKind.wrap IntKind.i64 ((↑y_n : Int) + r0)) (List.length x) then
      bif decide (0 ≤ 0) && decide (0 ≤ IntKind.wrap IntKind.i64 ((↑y_n : Int) + r0)) then
        bif boundE (IntKind.wrap IntKind.i64 ((↑y_n : Int) + r0)) (List.length y) then
          bif decide (0 ≤ 0) && decide (0 ≤ IntKind.wrap IntKind.i64 ((↑y_n : Int) + r0)) then
            (f57 k (List.drop (Int.toNat 0) (List.take (Int.toNat (IntKind.wrap IntKind.i64 ((↑y_n : Int) + r0))) x)) (List.drop (Int.toNat 0) (List.take (Int.toNat (IntKind.wrap IntKind.i64 ((↑y_n : Int) + r0))) y))).bind fun r1 =>
            some r1
          else
            none
        else
          none
      else
        none
    else
      none
  else
    some false
noncomputable def s47 : Spec := ⟨true, [(.bool, false)], true, .bool, fun k xs => match xs with | [.vslc 3 (.int .i64) x x_n, .vslc 3 (.int .i64) y y_n] => f47 k x x_n y y_n | _ => none, false, none⟩
noncomputable def env11 : List (FuncId × Spec) := (47, s47) :: env10
theorem v47 (k : Nat) (x : List (Int)) (x_n : Nat) (y : List (Int)) (y_n : Nat) : runFn tiV (envOf env10) 26 [] (finT tiV true Go.Proofs.Try.f47.results.toList [(.bool, false)] (.bool)) k (bodyOf Go.Proofs.Try.f47) (initS 0 [.vslc 3 (.int .i64) x x_n, .vslc 3 (.int .i64) y y_n]) = f47 k x x_n y y_n := by kernel_rfl
theorem m47 : Meets Go.Proofs.Try.prog 47 s47 := meets_of_run tiVOk env10_ok mo Go.Proofs.Try.func47 (body := bodyOf Go.Proofs.Try.f47) (by kernel_rfl) (N := 26) (by kernel_rfl) (hs := []) (by
  intro k xs r h
  unfold s47 at h
  dsimp only at h
  split at h
  · exact ⟨Nat.le_of_ble_eq_true rfl, (v47 k _ _ _ _).trans h⟩
  · cases h)
theorem env11_ok : EnvOk Go.Proofs.Try.prog (envOf env11) := envOf_cons m47 Go.Proofs.Try.func47 (by kernel_rfl) (by kernel_rfl) env10_ok

-- laws.intactBox
noncomputable def f16 (k : Nat) (x_K : Int) (x_Low : List (Int)) (x_Low_n : Nat) (x_High : List (Int)) (x_High_n : Nat) (y_K : Int) (y_Low : List (Int)) (y_Low_n : Nat) (y_High : List (Int)) (y_High_n : Nat) : Option (Bool) :=
  bif !decide (x_K = y_K) then
    some false
  else
    (f47 k x_Low x_Low_n y_Low y_Low_n).bind fun r0 =>
    bif !r0 then
      some false
    else
      (f47 k x_High x_High_n y_High y_High_n).bind fun r1 =>
      bif !r1 then
        some false
      else
        some true
noncomputable def s16 : Spec := ⟨true, [(.bool, false)], true, .bool, fun k xs => match xs with | [.agg [.int .i64 x_K, .vslc 3 (.int .i64) x_Low x_Low_n, .vslc 3 (.int .i64) x_High x_High_n], .agg [.int .i64 y_K, .vslc 3 (.int .i64) y_Low y_Low_n, .vslc 3 (.int .i64) y_High y_High_n]] => f16 k x_K x_Low x_Low_n x_High x_High_n y_K y_Low y_Low_n y_High y_High_n | _ => none, false, none⟩
noncomputable def env12 : List (FuncId × Spec) := (16, s16) :: env11
theorem v16 (k : Nat) (x_K : Int) (x_Low : List (Int)) (x_Low_n : Nat) (x_High : List (Int)) (x_High_n : Nat) (y_K : Int) (y_Low : List (Int)) (y_Low_n : Nat) (y_High : List (Int)) (y_High_n : Nat) : runFn tiV (envOf env11) 22 [] (finT tiV true Go.Proofs.Try.f16.results.toList [(.bool, false)] (.bool)) k (bodyOf Go.Proofs.Try.f16) (initS 0 [.agg [.int .i64 x_K, .vslc 3 (.int .i64) x_Low x_Low_n, .vslc 3 (.int .i64) x_High x_High_n], .agg [.int .i64 y_K, .vslc 3 (.int .i64) y_Low y_Low_n, .vslc 3 (.int .i64) y_High y_High_n]]) = f16 k x_K x_Low x_Low_n x_High x_High_n y_K y_Low y_Low_n y_High y_High_n := by kernel_rfl
theorem m16 : Meets Go.Proofs.Try.prog 16 s16 := meets_of_run tiVOk env11_ok mo Go.Proofs.Try.func16 (body := bodyOf Go.Proofs.Try.f16) (by kernel_rfl) (N := 22) (by kernel_rfl) (hs := []) (by
  intro k xs r h
  unfold s16 at h
  dsimp only at h
  split at h
  · exact ⟨Nat.le_of_ble_eq_true rfl, (v16 k _ _ _ _ _ _ _ _ _ _).trans h⟩
  · cases h)
theorem env12_ok : EnvOk Go.Proofs.Try.prog (envOf env12) := envOf_cons m16 Go.Proofs.Try.func16 (by kernel_rfl) (by kernel_rfl) env11_ok

end Go.Proofs.YtkahcjnkmbbplaaE
