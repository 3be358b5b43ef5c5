/- Functions, by the engine; printed. -/
import Derived.Test.YtbaeikcfchiiaaaCT3
set_option maxRecDepth 100000
set_option maxHeartbeats 4000000
set_option linter.unusedVariables false
namespace Go.Proofs.YtbaeikcfchiiaaaE
-- laws.toDyadic
def f72 (k : Nat) (a_N : Int) (a_K : Int) : Option (Int × Int) :=
  some ((a_N, a_K))
def s72 : Spec := ⟨false, [(.pair (.int .i64) (.int .i64), true)], true, .pair (.int .i64) (.int .i64), fun k xs => match xs with | [.agg [.int .i64 a_N, .int .i64 a_K]] => f72 k a_N a_K | _ => none⟩
def env37 : List (FuncId × Spec) := (72, s72) :: env36
theorem v72 (k : Nat) (a_N : Int) (a_K : Int) : runFn tiV (envOf env36) 11 [] (finT tiV true Go.Proofs.Try.f72.results.toList [(.pair (.int .i64) (.int .i64), true)] (.pair (.int .i64) (.int .i64))) k (bodyOf Go.Proofs.Try.f72) (initS 0 [.agg [.int .i64 a_N, .int .i64 a_K]]) = f72 k a_N a_K := by kernel_rfl
theorem m72 : Meets Go.Proofs.Try.prog 72 s72 := meets_of_run tiVOk env36_ok mo Go.Proofs.Try.func72 (body := bodyOf Go.Proofs.Try.f72) (by kernel_rfl) (N := 11) (by kernel_rfl) (hs := []) (by
  intro k xs r h
  unfold s72 at h
  dsimp only at h
  split at h
  · exact ⟨Nat.le_of_ble_eq_true rfl, (v72 k _ _).trans h⟩
  · cases h)
theorem env37_ok : EnvOk Go.Proofs.Try.prog (envOf env37) := envOf_cons m72 Go.Proofs.Try.func72 (by kernel_rfl) (by kernel_rfl) env36_ok

-- laws.toInterval
def f16 (k : Nat) (a_Low_N : Int) (a_Low_K : Int) (a_High_N : Int) (a_High_K : Int) : Option ((Int × Int) × Int × Int) :=
  some (((a_Low_N, a_Low_K), a_High_N, a_High_K))
def s16 : Spec := ⟨false, [(.pair (.pair (.int .i64) (.int .i64)) (.pair (.int .i64) (.int .i64)), true)], true, .pair (.pair (.int .i64) (.int .i64)) (.pair (.int .i64) (.int .i64)), fun k xs => match xs with | [.agg [.int .i64 a_Low_N, .int .i64 a_Low_K, .int .i64 a_High_N, .int .i64 a_High_K]] => f16 k a_Low_N a_Low_K a_High_N a_High_K | _ => none⟩
def env38 : List (FuncId × Spec) := (16, s16) :: env37
theorem v16 (k : Nat) (a_Low_N : Int) (a_Low_K : Int) (a_High_N : Int) (a_High_K : Int) : runFn tiV (envOf env37) 13 [] (finT tiV true Go.Proofs.Try.f16.results.toList [(.pair (.pair (.int .i64) (.int .i64)) (.pair (.int .i64) (.int .i64)), true)] (.pair (.pair (.int .i64) (.int .i64)) (.pair (.int .i64) (.int .i64)))) k (bodyOf Go.Proofs.Try.f16) (initS 0 [.agg [.int .i64 a_Low_N, .int .i64 a_Low_K, .int .i64 a_High_N, .int .i64 a_High_K]]) = f16 k a_Low_N a_Low_K a_High_N a_High_K := by kernel_rfl
theorem m16 : Meets Go.Proofs.Try.prog 16 s16 := meets_of_run tiVOk env37_ok mo Go.Proofs.Try.func16 (body := bodyOf Go.Proofs.Try.f16) (by kernel_rfl) (N := 13) (by kernel_rfl) (hs := []) (by
  intro k xs r h
  unfold s16 at h
  dsimp only at h
  split at h
  · exact ⟨Nat.le_of_ble_eq_true rfl, (v16 k _ _ _ _).trans h⟩
  · cases h)
theorem env38_ok : EnvOk Go.Proofs.Try.prog (envOf env38) := envOf_cons m16 Go.Proofs.Try.func16 (by kernel_rfl) (by kernel_rfl) env37_ok

-- laws.fillerDyadic
def f181 (k : Nat)  : Option (Int × Int) :=
  some ((-7000000000000000101, -7000000000000000101))
def s181 : Spec := ⟨false, [(.pair (.int .i64) (.int .i64), true)], true, .pair (.int .i64) (.int .i64), fun k xs => match xs with | [] => f181 k  | _ => none⟩
def env39 : List (FuncId × Spec) := (181, s181) :: env38
theorem v181 (k : Nat)  : runFn tiV (envOf env38) 2 [] (finT tiV true Go.Proofs.Try.f181.results.toList [(.pair (.int .i64) (.int .i64), true)] (.pair (.int .i64) (.int .i64))) k (bodyOf Go.Proofs.Try.f181) (initS 0 []) = f181 k  := by kernel_rfl
theorem m181 : Meets Go.Proofs.Try.prog 181 s181 := meets_of_run tiVOk env38_ok mo Go.Proofs.Try.func181 (body := bodyOf Go.Proofs.Try.f181) (by kernel_rfl) (N := 2) (by kernel_rfl) (hs := []) (by
  intro k xs r h
  unfold s181 at h
  dsimp only at h
  split at h
  · exact ⟨Nat.le_of_ble_eq_true rfl, (v181 k).trans h⟩
  · cases h)
theorem env39_ok : EnvOk Go.Proofs.Try.prog (envOf env39) := envOf_cons m181 Go.Proofs.Try.func181 (by kernel_rfl) (by kernel_rfl) env38_ok

-- laws.fillerInterval
def f118 (k : Nat)  : Option ((Int × Int) × Int × Int) :=
  some (((-7000000000000000101, -7000000000000000101), -7000000000000000101, -7000000000000000101))
def s118 : Spec := ⟨false, [(.pair (.pair (.int .i64) (.int .i64)) (.pair (.int .i64) (.int .i64)), true)], true, .pair (.pair (.int .i64) (.int .i64)) (.pair (.int .i64) (.int .i64)), fun k xs => match xs with | [] => f118 k  | _ => none⟩
def env40 : List (FuncId × Spec) := (118, s118) :: env39
theorem v118 (k : Nat)  : runFn tiV (envOf env39) 4 [] (finT tiV true Go.Proofs.Try.f118.results.toList [(.pair (.pair (.int .i64) (.int .i64)) (.pair (.int .i64) (.int .i64)), true)] (.pair (.pair (.int .i64) (.int .i64)) (.pair (.int .i64) (.int .i64)))) k (bodyOf Go.Proofs.Try.f118) (initS 0 []) = f118 k  := by kernel_rfl
theorem m118 : Meets Go.Proofs.Try.prog 118 s118 := meets_of_run tiVOk env39_ok mo Go.Proofs.Try.func118 (body := bodyOf Go.Proofs.Try.f118) (by kernel_rfl) (N := 4) (by kernel_rfl) (hs := []) (by
  intro k xs r h
  unfold s118 at h
  dsimp only at h
  split at h
  · exact ⟨Nat.le_of_ble_eq_true rfl, (v118 k).trans h⟩
  · cases h)
theorem env40_ok : EnvOk Go.Proofs.Try.prog (envOf env40) := envOf_cons m118 Go.Proofs.Try.func118 (by kernel_rfl) (by kernel_rfl) env39_ok

-- laws.toIntervalS
def h64 : Hints := [(1005, .lab [(0, .one (.frz 26 (Ty.pair (Ty.pair (Ty.int IntKind.i64) (Ty.int IntKind.i64)) (Ty.pair (Ty.int IntKind.i64) (Ty.int IntKind.i64))))), (5, .one (.own 29 (Ty.pair (Ty.pair (Ty.int IntKind.i64) (Ty.int IntKind.i64)) (Ty.pair (Ty.int IntKind.i64) (Ty.int IntKind.i64))))), (6, .one (.v))]), (1009, .lab [(0, .one (.frz 26 (Ty.pair (Ty.pair (Ty.int IntKind.i64) (Ty.int IntKind.i64)) (Ty.pair (Ty.int IntKind.i64) (Ty.int IntKind.i64))))), (5, .one (.own 29 (Ty.pair (Ty.pair (Ty.int IntKind.i64) (Ty.int IntKind.i64)) (Ty.pair (Ty.int IntKind.i64) (Ty.int IntKind.i64))))), (7, .one (.v))])]
def F64_1005 (k : Nat) (rec1005 : List ((Int × Int) × Int × Int) → List ((Int × Int) × Int × Int) → Int → Option (List ((Int × Int) × Int × Int) × Nat)) (rec1009 : List ((Int × Int) × Int × Int) → List ((Int × Int) × Int × Int) → Int → Option (List ((Int × Int) × Int × Int) × Nat)) (a : List ((Int × Int) × Int × Int)) (outs : List ((Int × Int) × Int × Int)) (i : Int) : Option (List ((Int × Int) × Int × Int) × Nat) :=
  bif decide (i < (↑(List.length a) : Int)) then
    bif boundA i (List.length a) then
      bif boundA i (List.length outs) then
        bif Nat.blt (Int.toNat i) (List.length outs) then
          rec1005 a (List.set outs (Int.toNat i) (((List.getD a (Int.toNat i) ((0, 0), 0, 0)).fst.fst, (List.getD a (Int.toNat i) ((0, 0), 0, 0)).fst.snd), (List.getD a (Int.toNat i) ((0, 0), 0, 0)).snd.fst, (List.getD a (Int.toNat i) ((0, 0), 0, 0)).snd.snd)) (IntKind.wrap IntKind.i64 (i + 1))
        else
          none
      else
        none
    else
      none
  else
    rec1009 a outs ((↑(List.length a) : Int))
def F64_1009 (k : Nat) (rec1005 : List ((Int × Int) × Int × Int) → List ((Int × Int) × Int × Int) → Int → Option (List ((Int × Int) × Int × Int) × Nat)) (rec1009 : List ((Int × Int) × Int × Int) → List ((Int × Int) × Int × Int) → Int → Option (List ((Int × Int) × Int × Int) × Nat)) (a : List ((Int × Int) × Int × Int)) (outs : List ((Int × Int) × Int × Int)) (i : Int) : Option (List ((Int × Int) × Int × Int) × Nat) :=
  bif decide (i < (↑(List.length outs) : Int)) then
    bif boundA i (List.length outs) then
      bif Nat.blt (Int.toNat i) (List.length outs) then
        rec1009 a (List.set outs (Int.toNat i) ((-7000000000000000101, -7000000000000000101), -7000000000000000101, -7000000000000000101)) (IntKind.wrap IntKind.i64 (i + 1))
      else
        none
    else
      none
  else
    bif boundE (↑(List.length a) : Int) (List.length outs) then
      some ((outs, Option.getD (some (Int.toNat (↑(List.length a) : Int))) (List.length outs)))
    else
      none
def F64 (k : Nat) (rec1005 : List ((Int × Int) × Int × Int) → List ((Int × Int) × Int × Int) → Int → Option (List ((Int × Int) × Int × Int) × Nat)) (rec1009 : List ((Int × Int) × Int × Int) → List ((Int × Int) × Int × Int) → Int → Option (List ((Int × Int) × Int × Int) × Nat)) (a : List ((Int × Int) × Int × Int)) (bare : Bool) : Option (List ((Int × Int) × Int × Int) × Nat) :=
  bif bare then
    bif decide ((↑(List.length a) : Int) = 0) then
      some (([], 0))
    else
      (f71 k (↑(List.length a) : Int)).bind fun r0 =>
      bif decide (0 ≤ IntKind.wrap IntKind.i64 ((↑(List.length a) : Int) + r0)) then
        bif decide (IntKind.wrap IntKind.i64 ((↑(List.length a) : Int) + r0) ≤ IntKind.wrap IntKind.i64 ((↑(List.length a) : Int) + r0)) then
          bif decide (IntKind.wrap IntKind.i64 ((↑(List.length a) : Int) + r0) * (↑32 : Int) ≤ 140737488355328) then
            rec1005 a (List.replicate (Int.toNat (IntKind.wrap IntKind.i64 ((↑(List.length a) : Int) + r0))) (dflt (Ty.pair (Ty.pair (Ty.int IntKind.i64) (Ty.int IntKind.i64)) (Ty.pair (Ty.int IntKind.i64) (Ty.int IntKind.i64))))) (0)
          else
            none
        else
          none
      else
        none
  else
    (f71 k (↑(List.length a) : Int)).bind fun r1 =>
    bif decide (0 ≤ IntKind.wrap IntKind.i64 ((↑(List.length a) : Int) + r1)) then
      bif decide (IntKind.wrap IntKind.i64 ((↑(List.length a) : Int) + r1) ≤ IntKind.wrap IntKind.i64 ((↑(List.length a) : Int) + r1)) then
        bif decide (IntKind.wrap IntKind.i64 ((↑(List.length a) : Int) + r1) * (↑32 : Int) ≤ 140737488355328) then
          rec1005 a (List.replicate (Int.toNat (IntKind.wrap IntKind.i64 ((↑(List.length a) : Int) + r1))) (dflt (Ty.pair (Ty.pair (Ty.int IntKind.i64) (Ty.int IntKind.i64)) (Ty.pair (Ty.int IntKind.i64) (Ty.int IntKind.i64))))) (0)
        else
          none
      else
        none
    else
      none
def l64 : Nat → (List ((Int × Int) × Int × Int) → List ((Int × Int) × Int × Int) → Int → Option (List ((Int × Int) × Int × Int) × Nat)) × (List ((Int × Int) × Int × Int) → List ((Int × Int) × Int × Int) → Int → Option (List ((Int × Int) × Int × Int) × Nat))
  | 0 => (fun _ _ _ => none, fun _ _ _ => none)
  | k + 1 => (F64_1005 k ((l64 k).1) ((l64 k).2), F64_1009 k ((l64 k).1) ((l64 k).2))
def f64 (k : Nat) (a : List ((Int × Int) × Int × Int)) (bare : Bool) : Option (List ((Int × Int) × Int × Int) × Nat) := F64 k ((l64 k).1) ((l64 k).2) a bare
def s64 : Spec := ⟨false, [(.vslice 29 (.pair (.pair (.int .i64) (.int .i64)) (.pair (.int .i64) (.int .i64))), false)], true, .vslice 29 (.pair (.pair (.int .i64) (.int .i64)) (.pair (.int .i64) (.int .i64))), fun k xs => match xs with | [.slc 26 (.pair (.pair (.int .i64) (.int .i64)) (.pair (.int .i64) (.int .i64))) a, .bool bare] => f64 k a bare | _ => none⟩
def env41 : List (FuncId × Spec) := (64, s64) :: env40
noncomputable abbrev x64 := exec tiV (envOf env40) 51 h64 (finT tiV true Go.Proofs.Try.f64.results.toList [(.vslice 29 (.pair (.pair (.int .i64) (.int .i64)) (.pair (.int .i64) (.int .i64))), false)] (.vslice 29 (.pair (.pair (.int .i64) (.int .i64)) (.pair (.int .i64) (.int .i64)))))
noncomputable def k64_1005 : List It := stackAt [.r, .r, .r, .l, .r, .b, .lb none] (bodyOf Go.Proofs.Try.f64) []
def t64_1005 (a : List ((Int × Int) × Int × Int)) (outs : List ((Int × Int) × Int × Int)) (i : Int) : St := [(0, Cell.val (AVal.slc 26 (Ty.pair (Ty.pair (Ty.int IntKind.i64) (Ty.int IntKind.i64)) (Ty.pair (Ty.int IntKind.i64) (Ty.int IntKind.i64))) a)), (10, Cell.val (AVal.ref 3 none)), (3, Cell.row true 29 (Ty.pair (Ty.pair (Ty.int IntKind.i64) (Ty.int IntKind.i64)) (Ty.pair (Ty.int IntKind.i64) (Ty.int IntKind.i64))) outs), (12, Cell.val (AVal.int IntKind.i64 i))]
noncomputable def k64_1009 : List It := stackAt [.r, .r, .r, .r, .l, .r, .b, .lb none] (bodyOf Go.Proofs.Try.f64) []
def t64_1009 (a : List ((Int × Int) × Int × Int)) (outs : List ((Int × Int) × Int × Int)) (i : Int) : St := [(0, Cell.val (AVal.slc 26 (Ty.pair (Ty.pair (Ty.int IntKind.i64) (Ty.int IntKind.i64)) (Ty.pair (Ty.int IntKind.i64) (Ty.int IntKind.i64))) a)), (10, Cell.val (AVal.ref 3 none)), (3, Cell.row true 29 (Ty.pair (Ty.pair (Ty.int IntKind.i64) (Ty.int IntKind.i64)) (Ty.pair (Ty.int IntKind.i64) (Ty.int IntKind.i64))) outs), (14, Cell.val (AVal.int IntKind.i64 i))]
theorem e64_1005 (k : Nat) (a : List ((Int × Int) × Int × Int)) (outs : List ((Int × Int) × Int × Int)) (i : Int) : x64 (k + 1) k64_1005 (t64_1005 a outs i) = F64_1005 k (fun (a : List ((Int × Int) × Int × Int)) (outs : List ((Int × Int) × Int × Int)) (i : Int) => x64 k k64_1005 (t64_1005 a outs i)) (fun (a : List ((Int × Int) × Int × Int)) (outs : List ((Int × Int) × Int × Int)) (i : Int) => x64 k k64_1009 (t64_1009 a outs i)) a outs i := by kernel_rfl
theorem e64_1009 (k : Nat) (a : List ((Int × Int) × Int × Int)) (outs : List ((Int × Int) × Int × Int)) (i : Int) : x64 (k + 1) k64_1009 (t64_1009 a outs i) = F64_1009 k (fun (a : List ((Int × Int) × Int × Int)) (outs : List ((Int × Int) × Int × Int)) (i : Int) => x64 k k64_1005 (t64_1005 a outs i)) (fun (a : List ((Int × Int) × Int × Int)) (outs : List ((Int × Int) × Int × Int)) (i : Int) => x64 k k64_1009 (t64_1009 a outs i)) a outs i := by kernel_rfl
theorem q64 : ∀ k : Nat, ((fun (a : List ((Int × Int) × Int × Int)) (outs : List ((Int × Int) × Int × Int)) (i : Int) => x64 k k64_1005 (t64_1005 a outs i)), (fun (a : List ((Int × Int) × Int × Int)) (outs : List ((Int × Int) × Int × Int)) (i : Int) => x64 k k64_1009 (t64_1009 a outs i))) = l64 k
  | 0 => rfl
  | k + 1 => by
    have h := q64 k
    show _ = (F64_1005 k ((l64 k).1) ((l64 k).2), F64_1009 k ((l64 k).1) ((l64 k).2))
    rw [← h]
    exact (Prod.ext (funext fun a => funext fun outs => funext fun i => e64_1005 k a outs i) (funext fun a => funext fun outs => funext fun i => e64_1009 k a outs i))
theorem w64 (k : Nat) (a : List ((Int × Int) × Int × Int)) (bare : Bool) : runFn tiV (envOf env40) 51 h64 (finT tiV true Go.Proofs.Try.f64.results.toList [(.vslice 29 (.pair (.pair (.int .i64) (.int .i64)) (.pair (.int .i64) (.int .i64))), false)] (.vslice 29 (.pair (.pair (.int .i64) (.int .i64)) (.pair (.int .i64) (.int .i64))))) k (bodyOf Go.Proofs.Try.f64) (initS 0 [.slc 26 (.pair (.pair (.int .i64) (.int .i64)) (.pair (.int .i64) (.int .i64))) a, .bool bare]) = F64 k (fun (a : List ((Int × Int) × Int × Int)) (outs : List ((Int × Int) × Int × Int)) (i : Int) => x64 k k64_1005 (t64_1005 a outs i)) (fun (a : List ((Int × Int) × Int × Int)) (outs : List ((Int × Int) × Int × Int)) (i : Int) => x64 k k64_1009 (t64_1009 a outs i)) a bare := by kernel_rfl
theorem v64 (k : Nat) (a : List ((Int × Int) × Int × Int)) (bare : Bool) : runFn tiV (envOf env40) 51 h64 (finT tiV true Go.Proofs.Try.f64.results.toList [(.vslice 29 (.pair (.pair (.int .i64) (.int .i64)) (.pair (.int .i64) (.int .i64))), false)] (.vslice 29 (.pair (.pair (.int .i64) (.int .i64)) (.pair (.int .i64) (.int .i64))))) k (bodyOf Go.Proofs.Try.f64) (initS 0 [.slc 26 (.pair (.pair (.int .i64) (.int .i64)) (.pair (.int .i64) (.int .i64))) a, .bool bare]) = f64 k a bare := by
  rw [w64]
  have h := q64 k
  unfold f64
  rw [← h]
theorem m64 : Meets Go.Proofs.Try.prog 64 s64 := meets_of_run tiVOk env40_ok mo Go.Proofs.Try.func64 (body := bodyOf Go.Proofs.Try.f64) (by kernel_rfl) (N := 51) (by kernel_rfl) (hs := h64) (by
  intro k xs r h
  unfold s64 at h
  dsimp only at h
  split at h
  · exact ⟨Nat.le_of_ble_eq_true rfl, (v64 k _ _).trans h⟩
  · cases h)
theorem env41_ok : EnvOk Go.Proofs.Try.prog (envOf env41) := envOf_cons m64 Go.Proofs.Try.func64 (by kernel_rfl) (by kernel_rfl) env40_ok

-- impl.inside
def f128 (k : Nat) (n : Int) (low : Int) (high : Int) : Option (Bool) :=
  bif decide (low ≤ n) then
    some (decide (n ≤ high))
  else
    some false
def s128 : Spec := ⟨false, [(.bool, false)], true, .bool, fun k xs => match xs with | [.int .i64 n, .int .i64 low, .int .i64 high] => f128 k n low high | _ => none⟩
def env42 : List (FuncId × Spec) := (128, s128) :: env41
theorem v128 (k : Nat) (n : Int) (low : Int) (high : Int) : runFn ti (envOf env41) 15 [] (finT ti true Go.Proofs.Try.f128.results.toList [(.bool, false)] (.bool)) k (bodyOf Go.Proofs.Try.f128) (initS 0 [.int .i64 n, .int .i64 low, .int .i64 high]) = f128 k n low high := by kernel_rfl
theorem m128 : Meets Go.Proofs.Try.prog 128 s128 := meets_of_run tiOk env41_ok mo Go.Proofs.Try.func128 (body := bodyOf Go.Proofs.Try.f128) (by kernel_rfl) (N := 15) (by kernel_rfl) (hs := []) (by
  intro k xs r h
  unfold s128 at h
  dsimp only at h
  split at h
  · exact ⟨Nat.le_of_ble_eq_true rfl, (v128 k _ _ _).trans h⟩
  · cases h)
theorem env42_ok : EnvOk Go.Proofs.Try.prog (envOf env42) := envOf_cons m128 Go.Proofs.Try.func128 (by kernel_rfl) (by kernel_rfl) env41_ok

-- impl.isSingle
def h152 : Hints := [(1002, .lab [(0, .one (.frz 3 (Ty.int IntKind.i64))), (5, .one (.frz 3 (Ty.int IntKind.i64))), (6, .one (.v)), (7, .one (.v))])]
def F152_1002 (k : Nat) (rec1002 : List Int → List Int → Int → Int → Option (Bool)) (p : List Int) (t5 : List Int) (t6 : Int) (t7 : Int) : Option (Bool) :=
  bif decide (t7 < t6) then
    bif boundA t7 (List.length t5) then
      (f128 k (List.getD t5 (Int.toNat t7) 0) (-1000000) 1000000).bind fun r0 =>
      bif !r0 then
        some false
      else
        rec1002 p t5 t6 (IntKind.wrap IntKind.i64 (t7 + 1))
    else
      none
  else
    bif decide ((↑(List.length p) : Int) = 0) then
      some true
    else
      bif decide ((↑(List.length p) : Int) ≤ 9) then
        bif boundA (IntKind.wrap IntKind.i64 ((↑(List.length p) : Int) - 1)) (List.length p) then
          some (!decide (List.getD p (Int.toNat (IntKind.wrap IntKind.i64 ((↑(List.length p) : Int) - 1))) 0 = 0))
        else
          none
      else
        some false
def F152 (k : Nat) (rec1002 : List Int → List Int → Int → Int → Option (Bool)) (p : List (Int)) : Option (Bool) :=
  rec1002 p p ((↑(List.length p) : Int)) (0)
def l152 : Nat → (List Int → List Int → Int → Int → Option (Bool))
  | 0 => fun _ _ _ _ => none
  | k + 1 => F152_1002 k (l152 k)
def f152 (k : Nat) (p : List (Int)) : Option (Bool) := F152 k (l152 k) p
def s152 : Spec := ⟨false, [(.bool, false)], true, .bool, fun k xs => match xs with | [.slc 3 (.int .i64) p] => f152 k p | _ => none⟩
def env43 : List (FuncId × Spec) := (152, s152) :: env42
noncomputable abbrev x152 := exec ti (envOf env42) 32 h152 (finT ti true Go.Proofs.Try.f152.results.toList [(.bool, false)] (.bool))
noncomputable def k152_1002 : List It := stackAt [.r, .l, .r, .b, .lb none] (bodyOf Go.Proofs.Try.f152) []
def t152_1002 (p : List Int) (t5 : List Int) (t6 : Int) (t7 : Int) : St := [(0, Cell.val (AVal.slc 3 (Ty.int IntKind.i64) p)), (10, Cell.val (AVal.slc 3 (Ty.int IntKind.i64) t5)), (12, Cell.val (AVal.int IntKind.i64 t6)), (14, Cell.val (AVal.int IntKind.i64 t7))]
theorem e152_1002 (k : Nat) (p : List Int) (t5 : List Int) (t6 : Int) (t7 : Int) : x152 (k + 1) k152_1002 (t152_1002 p t5 t6 t7) = F152_1002 k (fun (p : List Int) (t5 : List Int) (t6 : Int) (t7 : Int) => x152 k k152_1002 (t152_1002 p t5 t6 t7)) p t5 t6 t7 := by kernel_rfl
theorem q152 : ∀ k : Nat, (fun (p : List Int) (t5 : List Int) (t6 : Int) (t7 : Int) => x152 k k152_1002 (t152_1002 p t5 t6 t7)) = l152 k
  | 0 => rfl
  | k + 1 => by
    have h := q152 k
    show _ = F152_1002 k (l152 k)
    rw [← h]
    exact (funext fun p => funext fun t5 => funext fun t6 => funext fun t7 => e152_1002 k p t5 t6 t7)
theorem w152 (k : Nat) (p : List (Int)) : runFn ti (envOf env42) 32 h152 (finT ti true Go.Proofs.Try.f152.results.toList [(.bool, false)] (.bool)) k (bodyOf Go.Proofs.Try.f152) (initS 0 [.slc 3 (.int .i64) p]) = F152 k (fun (p : List Int) (t5 : List Int) (t6 : Int) (t7 : Int) => x152 k k152_1002 (t152_1002 p t5 t6 t7)) p := by kernel_rfl
theorem v152 (k : Nat) (p : List (Int)) : runFn ti (envOf env42) 32 h152 (finT ti true Go.Proofs.Try.f152.results.toList [(.bool, false)] (.bool)) k (bodyOf Go.Proofs.Try.f152) (initS 0 [.slc 3 (.int .i64) p]) = f152 k p := by
  rw [w152]
  have h := q152 k
  unfold f152
  rw [← h]
theorem m152 : Meets Go.Proofs.Try.prog 152 s152 := meets_of_run tiOk env42_ok mo Go.Proofs.Try.func152 (body := bodyOf Go.Proofs.Try.f152) (by kernel_rfl) (N := 32) (by kernel_rfl) (hs := h152) (by
  intro k xs r h
  unfold s152 at h
  dsimp only at h
  split at h
  · exact ⟨Nat.le_of_ble_eq_true rfl, (v152 k _).trans h⟩
  · cases h)
theorem env43_ok : EnvOk Go.Proofs.Try.prog (envOf env43) := envOf_cons m152 Go.Proofs.Try.func152 (by kernel_rfl) (by kernel_rfl) env42_ok

-- impl.isSmall$1
def f189 (k : Nat) (c : Int) : Option (Bool) :=
  (f128 k c (-1000) 1000).bind fun r0 =>
  some (!r0)
def s189 : Spec := ⟨false, [(.bool, false)], true, .bool, fun k xs => match xs with | [.int .i64 c] => f189 k c | _ => none⟩
def env44 : List (FuncId × Spec) := (189, s189) :: env43
theorem v189 (k : Nat) (c : Int) : runFn ti (envOf env43) 6 [] (finT ti true Go.Proofs.Try.f189.results.toList [(.bool, false)] (.bool)) k (bodyOf Go.Proofs.Try.f189) (initS 0 [.int .i64 c]) = f189 k c := by kernel_rfl
theorem m189 : Meets Go.Proofs.Try.prog 189 s189 := meets_of_run tiOk env43_ok mo Go.Proofs.Try.func189 (body := bodyOf Go.Proofs.Try.f189) (by kernel_rfl) (N := 6) (by kernel_rfl) (hs := []) (by
  intro k xs r h
  unfold s189 at h
  dsimp only at h
  split at h
  · exact ⟨Nat.le_of_ble_eq_true rfl, (v189 k _).trans h⟩
  · cases h)
theorem env44_ok : EnvOk Go.Proofs.Try.prog (envOf env44) := envOf_cons m189 Go.Proofs.Try.func189 (by kernel_rfl) (by kernel_rfl) env43_ok

-- slices.IndexFunc[[]int,int]
def h238_189 : Hints := [(1002, .lab [(0, .one (.frz 3 (Ty.int IntKind.i64))), (1, .one (.v)), (7, .one (.v)), (8, .one (.v))])]
def F238_189_1002 (k : Nat) (rec1002 : List Int → Int → Int → Option (Int)) (s : List Int) (t7 : Int) (t8 : Int) : Option (Int) :=
  bif decide (t8 < t7) then
    bif boundA t8 (List.length s) then
      (f189 k (List.getD s (Int.toNat t8) 0)).bind fun r0 =>
      bif r0 then
        some t8
      else
        rec1002 s t7 (IntKind.wrap IntKind.i64 (t8 + 1))
    else
      none
  else
    some (-1)
def F238_189 (k : Nat) (rec1002 : List Int → Int → Int → Option (Int)) (s : List (Int)) : Option (Int) :=
  rec1002 s ((↑(List.length s) : Int)) (0)
def l238_189 : Nat → (List Int → Int → Int → Option (Int))
  | 0 => fun _ _ _ => none
  | k + 1 => F238_189_1002 k (l238_189 k)
def f238_189 (k : Nat) (s : List (Int)) : Option (Int) := F238_189 k (l238_189 k) s
def s238 : Spec := ⟨false, [(.int .i64, false)], true, .int .i64, fun k xs => match xs with | [.slc 3 (.int .i64) s, .fn 189] => f238_189 k s | _ => none⟩
def env45 : List (FuncId × Spec) := (238, s238) :: env44
noncomputable abbrev x238_189 := exec ti (envOf env44) 19 h238_189 (finT ti true Go.Proofs.Try.f238.results.toList [(.int .i64, false)] (.int .i64))
noncomputable def k238_189_1002 : List It := stackAt [.r, .l, .r, .b, .lb none] (bodyOf Go.Proofs.Try.f238) []
def t238_189_1002 (s : List Int) (t7 : Int) (t8 : Int) : St := [(0, Cell.val (AVal.slc 3 (Ty.int IntKind.i64) s)), (2, Cell.val (AVal.fn 189)), (14, Cell.val (AVal.int IntKind.i64 t7)), (16, Cell.val (AVal.int IntKind.i64 t8))]
theorem e238_189_1002 (k : Nat) (s : List Int) (t7 : Int) (t8 : Int) : x238_189 (k + 1) k238_189_1002 (t238_189_1002 s t7 t8) = F238_189_1002 k (fun (s : List Int) (t7 : Int) (t8 : Int) => x238_189 k k238_189_1002 (t238_189_1002 s t7 t8)) s t7 t8 := by kernel_rfl
theorem q238_189 : ∀ k : Nat, (fun (s : List Int) (t7 : Int) (t8 : Int) => x238_189 k k238_189_1002 (t238_189_1002 s t7 t8)) = l238_189 k
  | 0 => rfl
  | k + 1 => by
    have h := q238_189 k
    show _ = F238_189_1002 k (l238_189 k)
    rw [← h]
    exact (funext fun s => funext fun t7 => funext fun t8 => e238_189_1002 k s t7 t8)
theorem w238_189 (k : Nat) (s : List (Int)) : runFn ti (envOf env44) 19 h238_189 (finT ti true Go.Proofs.Try.f238.results.toList [(.int .i64, false)] (.int .i64)) k (bodyOf Go.Proofs.Try.f238) (initS 0 [.slc 3 (.int .i64) s, .fn 189]) = F238_189 k (fun (s : List Int) (t7 : Int) (t8 : Int) => x238_189 k k238_189_1002 (t238_189_1002 s t7 t8)) s := by kernel_rfl
theorem v238_189 (k : Nat) (s : List (Int)) : runFn ti (envOf env44) 19 h238_189 (finT ti true Go.Proofs.Try.f238.results.toList [(.int .i64, false)] (.int .i64)) k (bodyOf Go.Proofs.Try.f238) (initS 0 [.slc 3 (.int .i64) s, .fn 189]) = f238_189 k s := by
  rw [w238_189]
  have h := q238_189 k
  unfold f238_189
  rw [← h]
theorem m238 : Meets Go.Proofs.Try.prog 238 s238 := meets_of_run tiOk env44_ok mo Go.Proofs.Try.func238 (body := bodyOf Go.Proofs.Try.f238) (by kernel_rfl) (N := 19) (by kernel_rfl) (hs := h238_189) (by
  intro k xs r h
  unfold s238 at h
  dsimp only at h
  split at h
  · exact ⟨Nat.le_of_ble_eq_true rfl, (v238_189 k _).trans h⟩
  · cases h)
theorem env45_ok : EnvOk Go.Proofs.Try.prog (envOf env45) := envOf_cons m238 Go.Proofs.Try.func238 (by kernel_rfl) (by kernel_rfl) env44_ok

-- slices.ContainsFunc[[]int,int]
def f188_189 (k : Nat) (s : List (Int)) : Option (Bool) :=
  (f238_189 k s).bind fun r0 =>
  some (decide (0 ≤ r0))
def s188 : Spec := ⟨false, [(.bool, false)], true, .bool, fun k xs => match xs with | [.slc 3 (.int .i64) s, .fn 189] => f188_189 k s | _ => none⟩
def env46 : List (FuncId × Spec) := (188, s188) :: env45
theorem v188_189 (k : Nat) (s : List (Int)) : runFn ti (envOf env45) 9 [] (finT ti true Go.Proofs.Try.f188.results.toList [(.bool, false)] (.bool)) k (bodyOf Go.Proofs.Try.f188) (initS 0 [.slc 3 (.int .i64) s, .fn 189]) = f188_189 k s := by kernel_rfl
theorem m188 : Meets Go.Proofs.Try.prog 188 s188 := meets_of_run tiOk env45_ok mo Go.Proofs.Try.func188 (body := bodyOf Go.Proofs.Try.f188) (by kernel_rfl) (N := 9) (by kernel_rfl) (hs := []) (by
  intro k xs r h
  unfold s188 at h
  dsimp only at h
  split at h
  · exact ⟨Nat.le_of_ble_eq_true rfl, (v188_189 k _).trans h⟩
  · cases h)
theorem env46_ok : EnvOk Go.Proofs.Try.prog (envOf env46) := envOf_cons m188 Go.Proofs.Try.func188 (by kernel_rfl) (by kernel_rfl) env45_ok

-- impl.isSmall
def f127 (k : Nat) (p : List (Int)) : Option (Bool) :=
  (f152 k p).bind fun r0 =>
  bif r0 then
    (f128 k (↑(List.length p) : Int) 1 6).bind fun r1 =>
    bif r1 then
      (f188_189 k p).bind fun r2 =>
      some (!r2)
    else
      some false
  else
    some false
def s127 : Spec := ⟨false, [(.bool, false)], true, .bool, fun k xs => match xs with | [.slc 3 (.int .i64) p] => f127 k p | _ => none⟩
def env47 : List (FuncId × Spec) := (127, s127) :: env46
theorem v127 (k : Nat) (p : List (Int)) : runFn ti (envOf env46) 15 [] (finT ti true Go.Proofs.Try.f127.results.toList [(.bool, false)] (.bool)) k (bodyOf Go.Proofs.Try.f127) (initS 0 [.slc 3 (.int .i64) p]) = f127 k p := by kernel_rfl
theorem m127 : Meets Go.Proofs.Try.prog 127 s127 := meets_of_run tiOk env46_ok mo Go.Proofs.Try.func127 (body := bodyOf Go.Proofs.Try.f127) (by kernel_rfl) (N := 15) (by kernel_rfl) (hs := []) (by
  intro k xs r h
  unfold s127 at h
  dsimp only at h
  split at h
  · exact ⟨Nat.le_of_ble_eq_true rfl, (v127 k _).trans h⟩
  · cases h)
theorem env47_ok : EnvOk Go.Proofs.Try.prog (envOf env47) := envOf_cons m127 Go.Proofs.Try.func127 (by kernel_rfl) (by kernel_rfl) env46_ok

-- impl.isFamily
def f73 (k : Nat) (p : List (Int)) (q : List (Int)) (fine : Int) : Option (Bool) :=
  (f127 k p).bind fun r0 =>
  bif r0 then
    (f127 k q).bind fun r1 =>
    bif r1 then
      (f128 k fine 0 4).bind fun r2 =>
      some r2
    else
      some false
  else
    some false
def s73 : Spec := ⟨false, [(.bool, false)], true, .bool, fun k xs => match xs with | [.slc 3 (.int .i64) p, .slc 3 (.int .i64) q, .int .i64 fine] => f73 k p q fine | _ => none⟩
def env48 : List (FuncId × Spec) := (73, s73) :: env47
theorem v73 (k : Nat) (p : List (Int)) (q : List (Int)) (fine : Int) : runFn ti (envOf env47) 17 [] (finT ti true Go.Proofs.Try.f73.results.toList [(.bool, false)] (.bool)) k (bodyOf Go.Proofs.Try.f73) (initS 0 [.slc 3 (.int .i64) p, .slc 3 (.int .i64) q, .int .i64 fine]) = f73 k p q fine := by kernel_rfl
theorem m73 : Meets Go.Proofs.Try.prog 73 s73 := meets_of_run tiOk env47_ok mo Go.Proofs.Try.func73 (body := bodyOf Go.Proofs.Try.f73) (by kernel_rfl) (N := 17) (by kernel_rfl) (hs := []) (by
  intro k xs r h
  unfold s73 at h
  dsimp only at h
  split at h
  · exact ⟨Nat.le_of_ble_eq_true rfl, (v73 k _ _ _).trans h⟩
  · cases h)
theorem env48_ok : EnvOk Go.Proofs.Try.prog (envOf env48) := envOf_cons m73 Go.Proofs.Try.func73 (by kernel_rfl) (by kernel_rfl) env47_ok

end Go.Proofs.YtbaeikcfchiiaaaE
