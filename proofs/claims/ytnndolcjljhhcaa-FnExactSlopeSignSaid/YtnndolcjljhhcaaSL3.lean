/- Functions, by the engine; printed. -/
import Derived.Test.YtnndolcjljhhcaaSL2
set_option maxRecDepth 100000
set_option maxHeartbeats 4000000
set_option linter.unusedVariables false
namespace Go.Proofs.YtnndolcjljhhcaaE
-- spec.sgDerive
def h133 : Hints := [(1003, .lab [(3, .one (.own 3 (Ty.int IntKind.i64))), (6, .one (.frz 3 (Ty.int IntKind.i64))), (7, .one (.v)), (8, .one (.v))])]
def F133_1003 (k : Nat) (rec1003 : List Int → List Int → Int → Int → Option (List (Int))) (outs : List Int) (t6 : List Int) (t7 : Int) (t8 : Int) : Option (List (Int)) :=
  bif decide (t8 < t7) then
    bif boundA t8 (List.length t6) then
      bif decide (0 < t8) then
        bif decide ((List.length outs + List.length [IntKind.wrap IntKind.i64 (t8 * List.getD t6 (Int.toNat t8) 0)]) * 8 ≤ 140737488355328) then
          rec1003 (outs ++ [IntKind.wrap IntKind.i64 (t8 * List.getD t6 (Int.toNat t8) 0)]) t6 t7 (IntKind.wrap IntKind.i64 (t8 + 1))
        else
          none
      else
        rec1003 outs t6 t7 (IntKind.wrap IntKind.i64 (t8 + 1))
    else
      none
  else
    some outs
def F133 (k : Nat) (rec1003 : List Int → List Int → Int → Int → Option (List (Int))) (p : List (Int)) : Option (List (Int)) :=
  rec1003 ([]) p ((↑(List.length p) : Int)) (0)
def l133 : Nat → (List Int → List Int → Int → Int → Option (List (Int)))
  | 0 => fun _ _ _ _ => none
  | k + 1 => F133_1003 k (l133 k)
def f133 (k : Nat) (p : List (Int)) : Option (List (Int)) := F133 k (l133 k) p
def s133 : Spec := ⟨false, [(.slice 3 (.int .i64), false)], true, .slice 3 (.int .i64), fun k xs => match xs with | [.slc 3 (.int .i64) p] => f133 k p | _ => none⟩
def env25 : List (FuncId × Spec) := (133, s133) :: env24
noncomputable abbrev x133 := exec ti (envOf env24) 23 h133 (finT ti true Go.Proofs.Try.f133.results.toList [(.slice 3 (.int .i64), false)] (.slice 3 (.int .i64)))
noncomputable def k133_1003 : List It := stackAt [.r, .r, .l, .r, .b, .lb none] (bodyOf Go.Proofs.Try.f133) []
def t133_1003 (outs : List Int) (t6 : List Int) (t7 : Int) (t8 : Int) : St := [(6, Cell.val (AVal.ref 3 none)), (3, Cell.row true 3 (Ty.int IntKind.i64) outs), (12, Cell.val (AVal.slc 3 (Ty.int IntKind.i64) t6)), (14, Cell.val (AVal.int IntKind.i64 t7)), (16, Cell.val (AVal.int IntKind.i64 t8))]
theorem e133_1003 (k : Nat) (outs : List Int) (t6 : List Int) (t7 : Int) (t8 : Int) : x133 (k + 1) k133_1003 (t133_1003 outs t6 t7 t8) = F133_1003 k (fun (outs : List Int) (t6 : List Int) (t7 : Int) (t8 : Int) => x133 k k133_1003 (t133_1003 outs t6 t7 t8)) outs t6 t7 t8 := by kernel_rfl
theorem q133 : ∀ k : Nat, (fun (outs : List Int) (t6 : List Int) (t7 : Int) (t8 : Int) => x133 k k133_1003 (t133_1003 outs t6 t7 t8)) = l133 k
  | 0 => rfl
  | k + 1 => by
    have h := q133 k
    show _ = F133_1003 k (l133 k)
    rw [← h]
    exact (funext fun outs => funext fun t6 => funext fun t7 => funext fun t8 => e133_1003 k outs t6 t7 t8)
theorem w133 (k : Nat) (p : List (Int)) : runFn ti (envOf env24) 23 h133 (finT ti true Go.Proofs.Try.f133.results.toList [(.slice 3 (.int .i64), false)] (.slice 3 (.int .i64))) k (bodyOf Go.Proofs.Try.f133) (initS 0 [.slc 3 (.int .i64) p]) = F133 k (fun (outs : List Int) (t6 : List Int) (t7 : Int) (t8 : Int) => x133 k k133_1003 (t133_1003 outs t6 t7 t8)) p := by kernel_rfl
theorem v133 (k : Nat) (p : List (Int)) : runFn ti (envOf env24) 23 h133 (finT ti true Go.Proofs.Try.f133.results.toList [(.slice 3 (.int .i64), false)] (.slice 3 (.int .i64))) k (bodyOf Go.Proofs.Try.f133) (initS 0 [.slc 3 (.int .i64) p]) = f133 k p := by
  rw [w133]
  have h := q133 k
  unfold f133
  rw [← h]
theorem m133 : Meets Go.Proofs.Try.prog 133 s133 := meets_of_run tiOk env24_ok mo Go.Proofs.Try.func133 (body := bodyOf Go.Proofs.Try.f133) (by kernel_rfl) (N := 23) (by kernel_rfl) (hs := h133) (by
  intro k xs r h
  unfold s133 at h
  dsimp only at h
  split at h
  · exact ⟨Nat.le_of_ble_eq_true rfl, (v133 k _).trans h⟩
  · cases h)
theorem env25_ok : EnvOk Go.Proofs.Try.prog (envOf env25) := envOf_cons m133 Go.Proofs.Try.func133 (by kernel_rfl) (by kernel_rfl) env24_ok

-- spec.beSign
def h134 : Hints := [(1003, .lab [(3, .one (.v)), (10, .one (.frz 3 (Ty.int IntKind.i64))), (11, .one (.v)), (12, .one (.v))])]
def F134_1003 (k : Nat) (rec1003 : Int → List Int → Int → Int → Option (Int)) (sign : Int) (t10 : List Int) (t11 : Int) (t12 : Int) : Option (Int) :=
  bif decide (t12 < t11) then
    bif boundA t12 (List.length t10) then
      (f148 k (List.getD t10 (Int.toNat t12) 0)).bind fun r0 =>
      bif !decide (r0 = sign) then
        some (0)
      else
        rec1003 sign t10 t11 (IntKind.wrap IntKind.i64 (t12 + 1))
    else
      none
  else
    some sign
def F134 (k : Nat) (rec1003 : Int → List Int → Int → Int → Option (Int)) (l : List (Int)) : Option (Int) :=
  bif boundA 0 (List.length l) then
    (f148 k (List.getD l (Int.toNat 0) 0)).bind fun r0 =>
    rec1003 r0 l ((↑(List.length l) : Int)) (0)
  else
    none
def l134 : Nat → (Int → List Int → Int → Int → Option (Int))
  | 0 => fun _ _ _ _ => none
  | k + 1 => F134_1003 k (l134 k)
def f134 (k : Nat) (l : List (Int)) : Option (Int) := F134 k (l134 k) l
def s134 : Spec := ⟨false, [(.int .i64, false)], true, .int .i64, fun k xs => match xs with | [.slc 3 (.int .i64) l] => f134 k l | _ => none⟩
def env26 : List (FuncId × Spec) := (134, s134) :: env25
noncomputable abbrev x134 := exec ti (envOf env25) 22 h134 (finT ti true Go.Proofs.Try.f134.results.toList [(.int .i64, false)] (.int .i64))
noncomputable def k134_1003 : List It := stackAt [.r, .r, .l, .r, .b, .lb none] (bodyOf Go.Proofs.Try.f134) []
def t134_1003 (sign : Int) (t10 : List Int) (t11 : Int) (t12 : Int) : St := [(6, Cell.val (AVal.int IntKind.i64 sign)), (20, Cell.val (AVal.slc 3 (Ty.int IntKind.i64) t10)), (22, Cell.val (AVal.int IntKind.i64 t11)), (24, Cell.val (AVal.int IntKind.i64 t12))]
theorem e134_1003 (k : Nat) (sign : Int) (t10 : List Int) (t11 : Int) (t12 : Int) : x134 (k + 1) k134_1003 (t134_1003 sign t10 t11 t12) = F134_1003 k (fun (sign : Int) (t10 : List Int) (t11 : Int) (t12 : Int) => x134 k k134_1003 (t134_1003 sign t10 t11 t12)) sign t10 t11 t12 := by kernel_rfl
theorem q134 : ∀ k : Nat, (fun (sign : Int) (t10 : List Int) (t11 : Int) (t12 : Int) => x134 k k134_1003 (t134_1003 sign t10 t11 t12)) = l134 k
  | 0 => rfl
  | k + 1 => by
    have h := q134 k
    show _ = F134_1003 k (l134 k)
    rw [← h]
    exact (funext fun sign => funext fun t10 => funext fun t11 => funext fun t12 => e134_1003 k sign t10 t11 t12)
theorem w134 (k : Nat) (l : List (Int)) : runFn ti (envOf env25) 22 h134 (finT ti true Go.Proofs.Try.f134.results.toList [(.int .i64, false)] (.int .i64)) k (bodyOf Go.Proofs.Try.f134) (initS 0 [.slc 3 (.int .i64) l]) = F134 k (fun (sign : Int) (t10 : List Int) (t11 : Int) (t12 : Int) => x134 k k134_1003 (t134_1003 sign t10 t11 t12)) l := by kernel_rfl
theorem v134 (k : Nat) (l : List (Int)) : runFn ti (envOf env25) 22 h134 (finT ti true Go.Proofs.Try.f134.results.toList [(.int .i64, false)] (.int .i64)) k (bodyOf Go.Proofs.Try.f134) (initS 0 [.slc 3 (.int .i64) l]) = f134 k l := by
  rw [w134]
  have h := q134 k
  unfold f134
  rw [← h]
theorem m134 : Meets Go.Proofs.Try.prog 134 s134 := meets_of_run tiOk env25_ok mo Go.Proofs.Try.func134 (body := bodyOf Go.Proofs.Try.f134) (by kernel_rfl) (N := 22) (by kernel_rfl) (hs := h134) (by
  intro k xs r h
  unfold s134 at h
  dsimp only at h
  split at h
  · exact ⟨Nat.le_of_ble_eq_true rfl, (v134 k _).trans h⟩
  · cases h)
theorem env26_ok : EnvOk Go.Proofs.Try.prog (envOf env26) := envOf_cons m134 Go.Proofs.Try.func134 (by kernel_rfl) (by kernel_rfl) env25_ok

-- spec.faSlope
def f97 (k : Nat) (p : List (Int)) (q : List (Int)) (x_Low_N : Int) (x_Low_K : Int) (x_High_N : Int) (x_High_K : Int) (i : Int) (fine : Int) : Option (Int) :=
  (f64 k p q i fine).bind fun r0 =>
  (f133 k r0).bind fun r1 =>
  (f132 k r1 x_Low_N x_Low_K x_High_N x_High_K).bind fun r2 =>
  (f64 k p q (IntKind.wrap IntKind.i64 (i + 1)) fine).bind fun r3 =>
  (f133 k r3).bind fun r4 =>
  (f132 k r4 x_Low_N x_Low_K x_High_N x_High_K).bind fun r5 =>
  bif decide ((List.length r2 + List.length r5) * 8 ≤ 140737488355328) then
    (f134 k (r2 ++ r5)).bind fun r6 =>
    some r6
  else
    none
def s97 : Spec := ⟨false, [(.int .i64, false)], true, .int .i64, fun k xs => match xs with | [.slc 3 (.int .i64) p, .slc 3 (.int .i64) q, .agg [.int .i64 x_Low_N, .int .i64 x_Low_K, .int .i64 x_High_N, .int .i64 x_High_K], .int .i64 i, .int .i64 fine] => f97 k p q x_Low_N x_Low_K x_High_N x_High_K i fine | _ => none⟩
def env27 : List (FuncId × Spec) := (97, s97) :: env26
theorem v97 (k : Nat) (p : List (Int)) (q : List (Int)) (x_Low_N : Int) (x_Low_K : Int) (x_High_N : Int) (x_High_K : Int) (i : Int) (fine : Int) : runFn ti (envOf env26) 32 [] (finT ti true Go.Proofs.Try.f97.results.toList [(.int .i64, false)] (.int .i64)) k (bodyOf Go.Proofs.Try.f97) (initS 0 [.slc 3 (.int .i64) p, .slc 3 (.int .i64) q, .agg [.int .i64 x_Low_N, .int .i64 x_Low_K, .int .i64 x_High_N, .int .i64 x_High_K], .int .i64 i, .int .i64 fine]) = f97 k p q x_Low_N x_Low_K x_High_N x_High_K i fine := by kernel_rfl
theorem m97 : Meets Go.Proofs.Try.prog 97 s97 := meets_of_run tiOk env26_ok mo Go.Proofs.Try.func97 (body := bodyOf Go.Proofs.Try.f97) (by kernel_rfl) (N := 32) (by kernel_rfl) (hs := []) (by
  intro k xs r h
  unfold s97 at h
  dsimp only at h
  split at h
  · exact ⟨Nat.le_of_ble_eq_true rfl, (v97 k _ _ _ _ _ _ _ _).trans h⟩
  · cases h)
theorem env27_ok : EnvOk Go.Proofs.Try.prog (envOf env27) := envOf_cons m97 Go.Proofs.Try.func97 (by kernel_rfl) (by kernel_rfl) env26_ok

-- spec.SlopeSign
def f50 (k : Nat) (p : List (Int)) (q : List (Int)) (x_Low_N : Int) (x_Low_K : Int) (x_High_N : Int) (x_High_K : Int) (i : Int) (fine : Int) : Option (Int × Bool) :=
  (f95 k p q i fine).bind fun r0 =>
  bif !r0 then
    some ((0, false))
  else
    (f96 k x_Low_N x_Low_K x_High_N x_High_K).bind fun r1 =>
    bif !r1 then
      some ((0, false))
    else
      (f97 k p q x_Low_N x_Low_K x_High_N x_High_K i fine).bind fun r2 =>
      some ((r2, true))
def s50 : Spec := ⟨false, [(.int .i64, false), (.bool, false)], true, .pair (.int .i64) (.bool), fun k xs => match xs with | [.slc 3 (.int .i64) p, .slc 3 (.int .i64) q, .agg [.int .i64 x_Low_N, .int .i64 x_Low_K, .int .i64 x_High_N, .int .i64 x_High_K], .int .i64 i, .int .i64 fine] => f50 k p q x_Low_N x_Low_K x_High_N x_High_K i fine | _ => none⟩
def env28 : List (FuncId × Spec) := (50, s50) :: env27
theorem v50 (k : Nat) (p : List (Int)) (q : List (Int)) (x_Low_N : Int) (x_Low_K : Int) (x_High_N : Int) (x_High_K : Int) (i : Int) (fine : Int) : runFn ti (envOf env27) 29 [] (finT ti true Go.Proofs.Try.f50.results.toList [(.int .i64, false), (.bool, false)] (.pair (.int .i64) (.bool))) k (bodyOf Go.Proofs.Try.f50) (initS 0 [.slc 3 (.int .i64) p, .slc 3 (.int .i64) q, .agg [.int .i64 x_Low_N, .int .i64 x_Low_K, .int .i64 x_High_N, .int .i64 x_High_K], .int .i64 i, .int .i64 fine]) = f50 k p q x_Low_N x_Low_K x_High_N x_High_K i fine := by kernel_rfl
theorem m50 : Meets Go.Proofs.Try.prog 50 s50 := meets_of_run tiOk env27_ok mo Go.Proofs.Try.func50 (body := bodyOf Go.Proofs.Try.f50) (by kernel_rfl) (N := 29) (by kernel_rfl) (hs := []) (by
  intro k xs r h
  unfold s50 at h
  dsimp only at h
  split at h
  · exact ⟨Nat.le_of_ble_eq_true rfl, (v50 k _ _ _ _ _ _ _ _).trans h⟩
  · cases h)
theorem env28_ok : EnvOk Go.Proofs.Try.prog (envOf env28) := envOf_cons m50 Go.Proofs.Try.func50 (by kernel_rfl) (by kernel_rfl) env27_ok

-- laws.toDyadic
def f43 (k : Nat) (a_N : Int) (a_K : Int) : Option (Int × Int) :=
  some ((a_N, a_K))
def s43 : Spec := ⟨false, [(.pair (.int .i64) (.int .i64), true)], true, .pair (.int .i64) (.int .i64), fun k xs => match xs with | [.agg [.int .i64 a_N, .int .i64 a_K]] => f43 k a_N a_K | _ => none⟩
def env29 : List (FuncId × Spec) := (43, s43) :: env28
theorem v43 (k : Nat) (a_N : Int) (a_K : Int) : runFn tiV (envOf env28) 11 [] (finT tiV true Go.Proofs.Try.f43.results.toList [(.pair (.int .i64) (.int .i64), true)] (.pair (.int .i64) (.int .i64))) k (bodyOf Go.Proofs.Try.f43) (initS 0 [.agg [.int .i64 a_N, .int .i64 a_K]]) = f43 k a_N a_K := by kernel_rfl
theorem m43 : Meets Go.Proofs.Try.prog 43 s43 := meets_of_run tiVOk env28_ok mo Go.Proofs.Try.func43 (body := bodyOf Go.Proofs.Try.f43) (by kernel_rfl) (N := 11) (by kernel_rfl) (hs := []) (by
  intro k xs r h
  unfold s43 at h
  dsimp only at h
  split at h
  · exact ⟨Nat.le_of_ble_eq_true rfl, (v43 k _ _).trans h⟩
  · cases h)
theorem env29_ok : EnvOk Go.Proofs.Try.prog (envOf env29) := envOf_cons m43 Go.Proofs.Try.func43 (by kernel_rfl) (by kernel_rfl) env28_ok

-- laws.toInterval
def f51 (k : Nat) (a_Low_N : Int) (a_Low_K : Int) (a_High_N : Int) (a_High_K : Int) : Option ((Int × Int) × Int × Int) :=
  some (((a_Low_N, a_Low_K), a_High_N, a_High_K))
def s51 : Spec := ⟨false, [(.pair (.pair (.int .i64) (.int .i64)) (.pair (.int .i64) (.int .i64)), true)], true, .pair (.pair (.int .i64) (.int .i64)) (.pair (.int .i64) (.int .i64)), fun k xs => match xs with | [.agg [.int .i64 a_Low_N, .int .i64 a_Low_K, .int .i64 a_High_N, .int .i64 a_High_K]] => f51 k a_Low_N a_Low_K a_High_N a_High_K | _ => none⟩
def env30 : List (FuncId × Spec) := (51, s51) :: env29
theorem v51 (k : Nat) (a_Low_N : Int) (a_Low_K : Int) (a_High_N : Int) (a_High_K : Int) : runFn tiV (envOf env29) 13 [] (finT tiV true Go.Proofs.Try.f51.results.toList [(.pair (.pair (.int .i64) (.int .i64)) (.pair (.int .i64) (.int .i64)), true)] (.pair (.pair (.int .i64) (.int .i64)) (.pair (.int .i64) (.int .i64)))) k (bodyOf Go.Proofs.Try.f51) (initS 0 [.agg [.int .i64 a_Low_N, .int .i64 a_Low_K, .int .i64 a_High_N, .int .i64 a_High_K]]) = f51 k a_Low_N a_Low_K a_High_N a_High_K := by kernel_rfl
theorem m51 : Meets Go.Proofs.Try.prog 51 s51 := meets_of_run tiVOk env29_ok mo Go.Proofs.Try.func51 (body := bodyOf Go.Proofs.Try.f51) (by kernel_rfl) (N := 13) (by kernel_rfl) (hs := []) (by
  intro k xs r h
  unfold s51 at h
  dsimp only at h
  split at h
  · exact ⟨Nat.le_of_ble_eq_true rfl, (v51 k _ _ _ _).trans h⟩
  · cases h)
theorem env30_ok : EnvOk Go.Proofs.Try.prog (envOf env30) := envOf_cons m51 Go.Proofs.Try.func51 (by kernel_rfl) (by kernel_rfl) env29_ok

-- impl.inside
def f74 (k : Nat) (n : Int) (low : Int) (high : Int) : Option (Bool) :=
  bif decide (low ≤ n) then
    some (decide (n ≤ high))
  else
    some false
def s74 : Spec := ⟨false, [(.bool, false)], true, .bool, fun k xs => match xs with | [.int .i64 n, .int .i64 low, .int .i64 high] => f74 k n low high | _ => none⟩
def env31 : List (FuncId × Spec) := (74, s74) :: env30
theorem v74 (k : Nat) (n : Int) (low : Int) (high : Int) : runFn ti (envOf env30) 15 [] (finT ti true Go.Proofs.Try.f74.results.toList [(.bool, false)] (.bool)) k (bodyOf Go.Proofs.Try.f74) (initS 0 [.int .i64 n, .int .i64 low, .int .i64 high]) = f74 k n low high := by kernel_rfl
theorem m74 : Meets Go.Proofs.Try.prog 74 s74 := meets_of_run tiOk env30_ok mo Go.Proofs.Try.func74 (body := bodyOf Go.Proofs.Try.f74) (by kernel_rfl) (N := 15) (by kernel_rfl) (hs := []) (by
  intro k xs r h
  unfold s74 at h
  dsimp only at h
  split at h
  · exact ⟨Nat.le_of_ble_eq_true rfl, (v74 k _ _ _).trans h⟩
  · cases h)
theorem env31_ok : EnvOk Go.Proofs.Try.prog (envOf env31) := envOf_cons m74 Go.Proofs.Try.func74 (by kernel_rfl) (by kernel_rfl) env30_ok

-- impl.isSingle
def h143 : Hints := [(1002, .lab [(0, .one (.frz 3 (Ty.int IntKind.i64))), (5, .one (.frz 3 (Ty.int IntKind.i64))), (6, .one (.v)), (7, .one (.v))])]
def F143_1002 (k : Nat) (rec1002 : List Int → List Int → Int → Int → Option (Bool)) (p : List Int) (t5 : List Int) (t6 : Int) (t7 : Int) : Option (Bool) :=
  bif decide (t7 < t6) then
    bif boundA t7 (List.length t5) then
      (f74 k (List.getD t5 (Int.toNat t7) 0) (-1000000) 1000000).bind fun r0 =>
      bif !r0 then
        some false
      else
        rec1002 p t5 t6 (IntKind.wrap IntKind.i64 (t7 + 1))
    else
      none
  else
    bif decide ((↑(List.length p) : Int) = 0) then
      some true
    else
      bif decide ((↑(List.length p) : Int) ≤ 9) then
        bif boundA (IntKind.wrap IntKind.i64 ((↑(List.length p) : Int) - 1)) (List.length p) then
          some (!decide (List.getD p (Int.toNat (IntKind.wrap IntKind.i64 ((↑(List.length p) : Int) - 1))) 0 = 0))
        else
          none
      else
        some false
def F143 (k : Nat) (rec1002 : List Int → List Int → Int → Int → Option (Bool)) (p : List (Int)) : Option (Bool) :=
  rec1002 p p ((↑(List.length p) : Int)) (0)
def l143 : Nat → (List Int → List Int → Int → Int → Option (Bool))
  | 0 => fun _ _ _ _ => none
  | k + 1 => F143_1002 k (l143 k)
def f143 (k : Nat) (p : List (Int)) : Option (Bool) := F143 k (l143 k) p
def s143 : Spec := ⟨false, [(.bool, false)], true, .bool, fun k xs => match xs with | [.slc 3 (.int .i64) p] => f143 k p | _ => none⟩
def env32 : List (FuncId × Spec) := (143, s143) :: env31
noncomputable abbrev x143 := exec ti (envOf env31) 32 h143 (finT ti true Go.Proofs.Try.f143.results.toList [(.bool, false)] (.bool))
noncomputable def k143_1002 : List It := stackAt [.r, .l, .r, .b, .lb none] (bodyOf Go.Proofs.Try.f143) []
def t143_1002 (p : List Int) (t5 : List Int) (t6 : Int) (t7 : Int) : St := [(0, Cell.val (AVal.slc 3 (Ty.int IntKind.i64) p)), (10, Cell.val (AVal.slc 3 (Ty.int IntKind.i64) t5)), (12, Cell.val (AVal.int IntKind.i64 t6)), (14, Cell.val (AVal.int IntKind.i64 t7))]
theorem e143_1002 (k : Nat) (p : List Int) (t5 : List Int) (t6 : Int) (t7 : Int) : x143 (k + 1) k143_1002 (t143_1002 p t5 t6 t7) = F143_1002 k (fun (p : List Int) (t5 : List Int) (t6 : Int) (t7 : Int) => x143 k k143_1002 (t143_1002 p t5 t6 t7)) p t5 t6 t7 := by kernel_rfl
theorem q143 : ∀ k : Nat, (fun (p : List Int) (t5 : List Int) (t6 : Int) (t7 : Int) => x143 k k143_1002 (t143_1002 p t5 t6 t7)) = l143 k
  | 0 => rfl
  | k + 1 => by
    have h := q143 k
    show _ = F143_1002 k (l143 k)
    rw [← h]
    exact (funext fun p => funext fun t5 => funext fun t6 => funext fun t7 => e143_1002 k p t5 t6 t7)
theorem w143 (k : Nat) (p : List (Int)) : runFn ti (envOf env31) 32 h143 (finT ti true Go.Proofs.Try.f143.results.toList [(.bool, false)] (.bool)) k (bodyOf Go.Proofs.Try.f143) (initS 0 [.slc 3 (.int .i64) p]) = F143 k (fun (p : List Int) (t5 : List Int) (t6 : Int) (t7 : Int) => x143 k k143_1002 (t143_1002 p t5 t6 t7)) p := by kernel_rfl
theorem v143 (k : Nat) (p : List (Int)) : runFn ti (envOf env31) 32 h143 (finT ti true Go.Proofs.Try.f143.results.toList [(.bool, false)] (.bool)) k (bodyOf Go.Proofs.Try.f143) (initS 0 [.slc 3 (.int .i64) p]) = f143 k p := by
  rw [w143]
  have h := q143 k
  unfold f143
  rw [← h]
theorem m143 : Meets Go.Proofs.Try.prog 143 s143 := meets_of_run tiOk env31_ok mo Go.Proofs.Try.func143 (body := bodyOf Go.Proofs.Try.f143) (by kernel_rfl) (N := 32) (by kernel_rfl) (hs := h143) (by
  intro k xs r h
  unfold s143 at h
  dsimp only at h
  split at h
  · exact ⟨Nat.le_of_ble_eq_true rfl, (v143 k _).trans h⟩
  · cases h)
theorem env32_ok : EnvOk Go.Proofs.Try.prog (envOf env32) := envOf_cons m143 Go.Proofs.Try.func143 (by kernel_rfl) (by kernel_rfl) env31_ok

-- impl.isSmall$1
def f145 (k : Nat) (c : Int) : Option (Bool) :=
  (f74 k c (-1000) 1000).bind fun r0 =>
  some (!r0)
def s145 : Spec := ⟨false, [(.bool, false)], true, .bool, fun k xs => match xs with | [.int .i64 c] => f145 k c | _ => none⟩
def env33 : List (FuncId × Spec) := (145, s145) :: env32
theorem v145 (k : Nat) (c : Int) : runFn ti (envOf env32) 6 [] (finT ti true Go.Proofs.Try.f145.results.toList [(.bool, false)] (.bool)) k (bodyOf Go.Proofs.Try.f145) (initS 0 [.int .i64 c]) = f145 k c := by kernel_rfl
theorem m145 : Meets Go.Proofs.Try.prog 145 s145 := meets_of_run tiOk env32_ok mo Go.Proofs.Try.func145 (body := bodyOf Go.Proofs.Try.f145) (by kernel_rfl) (N := 6) (by kernel_rfl) (hs := []) (by
  intro k xs r h
  unfold s145 at h
  dsimp only at h
  split at h
  · exact ⟨Nat.le_of_ble_eq_true rfl, (v145 k _).trans h⟩
  · cases h)
theorem env33_ok : EnvOk Go.Proofs.Try.prog (envOf env33) := envOf_cons m145 Go.Proofs.Try.func145 (by kernel_rfl) (by kernel_rfl) env32_ok

-- slices.IndexFunc[[]int,int]
def h174_145 : Hints := [(1002, .lab [(0, .one (.frz 3 (Ty.int IntKind.i64))), (1, .one (.v)), (7, .one (.v)), (8, .one (.v))])]
def F174_145_1002 (k : Nat) (rec1002 : List Int → Int → Int → Option (Int)) (s : List Int) (t7 : Int) (t8 : Int) : Option (Int) :=
  bif decide (t8 < t7) then
    bif boundA t8 (List.length s) then
      (f145 k (List.getD s (Int.toNat t8) 0)).bind fun r0 =>
      bif r0 then
        some t8
      else
        rec1002 s t7 (IntKind.wrap IntKind.i64 (t8 + 1))
    else
      none
  else
    some (-1)
def F174_145 (k : Nat) (rec1002 : List Int → Int → Int → Option (Int)) (s : List (Int)) : Option (Int) :=
  rec1002 s ((↑(List.length s) : Int)) (0)
def l174_145 : Nat → (List Int → Int → Int → Option (Int))
  | 0 => fun _ _ _ => none
  | k + 1 => F174_145_1002 k (l174_145 k)
def f174_145 (k : Nat) (s : List (Int)) : Option (Int) := F174_145 k (l174_145 k) s
def s174 : Spec := ⟨false, [(.int .i64, false)], true, .int .i64, fun k xs => match xs with | [.slc 3 (.int .i64) s, .fn 145] => f174_145 k s | _ => none⟩
def env34 : List (FuncId × Spec) := (174, s174) :: env33
noncomputable abbrev x174_145 := exec ti (envOf env33) 19 h174_145 (finT ti true Go.Proofs.Try.f174.results.toList [(.int .i64, false)] (.int .i64))
noncomputable def k174_145_1002 : List It := stackAt [.r, .l, .r, .b, .lb none] (bodyOf Go.Proofs.Try.f174) []
def t174_145_1002 (s : List Int) (t7 : Int) (t8 : Int) : St := [(0, Cell.val (AVal.slc 3 (Ty.int IntKind.i64) s)), (2, Cell.val (AVal.fn 145)), (14, Cell.val (AVal.int IntKind.i64 t7)), (16, Cell.val (AVal.int IntKind.i64 t8))]
theorem e174_145_1002 (k : Nat) (s : List Int) (t7 : Int) (t8 : Int) : x174_145 (k + 1) k174_145_1002 (t174_145_1002 s t7 t8) = F174_145_1002 k (fun (s : List Int) (t7 : Int) (t8 : Int) => x174_145 k k174_145_1002 (t174_145_1002 s t7 t8)) s t7 t8 := by kernel_rfl
theorem q174_145 : ∀ k : Nat, (fun (s : List Int) (t7 : Int) (t8 : Int) => x174_145 k k174_145_1002 (t174_145_1002 s t7 t8)) = l174_145 k
  | 0 => rfl
  | k + 1 => by
    have h := q174_145 k
    show _ = F174_145_1002 k (l174_145 k)
    rw [← h]
    exact (funext fun s => funext fun t7 => funext fun t8 => e174_145_1002 k s t7 t8)
theorem w174_145 (k : Nat) (s : List (Int)) : runFn ti (envOf env33) 19 h174_145 (finT ti true Go.Proofs.Try.f174.results.toList [(.int .i64, false)] (.int .i64)) k (bodyOf Go.Proofs.Try.f174) (initS 0 [.slc 3 (.int .i64) s, .fn 145]) = F174_145 k (fun (s : List Int) (t7 : Int) (t8 : Int) => x174_145 k k174_145_1002 (t174_145_1002 s t7 t8)) s := by kernel_rfl
theorem v174_145 (k : Nat) (s : List (Int)) : runFn ti (envOf env33) 19 h174_145 (finT ti true Go.Proofs.Try.f174.results.toList [(.int .i64, false)] (.int .i64)) k (bodyOf Go.Proofs.Try.f174) (initS 0 [.slc 3 (.int .i64) s, .fn 145]) = f174_145 k s := by
  rw [w174_145]
  have h := q174_145 k
  unfold f174_145
  rw [← h]
theorem m174 : Meets Go.Proofs.Try.prog 174 s174 := meets_of_run tiOk env33_ok mo Go.Proofs.Try.func174 (body := bodyOf Go.Proofs.Try.f174) (by kernel_rfl) (N := 19) (by kernel_rfl) (hs := h174_145) (by
  intro k xs r h
  unfold s174 at h
  dsimp only at h
  split at h
  · exact ⟨Nat.le_of_ble_eq_true rfl, (v174_145 k _).trans h⟩
  · cases h)
theorem env34_ok : EnvOk Go.Proofs.Try.prog (envOf env34) := envOf_cons m174 Go.Proofs.Try.func174 (by kernel_rfl) (by kernel_rfl) env33_ok

-- slices.ContainsFunc[[]int,int]
def f144_145 (k : Nat) (s : List (Int)) : Option (Bool) :=
  (f174_145 k s).bind fun r0 =>
  some (decide (0 ≤ r0))
def s144 : Spec := ⟨false, [(.bool, false)], true, .bool, fun k xs => match xs with | [.slc 3 (.int .i64) s, .fn 145] => f144_145 k s | _ => none⟩
def env35 : List (FuncId × Spec) := (144, s144) :: env34
theorem v144_145 (k : Nat) (s : List (Int)) : runFn ti (envOf env34) 9 [] (finT ti true Go.Proofs.Try.f144.results.toList [(.bool, false)] (.bool)) k (bodyOf Go.Proofs.Try.f144) (initS 0 [.slc 3 (.int .i64) s, .fn 145]) = f144_145 k s := by kernel_rfl
theorem m144 : Meets Go.Proofs.Try.prog 144 s144 := meets_of_run tiOk env34_ok mo Go.Proofs.Try.func144 (body := bodyOf Go.Proofs.Try.f144) (by kernel_rfl) (N := 9) (by kernel_rfl) (hs := []) (by
  intro k xs r h
  unfold s144 at h
  dsimp only at h
  split at h
  · exact ⟨Nat.le_of_ble_eq_true rfl, (v144_145 k _).trans h⟩
  · cases h)
theorem env35_ok : EnvOk Go.Proofs.Try.prog (envOf env35) := envOf_cons m144 Go.Proofs.Try.func144 (by kernel_rfl) (by kernel_rfl) env34_ok

-- impl.isSmall
def f109 (k : Nat) (p : List (Int)) : Option (Bool) :=
  (f143 k p).bind fun r0 =>
  bif r0 then
    (f74 k (↑(List.length p) : Int) 1 6).bind fun r1 =>
    bif r1 then
      (f144_145 k p).bind fun r2 =>
      some (!r2)
    else
      some false
  else
    some false
def s109 : Spec := ⟨false, [(.bool, false)], true, .bool, fun k xs => match xs with | [.slc 3 (.int .i64) p] => f109 k p | _ => none⟩
def env36 : List (FuncId × Spec) := (109, s109) :: env35
theorem v109 (k : Nat) (p : List (Int)) : runFn ti (envOf env35) 15 [] (finT ti true Go.Proofs.Try.f109.results.toList [(.bool, false)] (.bool)) k (bodyOf Go.Proofs.Try.f109) (initS 0 [.slc 3 (.int .i64) p]) = f109 k p := by kernel_rfl
theorem m109 : Meets Go.Proofs.Try.prog 109 s109 := meets_of_run tiOk env35_ok mo Go.Proofs.Try.func109 (body := bodyOf Go.Proofs.Try.f109) (by kernel_rfl) (N := 15) (by kernel_rfl) (hs := []) (by
  intro k xs r h
  unfold s109 at h
  dsimp only at h
  split at h
  · exact ⟨Nat.le_of_ble_eq_true rfl, (v109 k _).trans h⟩
  · cases h)
theorem env36_ok : EnvOk Go.Proofs.Try.prog (envOf env36) := envOf_cons m109 Go.Proofs.Try.func109 (by kernel_rfl) (by kernel_rfl) env35_ok

end Go.Proofs.YtnndolcjljhhcaaE
