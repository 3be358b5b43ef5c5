/- Functions, by the engine; printed. -/
import Derived.Test.YtbaeikcfchiiaaaCT5
set_option maxRecDepth 100000
set_option maxHeartbeats 4000000
set_option linter.unusedVariables false
namespace Go.Proofs.YtbaeikcfchiiaaaE
-- impl.isInterval
def f129 (k : Nat) (i_Low_N : Int) (i_Low_K : Int) (i_High_N : Int) (i_High_K : Int) : Option (Bool) :=
  (f190 k i_Low_N i_Low_K).bind fun r0 =>
  bif r0 then
    (f190 k i_High_N i_High_K).bind fun r1 =>
    bif r1 then
      (f191 k i_Low_N i_Low_K i_High_N i_High_K).bind fun r2 =>
      some (decide (r2 ≤ 0))
    else
      some false
  else
    some false
def s129 : Spec := ⟨false, [(.bool, false)], true, .bool, fun k xs => match xs with | [.agg [.int .i64 i_Low_N, .int .i64 i_Low_K, .int .i64 i_High_N, .int .i64 i_High_K]] => f129 k i_Low_N i_Low_K i_High_N i_High_K | _ => none⟩
def env61 : List (FuncId × Spec) := (129, s129) :: env60
theorem v129 (k : Nat) (i_Low_N : Int) (i_Low_K : Int) (i_High_N : Int) (i_High_K : Int) : runFn ti (envOf env60) 19 [] (finT ti true Go.Proofs.Try.f129.results.toList [(.bool, false)] (.bool)) k (bodyOf Go.Proofs.Try.f129) (initS 0 [.agg [.int .i64 i_Low_N, .int .i64 i_Low_K, .int .i64 i_High_N, .int .i64 i_High_K]]) = f129 k i_Low_N i_Low_K i_High_N i_High_K := by kernel_rfl
theorem m129 : Meets Go.Proofs.Try.prog 129 s129 := meets_of_run tiOk env60_ok mo Go.Proofs.Try.func129 (body := bodyOf Go.Proofs.Try.f129) (by kernel_rfl) (N := 19) (by kernel_rfl) (hs := []) (by
  intro k xs r h
  unfold s129 at h
  dsimp only at h
  split at h
  · exact ⟨Nat.le_of_ble_eq_true rfl, (v129 k _ _ _ _).trans h⟩
  · cases h)
theorem env61_ok : EnvOk Go.Proofs.Try.prog (envOf env61) := envOf_cons m129 Go.Proofs.Try.func129 (by kernel_rfl) (by kernel_rfl) env60_ok

-- impl.integer
def f178 (k : Nat) (n : Int) : Option (Int × Int) :=
  some ((n, 0))
def s178 : Spec := ⟨false, [(.pair (.int .i64) (.int .i64), true)], true, .pair (.int .i64) (.int .i64), fun k xs => match xs with | [.int .i64 n] => f178 k n | _ => none⟩
def env62 : List (FuncId × Spec) := (178, s178) :: env61
theorem v178 (k : Nat) (n : Int) : runFn ti (envOf env61) 5 [] (finT ti true Go.Proofs.Try.f178.results.toList [(.pair (.int .i64) (.int .i64), true)] (.pair (.int .i64) (.int .i64))) k (bodyOf Go.Proofs.Try.f178) (initS 0 [.int .i64 n]) = f178 k n := by kernel_rfl
theorem m178 : Meets Go.Proofs.Try.prog 178 s178 := meets_of_run tiOk env61_ok mo Go.Proofs.Try.func178 (body := bodyOf Go.Proofs.Try.f178) (by kernel_rfl) (N := 5) (by kernel_rfl) (hs := []) (by
  intro k xs r h
  unfold s178 at h
  dsimp only at h
  split at h
  · exact ⟨Nat.le_of_ble_eq_true rfl, (v178 k _).trans h⟩
  · cases h)
theorem env62_ok : EnvOk Go.Proofs.Try.prog (envOf env62) := envOf_cons m178 Go.Proofs.Try.func178 (by kernel_rfl) (by kernel_rfl) env61_ok

-- impl.inRange
def f130 (k : Nat) (a_N : Int) (a_K : Int) : Option (Bool) :=
  (f191 k (-8) 0 a_N a_K).bind fun r0 =>
  bif decide (r0 ≤ 0) then
    (f191 k a_N a_K 8 0).bind fun r1 =>
    some (decide (r1 ≤ 0))
  else
    some false
def s130 : Spec := ⟨false, [(.bool, false)], true, .bool, fun k xs => match xs with | [.agg [.int .i64 a_N, .int .i64 a_K]] => f130 k a_N a_K | _ => none⟩
def env63 : List (FuncId × Spec) := (130, s130) :: env62
theorem v130 (k : Nat) (a_N : Int) (a_K : Int) : runFn ti (envOf env62) 13 [] (finT ti true Go.Proofs.Try.f130.results.toList [(.bool, false)] (.bool)) k (bodyOf Go.Proofs.Try.f130) (initS 0 [.agg [.int .i64 a_N, .int .i64 a_K]]) = f130 k a_N a_K := by kernel_rfl
theorem m130 : Meets Go.Proofs.Try.prog 130 s130 := meets_of_run tiOk env62_ok mo Go.Proofs.Try.func130 (body := bodyOf Go.Proofs.Try.f130) (by kernel_rfl) (N := 13) (by kernel_rfl) (hs := []) (by
  intro k xs r h
  unfold s130 at h
  dsimp only at h
  split at h
  · exact ⟨Nat.le_of_ble_eq_true rfl, (v130 k _ _).trans h⟩
  · cases h)
theorem env63_ok : EnvOk Go.Proofs.Try.prog (envOf env63) := envOf_cons m130 Go.Proofs.Try.func130 (by kernel_rfl) (by kernel_rfl) env62_ok

-- impl.isFit
def f74 (k : Nat) (i_Low_N : Int) (i_Low_K : Int) (i_High_N : Int) (i_High_K : Int) : Option (Bool) :=
  (f129 k i_Low_N i_Low_K i_High_N i_High_K).bind fun r0 =>
  bif r0 then
    (f130 k i_Low_N i_Low_K).bind fun r1 =>
    bif r1 then
      (f130 k i_High_N i_High_K).bind fun r2 =>
      bif r2 then
        bif decide (i_Low_K ≤ 5) then
          bif decide (i_High_K ≤ 5) then
            some (!(decide (i_Low_N = i_High_N) && (decide (i_Low_K = i_High_K) && true)))
          else
            some false
        else
          some false
      else
        some false
    else
      some false
  else
    some false
def s74 : Spec := ⟨false, [(.bool, false)], true, .bool, fun k xs => match xs with | [.agg [.int .i64 i_Low_N, .int .i64 i_Low_K, .int .i64 i_High_N, .int .i64 i_High_K]] => f74 k i_Low_N i_Low_K i_High_N i_High_K | _ => none⟩
def env64 : List (FuncId × Spec) := (74, s74) :: env63
theorem v74 (k : Nat) (i_Low_N : Int) (i_Low_K : Int) (i_High_N : Int) (i_High_K : Int) : runFn ti (envOf env63) 34 [] (finT ti true Go.Proofs.Try.f74.results.toList [(.bool, false)] (.bool)) k (bodyOf Go.Proofs.Try.f74) (initS 0 [.agg [.int .i64 i_Low_N, .int .i64 i_Low_K, .int .i64 i_High_N, .int .i64 i_High_K]]) = f74 k i_Low_N i_Low_K i_High_N i_High_K := by kernel_rfl
theorem m74 : Meets Go.Proofs.Try.prog 74 s74 := meets_of_run tiOk env63_ok mo Go.Proofs.Try.func74 (body := bodyOf Go.Proofs.Try.f74) (by kernel_rfl) (N := 34) (by kernel_rfl) (hs := []) (by
  intro k xs r h
  unfold s74 at h
  dsimp only at h
  split at h
  · exact ⟨Nat.le_of_ble_eq_true rfl, (v74 k _ _ _ _).trans h⟩
  · cases h)
theorem env64_ok : EnvOk Go.Proofs.Try.prog (envOf env64) := envOf_cons m74 Go.Proofs.Try.func74 (by kernel_rfl) (by kernel_rfl) env63_ok

-- slices.Clone[[]int,int]
def f232 (k : Nat) (s : List (Int)) : Option (List (Int)) :=
  bif decide ((0 + List.length s) * 8 ≤ 140737488355328) then
    some s
  else
    none
def s232 : Spec := ⟨false, [(.slice 3 (.int .i64), false)], true, .slice 3 (.int .i64), fun k xs => match xs with | [.slc 3 (.int .i64) s] => f232 k s | _ => none⟩
def env65 : List (FuncId × Spec) := (232, s232) :: env64
theorem m232 : Meets Go.Proofs.Try.prog 232 s232 := meets_clone (N := 8) tiOk env64_ok mo Go.Proofs.Try.func232 rfl rfl rfl rfl rfl rfl rfl rfl rfl rfl Go.Proofs.Try.underlying22 rfl (Nat.le_of_ble_eq_true rfl) (by
  intro k xs r h
  unfold s232 at h
  dsimp only at h
  split at h
  · rename_i s
    refine ⟨3, (.int .i64), s, rfl, fun hx => ?_, ?_⟩
    · subst hx
      refine Eq.trans ?_ h
      kernel_rfl
    · refine Eq.trans ?_ h
      kernel_rfl
  · cases h)
theorem env65_ok : EnvOk Go.Proofs.Try.prog (envOf env65) := envOf_cons m232 Go.Proofs.Try.func232 (by kernel_rfl) (by kernel_rfl) env64_ok

-- impl.stripped
def h198 : Hints := [(1001, .lab [(0, .one (.frz 3 (Ty.int IntKind.i64)))])]
def F198_1001 (k : Nat) (rec1001 : List Int → Option (List (Int))) (p : List Int) : Option (List (Int)) :=
  bif decide (0 < (↑(List.length p) : Int)) then
    bif boundA (IntKind.wrap IntKind.i64 ((↑(List.length p) : Int) - 1)) (List.length p) then
      bif decide (List.getD p (Int.toNat (IntKind.wrap IntKind.i64 ((↑(List.length p) : Int) - 1))) 0 = 0) then
        bif boundE (IntKind.wrap IntKind.i64 ((↑(List.length p) : Int) - 1)) (List.length p) then
          bif decide (0 ≤ 0) && decide (0 ≤ IntKind.wrap IntKind.i64 ((↑(List.length p) : Int) - 1)) then
            rec1001 (List.drop (Int.toNat 0) (List.take (Int.toNat (IntKind.wrap IntKind.i64 ((↑(List.length p) : Int) - 1))) p))
          else
            none
        else
          none
      else
        (f232 k p).bind fun r0 =>
        some r0
    else
      none
  else
    (f232 k p).bind fun r1 =>
    some r1
def F198 (k : Nat) (rec1001 : List Int → Option (List (Int))) (p : List (Int)) : Option (List (Int)) :=
  rec1001 p
def l198 : Nat → (List Int → Option (List (Int)))
  | 0 => fun _ => none
  | k + 1 => F198_1001 k (l198 k)
def f198 (k : Nat) (p : List (Int)) : Option (List (Int)) := F198 k (l198 k) p
def s198 : Spec := ⟨false, [(.slice 3 (.int .i64), false)], true, .slice 3 (.int .i64), fun k xs => match xs with | [.slc 3 (.int .i64) p] => f198 k p | _ => none⟩
def env66 : List (FuncId × Spec) := (198, s198) :: env65
noncomputable abbrev x198 := exec ti (envOf env65) 22 h198 (finT ti true Go.Proofs.Try.f198.results.toList [(.slice 3 (.int .i64), false)] (.slice 3 (.int .i64)))
noncomputable def k198_1001 : List It := stackAt [.r, .l, .b, .lb none] (bodyOf Go.Proofs.Try.f198) []
def t198_1001 (p : List Int) : St := [(0, Cell.val (AVal.slc 3 (Ty.int IntKind.i64) p))]
theorem e198_1001 (k : Nat) (p : List Int) : x198 (k + 1) k198_1001 (t198_1001 p) = F198_1001 k (fun (p : List Int) => x198 k k198_1001 (t198_1001 p)) p := by kernel_rfl
theorem q198 : ∀ k : Nat, (fun (p : List Int) => x198 k k198_1001 (t198_1001 p)) = l198 k
  | 0 => rfl
  | k + 1 => by
    have h := q198 k
    show _ = F198_1001 k (l198 k)
    rw [← h]
    exact (funext fun p => e198_1001 k p)
theorem w198 (k : Nat) (p : List (Int)) : runFn ti (envOf env65) 22 h198 (finT ti true Go.Proofs.Try.f198.results.toList [(.slice 3 (.int .i64), false)] (.slice 3 (.int .i64))) k (bodyOf Go.Proofs.Try.f198) (initS 0 [.slc 3 (.int .i64) p]) = F198 k (fun (p : List Int) => x198 k k198_1001 (t198_1001 p)) p := by kernel_rfl
theorem v198 (k : Nat) (p : List (Int)) : runFn ti (envOf env65) 22 h198 (finT ti true Go.Proofs.Try.f198.results.toList [(.slice 3 (.int .i64), false)] (.slice 3 (.int .i64))) k (bodyOf Go.Proofs.Try.f198) (initS 0 [.slc 3 (.int .i64) p]) = f198 k p := by
  rw [w198]
  have h := q198 k
  unfold f198
  rw [← h]
theorem m198 : Meets Go.Proofs.Try.prog 198 s198 := meets_of_run tiOk env65_ok mo Go.Proofs.Try.func198 (body := bodyOf Go.Proofs.Try.f198) (by kernel_rfl) (N := 22) (by kernel_rfl) (hs := h198) (by
  intro k xs r h
  unfold s198 at h
  dsimp only at h
  split at h
  · exact ⟨Nat.le_of_ble_eq_true rfl, (v198 k _).trans h⟩
  · cases h)
theorem env66_ok : EnvOk Go.Proofs.Try.prog (envOf env66) := envOf_cons m198 Go.Proofs.Try.func198 (by kernel_rfl) (by kernel_rfl) env65_ok

-- impl.addSingle
def h133 : Hints := [(1003, .lab [(0, .one (.frz 3 (Ty.int IntKind.i64))), (1, .one (.frz 3 (Ty.int IntKind.i64))), (5, .one (.own 3 (Ty.int IntKind.i64))), (14, .one (.v)), (15, .one (.v))])]
def F133_1003 (k : Nat) (rec1003 : List Int → List Int → List Int → Int → Int → Option (List (Int))) (p : List Int) (q : List Int) (outs : List Int) (t14 : Int) (t15 : Int) : Option (List (Int)) :=
  bif decide (t15 < t14) then
    bif decide (t15 < (↑(List.length p) : Int)) then
      bif boundA t15 (List.length outs) then
        bif Nat.blt (Int.toNat t15) (List.length outs) then
          bif boundA t15 (List.length p) then
            bif boundA t15 (List.length outs) then
              bif Nat.blt (Int.toNat t15) (List.length outs) then
                bif decide (t15 < (↑(List.length q) : Int)) then
                  bif boundA t15 (List.length (List.set outs (Int.toNat t15) (IntKind.wrap IntKind.i64 (List.getD outs (Int.toNat t15) 0 + List.getD p (Int.toNat t15) 0)))) then
                    bif Nat.blt (Int.toNat t15) (List.length (List.set outs (Int.toNat t15) (IntKind.wrap IntKind.i64 (List.getD outs (Int.toNat t15) 0 + List.getD p (Int.toNat t15) 0)))) then
                      bif boundA t15 (List.length q) then
                        bif boundA t15 (List.length (List.set outs (Int.toNat t15) (IntKind.wrap IntKind.i64 (List.getD outs (Int.toNat t15) 0 + List.getD p (Int.toNat t15) 0)))) then
                          bif Nat.blt (Int.toNat t15) (List.length (List.set outs (Int.toNat t15) (IntKind.wrap IntKind.i64 (List.getD outs (Int.toNat t15) 0 + List.getD p (Int.toNat t15) 0)))) then
                            rec1003 p q (List.set (List.set outs (Int.toNat t15) (IntKind.wrap IntKind.i64 (List.getD outs (Int.toNat t15) 0 + List.getD p (Int.toNat t15) 0))) (Int.toNat t15) (IntKind.wrap IntKind.i64 (List.getD (List.set outs (Int.toNat t15) (IntKind.wrap IntKind.i64 (List.getD outs (Int.toNat t15) 0 + List.getD p (Int.toNat t15) 0))) (Int.toNat t15) 0 + List.getD q (Int.toNat t15) 0))) t14 (IntKind.wrap IntKind.i64 (t15 + 1))
                          else
                            none
                        else
                          none
                      else
                        none
                    else
                      none
                  else
                    none
                else
                  rec1003 p q (List.set outs (Int.toNat t15) (IntKind.wrap IntKind.i64 (List.getD outs (Int.toNat t15) 0 + List.getD p (Int.toNat t15) 0))) t14 (IntKind.wrap IntKind.i64 (t15 + 1))
              else
                none
            else
              none
          else
            none
        else
          none
      else
        none
    else
      bif decide (t15 < (↑(List.length q) : Int)) then
        bif boundA t15 (List.length outs) then
          bif Nat.blt (Int.toNat t15) (List.length outs) then
            bif boundA t15 (List.length q) then
              bif boundA t15 (List.length outs) then
                bif Nat.blt (Int.toNat t15) (List.length outs) then
                  rec1003 p q (List.set outs (Int.toNat t15) (IntKind.wrap IntKind.i64 (List.getD outs (Int.toNat t15) 0 + List.getD q (Int.toNat t15) 0))) t14 (IntKind.wrap IntKind.i64 (t15 + 1))
                else
                  none
              else
                none
            else
              none
          else
            none
        else
          none
      else
        rec1003 p q outs t14 (IntKind.wrap IntKind.i64 (t15 + 1))
  else
    (f198 k outs).bind fun r0 =>
    some r0
def F133 (k : Nat) (rec1003 : List Int → List Int → List Int → Int → Int → Option (List (Int))) (p : List (Int)) (q : List (Int)) : Option (List (Int)) :=
  bif decide (0 ≤ bif decide ((↑(List.length p) : Int) < (↑(List.length q) : Int)) then (↑(List.length q) : Int) else (↑(List.length p) : Int)) then
    bif decide ((bif decide ((↑(List.length p) : Int) < (↑(List.length q) : Int)) then (↑(List.length q) : Int) else (↑(List.length p) : Int)) ≤ bif decide ((↑(List.length p) : Int) < (↑(List.length q) : Int)) then (↑(List.length q) : Int) else (↑(List.length p) : Int)) then
      bif decide ((bif decide ((↑(List.length p) : Int) < (↑(List.length q) : Int)) then (↑(List.length q) : Int) else (↑(List.length p) : Int)) * (↑8 : Int) ≤ 140737488355328) then
        rec1003 p q (List.replicate (Int.toNat (bif decide ((↑(List.length p) : Int) < (↑(List.length q) : Int)) then (↑(List.length q) : Int) else (↑(List.length p) : Int))) (dflt (Ty.int IntKind.i64))) ((↑(List.length (List.replicate (Int.toNat (bif decide ((↑(List.length p) : Int) < (↑(List.length q) : Int)) then (↑(List.length q) : Int) else (↑(List.length p) : Int))) (dflt (Ty.int IntKind.i64)))) : Int)) (0)
      else
        none
    else
      none
  else
    none
def l133 : Nat → (List Int → List Int → List Int → Int → Int → Option (List (Int)))
  | 0 => fun _ _ _ _ _ => none
  | k + 1 => F133_1003 k (l133 k)
def f133 (k : Nat) (p : List (Int)) (q : List (Int)) : Option (List (Int)) := F133 k (l133 k) p q
def s133 : Spec := ⟨false, [(.slice 3 (.int .i64), false)], true, .slice 3 (.int .i64), fun k xs => match xs with | [.slc 3 (.int .i64) p, .slc 3 (.int .i64) q] => f133 k p q | _ => none⟩
def env67 : List (FuncId × Spec) := (133, s133) :: env66
noncomputable abbrev x133 := exec ti (envOf env66) 49 h133 (finT ti true Go.Proofs.Try.f133.results.toList [(.slice 3 (.int .i64), false)] (.slice 3 (.int .i64)))
noncomputable def k133_1003 : List It := stackAt [.r, .r, .l, .r, .b, .lb none] (bodyOf Go.Proofs.Try.f133) []
def t133_1003 (p : List Int) (q : List Int) (outs : List Int) (t14 : Int) (t15 : Int) : St := [(0, Cell.val (AVal.slc 3 (Ty.int IntKind.i64) p)), (2, Cell.val (AVal.slc 3 (Ty.int IntKind.i64) q)), (10, Cell.val (AVal.ref 3 none)), (3, Cell.row true 3 (Ty.int IntKind.i64) outs), (28, Cell.val (AVal.int IntKind.i64 t14)), (30, Cell.val (AVal.int IntKind.i64 t15))]
theorem e133_1003 (k : Nat) (p : List Int) (q : List Int) (outs : List Int) (t14 : Int) (t15 : Int) : x133 (k + 1) k133_1003 (t133_1003 p q outs t14 t15) = F133_1003 k (fun (p : List Int) (q : List Int) (outs : List Int) (t14 : Int) (t15 : Int) => x133 k k133_1003 (t133_1003 p q outs t14 t15)) p q outs t14 t15 := by kernel_rfl
theorem q133 : ∀ k : Nat, (fun (p : List Int) (q : List Int) (outs : List Int) (t14 : Int) (t15 : Int) => x133 k k133_1003 (t133_1003 p q outs t14 t15)) = l133 k
  | 0 => rfl
  | k + 1 => by
    have h := q133 k
    show _ = F133_1003 k (l133 k)
    rw [← h]
    exact (funext fun p => funext fun q => funext fun outs => funext fun t14 => funext fun t15 => e133_1003 k p q outs t14 t15)
theorem w133 (k : Nat) (p : List (Int)) (q : List (Int)) : runFn ti (envOf env66) 49 h133 (finT ti true Go.Proofs.Try.f133.results.toList [(.slice 3 (.int .i64), false)] (.slice 3 (.int .i64))) k (bodyOf Go.Proofs.Try.f133) (initS 0 [.slc 3 (.int .i64) p, .slc 3 (.int .i64) q]) = F133 k (fun (p : List Int) (q : List Int) (outs : List Int) (t14 : Int) (t15 : Int) => x133 k k133_1003 (t133_1003 p q outs t14 t15)) p q := by kernel_rfl
theorem v133 (k : Nat) (p : List (Int)) (q : List (Int)) : runFn ti (envOf env66) 49 h133 (finT ti true Go.Proofs.Try.f133.results.toList [(.slice 3 (.int .i64), false)] (.slice 3 (.int .i64))) k (bodyOf Go.Proofs.Try.f133) (initS 0 [.slc 3 (.int .i64) p, .slc 3 (.int .i64) q]) = f133 k p q := by
  rw [w133]
  have h := q133 k
  unfold f133
  rw [← h]
theorem m133 : Meets Go.Proofs.Try.prog 133 s133 := meets_of_run tiOk env66_ok mo Go.Proofs.Try.func133 (body := bodyOf Go.Proofs.Try.f133) (by kernel_rfl) (N := 49) (by kernel_rfl) (hs := h133) (by
  intro k xs r h
  unfold s133 at h
  dsimp only at h
  split at h
  · exact ⟨Nat.le_of_ble_eq_true rfl, (v133 k _ _).trans h⟩
  · cases h)
theorem env67_ok : EnvOk Go.Proofs.Try.prog (envOf env67) := envOf_cons m133 Go.Proofs.Try.func133 (by kernel_rfl) (by kernel_rfl) env66_ok

-- impl.multiplySingle
def h134 : Hints := [(1003, .lab [(1, .one (.frz 3 (Ty.int IntKind.i64))), (5, .one (.own 3 (Ty.int IntKind.i64))), (16, .one (.frz 3 (Ty.int IntKind.i64))), (17, .one (.v)), (18, .one (.v))]), (1006, .lab [(1, .one (.frz 3 (Ty.int IntKind.i64))), (5, .one (.own 3 (Ty.int IntKind.i64))), (6, .one (.v)), (7, .one (.v)), (16, .one (.frz 3 (Ty.int IntKind.i64))), (17, .one (.v)), (18, .one (.v)), (23, .one (.frz 3 (Ty.int IntKind.i64))), (24, .one (.v)), (25, .one (.v))])]
def F134_1003 (k : Nat) (rec1003 : List Int → List Int → List Int → Int → Int → Option (List (Int))) (rec1006 : List Int → List Int → Int → Int → List Int → Int → Int → List Int → Int → Int → Option (List (Int))) (q : List Int) (outs : List Int) (t16 : List Int) (t17 : Int) (t18 : Int) : Option (List (Int)) :=
  bif decide (t18 < t17) then
    bif boundA t18 (List.length t16) then
      rec1006 q outs t18 (List.getD t16 (Int.toNat t18) 0) t16 t17 t18 q ((↑(List.length q) : Int)) (0)
    else
      none
  else
    (f198 k outs).bind fun r0 =>
    some r0
def F134_1006 (k : Nat) (rec1003 : List Int → List Int → List Int → Int → Int → Option (List (Int))) (rec1006 : List Int → List Int → Int → Int → List Int → Int → Int → List Int → Int → Int → Option (List (Int))) (q : List Int) (outs : List Int) (i : Int) (a : Int) (t16 : List Int) (t17 : Int) (t18 : Int) (t23 : List Int) (t24 : Int) (t25 : Int) : Option (List (Int)) :=
  bif decide (t25 < t24) then
    bif boundA t25 (List.length t23) then
      bif boundA (IntKind.wrap IntKind.i64 (i + t25)) (List.length outs) then
        bif Nat.blt (Int.toNat (IntKind.wrap IntKind.i64 (i + t25))) (List.length outs) then
          bif boundA (IntKind.wrap IntKind.i64 (i + t25)) (List.length outs) then
            bif Nat.blt (Int.toNat (IntKind.wrap IntKind.i64 (i + t25))) (List.length outs) then
              rec1006 q (List.set outs (Int.toNat (IntKind.wrap IntKind.i64 (i + t25))) (IntKind.wrap IntKind.i64 (List.getD outs (Int.toNat (IntKind.wrap IntKind.i64 (i + t25))) 0 + IntKind.wrap IntKind.i64 (a * List.getD t23 (Int.toNat t25) 0)))) i a t16 t17 t18 t23 t24 (IntKind.wrap IntKind.i64 (t25 + 1))
            else
              none
          else
            none
        else
          none
      else
        none
    else
      none
  else
    rec1003 q outs t16 t17 (IntKind.wrap IntKind.i64 (t18 + 1))
def F134 (k : Nat) (rec1003 : List Int → List Int → List Int → Int → Int → Option (List (Int))) (rec1006 : List Int → List Int → Int → Int → List Int → Int → Int → List Int → Int → Int → Option (List (Int))) (p : List (Int)) (q : List (Int)) : Option (List (Int)) :=
  bif decide (0 ≤ IntKind.wrap IntKind.i64 ((↑(List.length p) : Int) + (↑(List.length q) : Int))) then
    bif decide (IntKind.wrap IntKind.i64 ((↑(List.length p) : Int) + (↑(List.length q) : Int)) ≤ IntKind.wrap IntKind.i64 ((↑(List.length p) : Int) + (↑(List.length q) : Int))) then
      bif decide (IntKind.wrap IntKind.i64 ((↑(List.length p) : Int) + (↑(List.length q) : Int)) * (↑8 : Int) ≤ 140737488355328) then
        rec1003 q (List.replicate (Int.toNat (IntKind.wrap IntKind.i64 ((↑(List.length p) : Int) + (↑(List.length q) : Int)))) (dflt (Ty.int IntKind.i64))) p ((↑(List.length p) : Int)) (0)
      else
        none
    else
      none
  else
    none
def l134 : Nat → (List Int → List Int → List Int → Int → Int → Option (List (Int))) × (List Int → List Int → Int → Int → List Int → Int → Int → List Int → Int → Int → Option (List (Int)))
  | 0 => (fun _ _ _ _ _ => none, fun _ _ _ _ _ _ _ _ _ _ => none)
  | k + 1 => (F134_1003 k ((l134 k).1) ((l134 k).2), F134_1006 k ((l134 k).1) ((l134 k).2))
def f134 (k : Nat) (p : List (Int)) (q : List (Int)) : Option (List (Int)) := F134 k ((l134 k).1) ((l134 k).2) p q
def s134 : Spec := ⟨false, [(.slice 3 (.int .i64), false)], true, .slice 3 (.int .i64), fun k xs => match xs with | [.slc 3 (.int .i64) p, .slc 3 (.int .i64) q] => f134 k p q | _ => none⟩
def env68 : List (FuncId × Spec) := (134, s134) :: env67
noncomputable abbrev x134 := exec ti (envOf env67) 45 h134 (finT ti true Go.Proofs.Try.f134.results.toList [(.slice 3 (.int .i64), false)] (.slice 3 (.int .i64)))
noncomputable def k134_1003 : List It := stackAt [.r, .r, .l, .r, .b, .lb none] (bodyOf Go.Proofs.Try.f134) []
def t134_1003 (q : List Int) (outs : List Int) (t16 : List Int) (t17 : Int) (t18 : Int) : St := [(2, Cell.val (AVal.slc 3 (Ty.int IntKind.i64) q)), (10, Cell.val (AVal.ref 3 none)), (3, Cell.row true 3 (Ty.int IntKind.i64) outs), (32, Cell.val (AVal.slc 3 (Ty.int IntKind.i64) t16)), (34, Cell.val (AVal.int IntKind.i64 t17)), (36, Cell.val (AVal.int IntKind.i64 t18))]
noncomputable def k134_1006 : List It := stackAt [.r, .r, .l, .r, .b, .lb none, .r, .r, .l, .b, .r, .r, .b, .lb none] (bodyOf Go.Proofs.Try.f134) []
def t134_1006 (q : List Int) (outs : List Int) (i : Int) (a : Int) (t16 : List Int) (t17 : Int) (t18 : Int) (t23 : List Int) (t24 : Int) (t25 : Int) : St := [(2, Cell.val (AVal.slc 3 (Ty.int IntKind.i64) q)), (10, Cell.val (AVal.ref 3 none)), (3, Cell.row true 3 (Ty.int IntKind.i64) outs), (12, Cell.val (AVal.int IntKind.i64 i)), (14, Cell.val (AVal.int IntKind.i64 a)), (32, Cell.val (AVal.slc 3 (Ty.int IntKind.i64) t16)), (34, Cell.val (AVal.int IntKind.i64 t17)), (36, Cell.val (AVal.int IntKind.i64 t18)), (46, Cell.val (AVal.slc 3 (Ty.int IntKind.i64) t23)), (48, Cell.val (AVal.int IntKind.i64 t24)), (50, Cell.val (AVal.int IntKind.i64 t25))]
theorem e134_1003 (k : Nat) (q : List Int) (outs : List Int) (t16 : List Int) (t17 : Int) (t18 : Int) : x134 (k + 1) k134_1003 (t134_1003 q outs t16 t17 t18) = F134_1003 k (fun (q : List Int) (outs : List Int) (t16 : List Int) (t17 : Int) (t18 : Int) => x134 k k134_1003 (t134_1003 q outs t16 t17 t18)) (fun (q : List Int) (outs : List Int) (i : Int) (a : Int) (t16 : List Int) (t17 : Int) (t18 : Int) (t23 : List Int) (t24 : Int) (t25 : Int) => x134 k k134_1006 (t134_1006 q outs i a t16 t17 t18 t23 t24 t25)) q outs t16 t17 t18 := by kernel_rfl
theorem e134_1006 (k : Nat) (q : List Int) (outs : List Int) (i : Int) (a : Int) (t16 : List Int) (t17 : Int) (t18 : Int) (t23 : List Int) (t24 : Int) (t25 : Int) : x134 (k + 1) k134_1006 (t134_1006 q outs i a t16 t17 t18 t23 t24 t25) = F134_1006 k (fun (q : List Int) (outs : List Int) (t16 : List Int) (t17 : Int) (t18 : Int) => x134 k k134_1003 (t134_1003 q outs t16 t17 t18)) (fun (q : List Int) (outs : List Int) (i : Int) (a : Int) (t16 : List Int) (t17 : Int) (t18 : Int) (t23 : List Int) (t24 : Int) (t25 : Int) => x134 k k134_1006 (t134_1006 q outs i a t16 t17 t18 t23 t24 t25)) q outs i a t16 t17 t18 t23 t24 t25 := by kernel_rfl
theorem q134 : ∀ k : Nat, ((fun (q : List Int) (outs : List Int) (t16 : List Int) (t17 : Int) (t18 : Int) => x134 k k134_1003 (t134_1003 q outs t16 t17 t18)), (fun (q : List Int) (outs : List Int) (i : Int) (a : Int) (t16 : List Int) (t17 : Int) (t18 : Int) (t23 : List Int) (t24 : Int) (t25 : Int) => x134 k k134_1006 (t134_1006 q outs i a t16 t17 t18 t23 t24 t25))) = l134 k
  | 0 => rfl
  | k + 1 => by
    have h := q134 k
    show _ = (F134_1003 k ((l134 k).1) ((l134 k).2), F134_1006 k ((l134 k).1) ((l134 k).2))
    rw [← h]
    exact (Prod.ext (funext fun q => funext fun outs => funext fun t16 => funext fun t17 => funext fun t18 => e134_1003 k q outs t16 t17 t18) (funext fun q => funext fun outs => funext fun i => funext fun a => funext fun t16 => funext fun t17 => funext fun t18 => funext fun t23 => funext fun t24 => funext fun t25 => e134_1006 k q outs i a t16 t17 t18 t23 t24 t25))
theorem w134 (k : Nat) (p : List (Int)) (q : List (Int)) : runFn ti (envOf env67) 45 h134 (finT ti true Go.Proofs.Try.f134.results.toList [(.slice 3 (.int .i64), false)] (.slice 3 (.int .i64))) k (bodyOf Go.Proofs.Try.f134) (initS 0 [.slc 3 (.int .i64) p, .slc 3 (.int .i64) q]) = F134 k (fun (q : List Int) (outs : List Int) (t16 : List Int) (t17 : Int) (t18 : Int) => x134 k k134_1003 (t134_1003 q outs t16 t17 t18)) (fun (q : List Int) (outs : List Int) (i : Int) (a : Int) (t16 : List Int) (t17 : Int) (t18 : Int) (t23 : List Int) (t24 : Int) (t25 : Int) => x134 k k134_1006 (t134_1006 q outs i a t16 t17 t18 t23 t24 t25)) p q := by kernel_rfl
theorem v134 (k : Nat) (p : List (Int)) (q : List (Int)) : runFn ti (envOf env67) 45 h134 (finT ti true Go.Proofs.Try.f134.results.toList [(.slice 3 (.int .i64), false)] (.slice 3 (.int .i64))) k (bodyOf Go.Proofs.Try.f134) (initS 0 [.slc 3 (.int .i64) p, .slc 3 (.int .i64) q]) = f134 k p q := by
  rw [w134]
  have h := q134 k
  unfold f134
  rw [← h]
theorem m134 : Meets Go.Proofs.Try.prog 134 s134 := meets_of_run tiOk env67_ok mo Go.Proofs.Try.func134 (body := bodyOf Go.Proofs.Try.f134) (by kernel_rfl) (N := 45) (by kernel_rfl) (hs := h134) (by
  intro k xs r h
  unfold s134 at h
  dsimp only at h
  split at h
  · exact ⟨Nat.le_of_ble_eq_true rfl, (v134 k _ _).trans h⟩
  · cases h)
theorem env68_ok : EnvOk Go.Proofs.Try.prog (envOf env68) := envOf_cons m134 Go.Proofs.Try.func134 (by kernel_rfl) (by kernel_rfl) env67_ok

-- impl.familyAt
def f77 (k : Nat) (p : List (Int)) (q : List (Int)) (i : Int) (fine : Int) : Option (List (Int)) :=
  bif !decide (fine < 0) then
    (f134 k p [IntKind.wrap IntKind.i64 (1 * 2 ^ min (Int.toNat fine) (IntKind.bits IntKind.i64))]).bind fun r0 =>
    (f134 k q [i]).bind fun r1 =>
    (f133 k r0 r1).bind fun r2 =>
    some r2
  else
    none
def s77 : Spec := ⟨false, [(.slice 3 (.int .i64), false)], true, .slice 3 (.int .i64), fun k xs => match xs with | [.slc 3 (.int .i64) p, .slc 3 (.int .i64) q, .int .i64 i, .int .i64 fine] => f77 k p q i fine | _ => none⟩
def env69 : List (FuncId × Spec) := (77, s77) :: env68
theorem v77 (k : Nat) (p : List (Int)) (q : List (Int)) (i : Int) (fine : Int) : runFn ti (envOf env68) 19 [] (finT ti true Go.Proofs.Try.f77.results.toList [(.slice 3 (.int .i64), false)] (.slice 3 (.int .i64))) k (bodyOf Go.Proofs.Try.f77) (initS 0 [.slc 3 (.int .i64) p, .slc 3 (.int .i64) q, .int .i64 i, .int .i64 fine]) = f77 k p q i fine := by kernel_rfl
theorem m77 : Meets Go.Proofs.Try.prog 77 s77 := meets_of_run tiOk env68_ok mo Go.Proofs.Try.func77 (body := bodyOf Go.Proofs.Try.f77) (by kernel_rfl) (N := 19) (by kernel_rfl) (hs := []) (by
  intro k xs r h
  unfold s77 at h
  dsimp only at h
  split at h
  · exact ⟨Nat.le_of_ble_eq_true rfl, (v77 k _ _ _ _).trans h⟩
  · cases h)
theorem env69_ok : EnvOk Go.Proofs.Try.prog (envOf env69) := envOf_cons m77 Go.Proofs.Try.func77 (by kernel_rfl) (by kernel_rfl) env68_ok

-- impl.long).times
def h192 : Hints := [(1004, .lab [(1, .one (.v)), (4, .box 193 [.v, .v]), (5, .box 193 [.v, .own 224 (Ty.int IntKind.u32)]), (6, .one (.v)), (16, .one (.frz 224 (Ty.int IntKind.u32))), (17, .one (.v)), (18, .one (.v))])]
def F192_1004 (k : Nat) (rec1004 : Int → Bool → Bool → List Int → Int → List Int → Int → Int → Option (Bool × List (Int))) (n : Int) (t4s_0 : Bool) (outs_0 : Bool) (outs : List Int) (carry : Int) (t16 : List Int) (t17 : Int) (t18 : Int) : Option (Bool × List (Int)) :=
  bif decide (t18 < t17) then
    bif boundA t18 (List.length t16) then
      (f234 k n).bind fun r0 =>
      bif decide ((List.length outs + List.length [IntKind.wrap IntKind.u32 (IntKind.wrap IntKind.u64 (carry + IntKind.wrap IntKind.u64 (IntKind.wrap IntKind.u64 (List.getD t16 (Int.toNat t18) 0) * r0)))]) * 4 ≤ 140737488355328) then
        rec1004 n t4s_0 outs_0 (outs ++ [IntKind.wrap IntKind.u32 (IntKind.wrap IntKind.u64 (carry + IntKind.wrap IntKind.u64 (IntKind.wrap IntKind.u64 (List.getD t16 (Int.toNat t18) 0) * r0)))]) (Int.fdiv (IntKind.wrap IntKind.u64 (carry + IntKind.wrap IntKind.u64 (IntKind.wrap IntKind.u64 (List.getD t16 (Int.toNat t18) 0) * r0))) (2 ^ min (Int.toNat 32) (IntKind.bits IntKind.u64))) t16 t17 (IntKind.wrap IntKind.i64 (t18 + 1))
      else
        none
    else
      none
  else
    bif decide ((List.length outs + List.length [IntKind.wrap IntKind.u32 carry]) * 4 ≤ 140737488355328) then
      some ((outs_0, outs ++ [IntKind.wrap IntKind.u32 carry]))
    else
      none
def F192 (k : Nat) (rec1004 : Int → Bool → Bool → List Int → Int → List Int → Int → Int → Option (Bool × List (Int))) (a_negative : Bool) (a_digits : List (Int)) (n : Int) : Option (Bool × List (Int)) :=
  rec1004 n false (!a_negative == decide (n < 0)) ([]) (0) a_digits ((↑(List.length a_digits) : Int)) (0)
def l192 : Nat → (Int → Bool → Bool → List Int → Int → List Int → Int → Int → Option (Bool × List (Int)))
  | 0 => fun _ _ _ _ _ _ _ _ => none
  | k + 1 => F192_1004 k (l192 k)
def f192 (k : Nat) (a_negative : Bool) (a_digits : List (Int)) (n : Int) : Option (Bool × List (Int)) := F192 k (l192 k) a_negative a_digits n
def s192 : Spec := ⟨false, [(.pair (.bool) (.slice 224 (.int .u32)), true)], true, .pair (.bool) (.slice 224 (.int .u32)), fun k xs => match xs with | [.agg [.bool a_negative, .slc 224 (.int .u32) a_digits], .int .i64 n] => f192 k a_negative a_digits n | _ => none⟩
def env70 : List (FuncId × Spec) := (192, s192) :: env69
noncomputable abbrev x192 := exec ti (envOf env69) 47 h192 (finT ti true Go.Proofs.Try.f192.results.toList [(.pair (.bool) (.slice 224 (.int .u32)), true)] (.pair (.bool) (.slice 224 (.int .u32))))
noncomputable def k192_1004 : List It := stackAt [.r, .r, .r, .l, .r, .b, .lb none] (bodyOf Go.Proofs.Try.f192) []
def t192_1004 (n : Int) (t4s_0 : Bool) (outs_0 : Bool) (outs : List Int) (carry : Int) (t16 : List Int) (t17 : Int) (t18 : Int) : St := [(2, Cell.val (AVal.int IntKind.i64 n)), (8, Cell.val (AVal.ptr 3 0)), (3, Cell.mem true 193 [AVal.bool t4s_0, AVal.nilslc]), (10, Cell.val (AVal.ptr 5 0)), (5, Cell.mem true 193 [AVal.bool outs_0, AVal.ref 7 none]), (7, Cell.row true 224 (Ty.int IntKind.u32) outs), (12, Cell.val (AVal.int IntKind.u64 carry)), (32, Cell.val (AVal.slc 224 (Ty.int IntKind.u32) t16)), (34, Cell.val (AVal.int IntKind.i64 t17)), (36, Cell.val (AVal.int IntKind.i64 t18))]
theorem e192_1004 (k : Nat) (n : Int) (t4s_0 : Bool) (outs_0 : Bool) (outs : List Int) (carry : Int) (t16 : List Int) (t17 : Int) (t18 : Int) : x192 (k + 1) k192_1004 (t192_1004 n t4s_0 outs_0 outs carry t16 t17 t18) = F192_1004 k (fun (n : Int) (t4s_0 : Bool) (outs_0 : Bool) (outs : List Int) (carry : Int) (t16 : List Int) (t17 : Int) (t18 : Int) => x192 k k192_1004 (t192_1004 n t4s_0 outs_0 outs carry t16 t17 t18)) n t4s_0 outs_0 outs carry t16 t17 t18 := by kernel_rfl
theorem q192 : ∀ k : Nat, (fun (n : Int) (t4s_0 : Bool) (outs_0 : Bool) (outs : List Int) (carry : Int) (t16 : List Int) (t17 : Int) (t18 : Int) => x192 k k192_1004 (t192_1004 n t4s_0 outs_0 outs carry t16 t17 t18)) = l192 k
  | 0 => rfl
  | k + 1 => by
    have h := q192 k
    show _ = F192_1004 k (l192 k)
    rw [← h]
    exact (funext fun n => funext fun t4s_0 => funext fun outs_0 => funext fun outs => funext fun carry => funext fun t16 => funext fun t17 => funext fun t18 => e192_1004 k n t4s_0 outs_0 outs carry t16 t17 t18)
theorem w192 (k : Nat) (a_negative : Bool) (a_digits : List (Int)) (n : Int) : runFn ti (envOf env69) 47 h192 (finT ti true Go.Proofs.Try.f192.results.toList [(.pair (.bool) (.slice 224 (.int .u32)), true)] (.pair (.bool) (.slice 224 (.int .u32)))) k (bodyOf Go.Proofs.Try.f192) (initS 0 [.agg [.bool a_negative, .slc 224 (.int .u32) a_digits], .int .i64 n]) = F192 k (fun (n : Int) (t4s_0 : Bool) (outs_0 : Bool) (outs : List Int) (carry : Int) (t16 : List Int) (t17 : Int) (t18 : Int) => x192 k k192_1004 (t192_1004 n t4s_0 outs_0 outs carry t16 t17 t18)) a_negative a_digits n := by kernel_rfl
theorem v192 (k : Nat) (a_negative : Bool) (a_digits : List (Int)) (n : Int) : runFn ti (envOf env69) 47 h192 (finT ti true Go.Proofs.Try.f192.results.toList [(.pair (.bool) (.slice 224 (.int .u32)), true)] (.pair (.bool) (.slice 224 (.int .u32)))) k (bodyOf Go.Proofs.Try.f192) (initS 0 [.agg [.bool a_negative, .slc 224 (.int .u32) a_digits], .int .i64 n]) = f192 k a_negative a_digits n := by
  rw [w192]
  have h := q192 k
  unfold f192
  rw [← h]
theorem m192 : Meets Go.Proofs.Try.prog 192 s192 := meets_of_run tiOk env69_ok mo Go.Proofs.Try.func192 (body := bodyOf Go.Proofs.Try.f192) (by kernel_rfl) (N := 47) (by kernel_rfl) (hs := h192) (by
  intro k xs r h
  unfold s192 at h
  dsimp only at h
  split at h
  · exact ⟨Nat.le_of_ble_eq_true rfl, (v192 k _ _ _).trans h⟩
  · cases h)
theorem env70_ok : EnvOk Go.Proofs.Try.prog (envOf env70) := envOf_cons m192 Go.Proofs.Try.func192 (by kernel_rfl) (by kernel_rfl) env69_ok

-- impl.long).digit
def f242 (k : Nat) (a_negative : Bool) (a_digits : List (Int)) (i : Int) : Option (Int) :=
  bif decide (i < (↑(List.length a_digits) : Int)) then
    bif boundA i (List.length a_digits) then
      some (List.getD a_digits (Int.toNat i) 0)
    else
      none
  else
    some (0)
def s242 : Spec := ⟨false, [(.int .u32, false)], true, .int .u32, fun k xs => match xs with | [.agg [.bool a_negative, .slc 224 (.int .u32) a_digits], .int .i64 i] => f242 k a_negative a_digits i | _ => none⟩
def env71 : List (FuncId × Spec) := (242, s242) :: env70
theorem v242 (k : Nat) (a_negative : Bool) (a_digits : List (Int)) (i : Int) : runFn ti (envOf env70) 15 [] (finT ti true Go.Proofs.Try.f242.results.toList [(.int .u32, false)] (.int .u32)) k (bodyOf Go.Proofs.Try.f242) (initS 0 [.agg [.bool a_negative, .slc 224 (.int .u32) a_digits], .int .i64 i]) = f242 k a_negative a_digits i := by kernel_rfl
theorem m242 : Meets Go.Proofs.Try.prog 242 s242 := meets_of_run tiOk env70_ok mo Go.Proofs.Try.func242 (body := bodyOf Go.Proofs.Try.f242) (by kernel_rfl) (N := 15) (by kernel_rfl) (hs := []) (by
  intro k xs r h
  unfold s242 at h
  dsimp only at h
  split at h
  · exact ⟨Nat.le_of_ble_eq_true rfl, (v242 k _ _ _).trans h⟩
  · cases h)
theorem env71_ok : EnvOk Go.Proofs.Try.prog (envOf env71) := envOf_cons m242 Go.Proofs.Try.func242 (by kernel_rfl) (by kernel_rfl) env70_ok

-- cmp.isNaN[uint32]
def f286 (k : Nat) (x : Int) : Option (Bool) :=
  some (!decide (x = x))
def s286 : Spec := ⟨false, [(.bool, false)], true, .bool, fun k xs => match xs with | [.int .u32 x] => f286 k x | _ => none⟩
def env72 : List (FuncId × Spec) := (286, s286) :: env71
theorem v286 (k : Nat) (x : Int) : runFn ti (envOf env71) 6 [] (finT ti true Go.Proofs.Try.f286.results.toList [(.bool, false)] (.bool)) k (bodyOf Go.Proofs.Try.f286) (initS 0 [.int .u32 x]) = f286 k x := by kernel_rfl
theorem m286 : Meets Go.Proofs.Try.prog 286 s286 := meets_of_run tiOk env71_ok mo Go.Proofs.Try.func286 (body := bodyOf Go.Proofs.Try.f286) (by kernel_rfl) (N := 6) (by kernel_rfl) (hs := []) (by
  intro k xs r h
  unfold s286 at h
  dsimp only at h
  split at h
  · exact ⟨Nat.le_of_ble_eq_true rfl, (v286 k _).trans h⟩
  · cases h)
theorem env72_ok : EnvOk Go.Proofs.Try.prog (envOf env72) := envOf_cons m286 Go.Proofs.Try.func286 (by kernel_rfl) (by kernel_rfl) env71_ok

end Go.Proofs.YtbaeikcfchiiaaaE
