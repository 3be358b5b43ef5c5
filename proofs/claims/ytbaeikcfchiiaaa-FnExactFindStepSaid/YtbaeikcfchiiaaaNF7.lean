/- Functions, by the engine; printed. -/
import Derived.Test.YtbaeikcfchiiaaaNF6
set_option maxRecDepth 100000
set_option maxHeartbeats 4000000
set_option linter.unusedVariables false
namespace Go.Proofs.YtbaeikcfchiiaaaE
-- impl.stripped
def h198 : Hints := [(1001, .lab [(0, .one (.frz 3 (Ty.int IntKind.i64)))])]
noncomputable def F198_1001 (k : Nat) (rec1001 : List Int → Option (List (Int))) (p : List Int) : Option (List (Int)) :=
  bif decide (0 < (↑(List.length p) : Int)) then
    bif boundA (IntKind.wrap IntKind.i64 ((↑(List.length p) : Int) - 1)) (List.length p) then
      bif decide (List.getD p (Int.toNat (IntKind.wrap IntKind.i64 ((↑(List.length p) : Int) - 1))) 0 = 0) then
        bif boundE (IntKind.wrap IntKind.i64 ((↑(List.length p) : Int) - 1)) (List.length p) then
          bif decide (0 ≤ 0) && decide (0 ≤ IntKind.wrap IntKind.i64 ((↑(List.length p) : Int) - 1)) then
            rec1001 (List.drop (Int.toNat 0) (List.take (Int.toNat (IntKind.wrap IntKind.i64 ((↑(List.length p) : Int) - 1))) p))
          else
            none
        else
          none
      else
        (f232 k p).bind fun r0 =>
        some r0
    else
      none
  else
    (f232 k p).bind fun r1 =>
    some r1
noncomputable def F198 (k : Nat) (rec1001 : List Int → Option (List (Int))) (p : List (Int)) : Option (List (Int)) :=
  rec1001 p
noncomputable def l198 : Nat → (List Int → Option (List (Int)))
  | 0 => fun _ => none
  | k + 1 => F198_1001 k (l198 k)
noncomputable def f198 (k : Nat) (p : List (Int)) : Option (List (Int)) := F198 k (l198 k) p
noncomputable def s198 : Spec := ⟨false, [(.slice 3 (.int .i64), false)], true, .slice 3 (.int .i64), fun k xs => match xs with | [.slc 3 (.int .i64) p] => f198 k p | _ => none⟩
noncomputable def env73 : List (FuncId × Spec) := (198, s198) :: env72
noncomputable abbrev x198 := exec ti (envOf env72) 22 h198 (finT ti true Go.Proofs.Try.f198.results.toList [(.slice 3 (.int .i64), false)] (.slice 3 (.int .i64)))
noncomputable def k198_1001 : List It := stackAt [.r, .l, .b, .lb none] (bodyOf Go.Proofs.Try.f198) []
def t198_1001 (p : List Int) : St := [(0, Cell.val (AVal.slc 3 (Ty.int IntKind.i64) p))]
theorem e198_1001 (k : Nat) (p : List Int) : x198 (k + 1) k198_1001 (t198_1001 p) = F198_1001 k (fun (p : List Int) => x198 k k198_1001 (t198_1001 p)) p := by kernel_rfl
theorem q198 : ∀ k : Nat, (fun (p : List Int) => x198 k k198_1001 (t198_1001 p)) = l198 k
  | 0 => rfl
  | k + 1 => by
    have h := q198 k
    show _ = F198_1001 k (l198 k)
    rw [← h]
    exact (funext fun p => e198_1001 k p)
theorem w198 (k : Nat) (p : List (Int)) : runFn ti (envOf env72) 22 h198 (finT ti true Go.Proofs.Try.f198.results.toList [(.slice 3 (.int .i64), false)] (.slice 3 (.int .i64))) k (bodyOf Go.Proofs.Try.f198) (initS 0 [.slc 3 (.int .i64) p]) = F198 k (fun (p : List Int) => x198 k k198_1001 (t198_1001 p)) p := by kernel_rfl
theorem v198 (k : Nat) (p : List (Int)) : runFn ti (envOf env72) 22 h198 (finT ti true Go.Proofs.Try.f198.results.toList [(.slice 3 (.int .i64), false)] (.slice 3 (.int .i64))) k (bodyOf Go.Proofs.Try.f198) (initS 0 [.slc 3 (.int .i64) p]) = f198 k p := by
  rw [w198]
  have h := q198 k
  unfold f198
  rw [← h]
theorem m198 : Meets Go.Proofs.Try.prog 198 s198 := meets_of_run tiOk env72_ok mo Go.Proofs.Try.func198 (body := bodyOf Go.Proofs.Try.f198) (by kernel_rfl) (N := 22) (by kernel_rfl) (hs := h198) (by
  intro k xs r h
  unfold s198 at h
  dsimp only at h
  split at h
  · exact ⟨Nat.le_of_ble_eq_true rfl, (v198 k _).trans h⟩
  · cases h)
theorem env73_ok : EnvOk Go.Proofs.Try.prog (envOf env73) := envOf_cons m198 Go.Proofs.Try.func198 (by kernel_rfl) (by kernel_rfl) env72_ok

-- impl.addSingle
def h133 : Hints := [(1003, .lab [(0, .one (.frz 3 (Ty.int IntKind.i64))), (1, .one (.frz 3 (Ty.int IntKind.i64))), (5, .one (.own 3 (Ty.int IntKind.i64))), (14, .one (.v)), (15, .one (.v))])]
noncomputable def F133_1003 (k : Nat) (rec1003 : List Int → List Int → List Int → Int → Int → Option (List (Int))) (p : List Int) (q : List Int) (outs : List Int) (t14 : Int) (t15 : Int) : Option (List (Int)) :=
  bif decide (t15 < t14) then
    bif decide (t15 < (↑(List.length p) : Int)) then
      bif boundA t15 (List.length outs) then
        bif Nat.blt (Int.toNat t15) (List.length outs) then
          bif boundA t15 (List.length p) then
            bif boundA t15 (List.length outs) then
              bif Nat.blt (Int.toNat t15) (List.length outs) then
                bif decide (t15 < (↑(List.length q) : Int)) then
                  bif boundA t15 (List.length (List.set outs (Int.toNat t15) (IntKind.wrap IntKind.i64 (List.getD outs (Int.toNat t15) 0 + List.getD p (Int.toNat t15) 0)))) then
                    bif Nat.blt (Int.toNat t15) (List.length (List.set outs (Int.toNat t15) (IntKind.wrap IntKind.i64 (List.getD outs (Int.toNat t15) 0 + List.getD p (Int.toNat t15) 0)))) then
                      bif boundA t15 (List.length q) then
                        bif boundA t15 (List.length (List.set outs (Int.toNat t15) (IntKind.wrap IntKind.i64 (List.getD outs (Int.toNat t15) 0 + List.getD p (Int.toNat t15) 0)))) then
                          bif Nat.blt (Int.toNat t15) (List.length (List.set outs (Int.toNat t15) (IntKind.wrap IntKind.i64 (List.getD outs (Int.toNat t15) 0 + List.getD p (Int.toNat t15) 0)))) then
                            rec1003 p q (List.set (List.set outs (Int.toNat t15) (IntKind.wrap IntKind.i64 (List.getD outs (Int.toNat t15) 0 + List.getD p (Int.toNat t15) 0))) (Int.toNat t15) (IntKind.wrap IntKind.i64 (List.getD (List.set outs (Int.toNat t15) (IntKind.wrap IntKind.i64 (List.getD outs (Int.toNat t15) 0 + List.getD p (Int.toNat t15) 0))) (Int.toNat t15) 0 + List.getD q (Int.toNat t15) 0))) t14 (IntKind.wrap IntKind.i64 (t15 + 1))
                          else
                            none
                        else
                          none
                      else
                        none
                    else
                      none
                  else
                    none
                else
                  rec1003 p q (List.set outs (Int.toNat t15) (IntKind.wrap IntKind.i64 (List.getD outs (Int.toNat t15) 0 + List.getD p (Int.toNat t15) 0))) t14 (IntKind.wrap IntKind.i64 (t15 + 1))
              else
                none
            else
              none
          else
            none
        else
          none
      else
        none
    else
      bif decide (t15 < (↑(List.length q) : Int)) then
        bif boundA t15 (List.length outs) then
          bif Nat.blt (Int.toNat t15) (List.length outs) then
            bif boundA t15 (List.length q) then
              bif boundA t15 (List.length outs) then
                bif Nat.blt (Int.toNat t15) (List.length outs) then
                  rec1003 p q (List.set outs (Int.toNat t15) (IntKind.wrap IntKind.i64 (List.getD outs (Int.toNat t15) 0 + List.getD q (Int.toNat t15) 0))) t14 (IntKind.wrap IntKind.i64 (t15 + 1))
                else
                  none
              else
                none
            else
              none
          else
            none
        else
          none
      else
        rec1003 p q outs t14 (IntKind.wrap IntKind.i64 (t15 + 1))
  else
    (f198 k outs).bind fun r0 =>
    some r0
noncomputable def F133 (k : Nat) (rec1003 : List Int → List Int → List Int → Int → Int → Option (List (Int))) (p : List (Int)) (q : List (Int)) : Option (List (Int)) :=
  bif decide (0 ≤ bif decide ((↑(List.length p) : Int) < (↑(List.length q) : Int)) then (↑(List.length q) : Int) else (↑(List.length p) : Int)) then
    bif decide ((bif decide ((↑(List.length p) : Int) < (↑(List.length q) : Int)) then (↑(List.length q) : Int) else (↑(List.length p) : Int)) ≤ bif decide ((↑(List.length p) : Int) < (↑(List.length q) : Int)) then (↑(List.length q) : Int) else (↑(List.length p) : Int)) then
      bif decide ((bif decide ((↑(List.length p) : Int) < (↑(List.length q) : Int)) then (↑(List.length q) : Int) else (↑(List.length p) : Int)) * (↑8 : Int) ≤ 140737488355328) then
        rec1003 p q (List.replicate (Int.toNat (bif decide ((↑(List.length p) : Int) < (↑(List.length q) : Int)) then (↑(List.length q) : Int) else (↑(List.length p) : Int))) (dflt (Ty.int IntKind.i64))) ((↑(List.length (List.replicate (Int.toNat (bif decide ((↑(List.length p) : Int) < (↑(List.length q) : Int)) then (↑(List.length q) : Int) else (↑(List.length p) : Int))) (dflt (Ty.int IntKind.i64)))) : Int)) (0)
      else
        none
    else
      none
  else
    none
noncomputable def l133 : Nat → (List Int → List Int → List Int → Int → Int → Option (List (Int)))
  | 0 => fun _ _ _ _ _ => none
  | k + 1 => F133_1003 k (l133 k)
noncomputable def f133 (k : Nat) (p : List (Int)) (q : List (Int)) : Option (List (Int)) := F133 k (l133 k) p q
noncomputable def s133 : Spec := ⟨false, [(.slice 3 (.int .i64), false)], true, .slice 3 (.int .i64), fun k xs => match xs with | [.slc 3 (.int .i64) p, .slc 3 (.int .i64) q] => f133 k p q | _ => none⟩
noncomputable def env74 : List (FuncId × Spec) := (133, s133) :: env73
noncomputable abbrev x133 := exec ti (envOf env73) 49 h133 (finT ti true Go.Proofs.Try.f133.results.toList [(.slice 3 (.int .i64), false)] (.slice 3 (.int .i64)))
noncomputable def k133_1003 : List It := stackAt [.r, .r, .l, .r, .b, .lb none] (bodyOf Go.Proofs.Try.f133) []
def t133_1003 (p : List Int) (q : List Int) (outs : List Int) (t14 : Int) (t15 : Int) : St := [(0, Cell.val (AVal.slc 3 (Ty.int IntKind.i64) p)), (2, Cell.val (AVal.slc 3 (Ty.int IntKind.i64) q)), (10, Cell.val (AVal.ref 3 none)), (3, Cell.row true 3 (Ty.int IntKind.i64) outs), (28, Cell.val (AVal.int IntKind.i64 t14)), (30, Cell.val (AVal.int IntKind.i64 t15))]
theorem e133_1003 (k : Nat) (p : List Int) (q : List Int) (outs : List Int) (t14 : Int) (t15 : Int) : x133 (k + 1) k133_1003 (t133_1003 p q outs t14 t15) = F133_1003 k (fun (p : List Int) (q : List Int) (outs : List Int) (t14 : Int) (t15 : Int) => x133 k k133_1003 (t133_1003 p q outs t14 t15)) p q outs t14 t15 := by kernel_rfl
theorem q133 : ∀ k : Nat, (fun (p : List Int) (q : List Int) (outs : List Int) (t14 : Int) (t15 : Int) => x133 k k133_1003 (t133_1003 p q outs t14 t15)) = l133 k
  | 0 => rfl
  | k + 1 => by
    have h := q133 k
    show _ = F133_1003 k (l133 k)
    rw [← h]
    exact (funext fun p => funext fun q => funext fun outs => funext fun t14 => funext fun t15 => e133_1003 k p q outs t14 t15)
theorem w133 (k : Nat) (p : List (Int)) (q : List (Int)) : runFn ti (envOf env73) 49 h133 (finT ti true Go.Proofs.Try.f133.results.toList [(.slice 3 (.int .i64), false)] (.slice 3 (.int .i64))) k (bodyOf Go.Proofs.Try.f133) (initS 0 [.slc 3 (.int .i64) p, .slc 3 (.int .i64) q]) = F133 k (fun (p : List Int) (q : List Int) (outs : List Int) (t14 : Int) (t15 : Int) => x133 k k133_1003 (t133_1003 p q outs t14 t15)) p q := by kernel_rfl
theorem v133 (k : Nat) (p : List (Int)) (q : List (Int)) : runFn ti (envOf env73) 49 h133 (finT ti true Go.Proofs.Try.f133.results.toList [(.slice 3 (.int .i64), false)] (.slice 3 (.int .i64))) k (bodyOf Go.Proofs.Try.f133) (initS 0 [.slc 3 (.int .i64) p, .slc 3 (.int .i64) q]) = f133 k p q := by
  rw [w133]
  have h := q133 k
  unfold f133
  rw [← h]
theorem m133 : Meets Go.Proofs.Try.prog 133 s133 := meets_of_run tiOk env73_ok mo Go.Proofs.Try.func133 (body := bodyOf Go.Proofs.Try.f133) (by kernel_rfl) (N := 49) (by kernel_rfl) (hs := h133) (by
  intro k xs r h
  unfold s133 at h
  dsimp only at h
  split at h
  · exact ⟨Nat.le_of_ble_eq_true rfl, (v133 k _ _).trans h⟩
  · cases h)
theorem env74_ok : EnvOk Go.Proofs.Try.prog (envOf env74) := envOf_cons m133 Go.Proofs.Try.func133 (by kernel_rfl) (by kernel_rfl) env73_ok

-- impl.multiplySingle
def h134 : Hints := [(1003, .lab [(1, .one (.frz 3 (Ty.int IntKind.i64))), (5, .one (.own 3 (Ty.int IntKind.i64))), (16, .one (.frz 3 (Ty.int IntKind.i64))), (17, .one (.v)), (18, .one (.v))]), (1006, .lab [(1, .one (.frz 3 (Ty.int IntKind.i64))), (5, .one (.own 3 (Ty.int IntKind.i64))), (6, .one (.v)), (7, .one (.v)), (16, .one (.frz 3 (Ty.int IntKind.i64))), (17, .one (.v)), (18, .one (.v)), (23, .one (.frz 3 (Ty.int IntKind.i64))), (24, .one (.v)), (25, .one (.v))])]
noncomputable def F134_1003 (k : Nat) (rec1003 : List Int → List Int → List Int → Int → Int → Option (List (Int))) (rec1006 : List Int → List Int → Int → Int → List Int → Int → Int → List Int → Int → Int → Option (List (Int))) (q : List Int) (outs : List Int) (t16 : List Int) (t17 : Int) (t18 : Int) : Option (List (Int)) :=
  bif decide (t18 < t17) then
    bif boundA t18 (List.length t16) then
      rec1006 q outs t18 (List.getD t16 (Int.toNat t18) 0) t16 t17 t18 q ((↑(List.length q) : Int)) (0)
    else
      none
  else
    (f198 k outs).bind fun r0 =>
    some r0
noncomputable def F134_1006 (k : Nat) (rec1003 : List Int → List Int → List Int → Int → Int → Option (List (Int))) (rec1006 : List Int → List Int → Int → Int → List Int → Int → Int → List Int → Int → Int → Option (List (Int))) (q : List Int) (outs : List Int) (i : Int) (a : Int) (t16 : List Int) (t17 : Int) (t18 : Int) (t23 : List Int) (t24 : Int) (t25 : Int) : Option (List (Int)) :=
  bif decide (t25 < t24) then
    bif boundA t25 (List.length t23) then
      bif boundA (IntKind.wrap IntKind.i64 (i + t25)) (List.length outs) then
        bif Nat.blt (Int.toNat (IntKind.wrap IntKind.i64 (i + t25))) (List.length outs) then
          bif boundA (IntKind.wrap IntKind.i64 (i + t25)) (List.length outs) then
            bif Nat.blt (Int.toNat (IntKind.wrap IntKind.i64 (i + t25))) (List.length outs) then
              rec1006 q (List.set outs (Int.toNat (IntKind.wrap IntKind.i64 (i + t25))) (IntKind.wrap IntKind.i64 (List.getD outs (Int.toNat (IntKind.wrap IntKind.i64 (i + t25))) 0 + IntKind.wrap IntKind.i64 (a * List.getD t23 (Int.toNat t25) 0)))) i a t16 t17 t18 t23 t24 (IntKind.wrap IntKind.i64 (t25 + 1))
            else
              none
          else
            none
        else
          none
      else
        none
    else
      none
  else
    rec1003 q outs t16 t17 (IntKind.wrap IntKind.i64 (t18 + 1))
noncomputable def F134 (k : Nat) (rec1003 : List Int → List Int → List Int → Int → Int → Option (List (Int))) (rec1006 : List Int → List Int → Int → Int → List Int → Int → Int → List Int → Int → Int → Option (List (Int))) (p : List (Int)) (q : List (Int)) : Option (List (Int)) :=
  bif decide (0 ≤ IntKind.wrap IntKind.i64 ((↑(List.length p) : Int) + (↑(List.length q) : Int))) then
    bif decide (IntKind.wrap IntKind.i64 ((↑(List.length p) : Int) + (↑(List.length q) : Int)) ≤ IntKind.wrap IntKind.i64 ((↑(List.length p) : Int) + (↑(List.length q) : Int))) then
      bif decide (IntKind.wrap IntKind.i64 ((↑(List.length p) : Int) + (↑(List.length q) : Int)) * (↑8 : Int) ≤ 140737488355328) then
        rec1003 q (List.replicate (Int.toNat (IntKind.wrap IntKind.i64 ((↑(List.length p) : Int) + (↑(List.length q) : Int)))) (dflt (Ty.int IntKind.i64))) p ((↑(List.length p) : Int)) (0)
      else
        none
    else
      none
  else
    none
noncomputable def l134 : Nat → (List Int → List Int → List Int → Int → Int → Option (List (Int))) × (List Int → List Int → Int → Int → List Int → Int → Int → List Int → Int → Int → Option (List (Int)))
  | 0 => (fun _ _ _ _ _ => none, fun _ _ _ _ _ _ _ _ _ _ => none)
  | k + 1 => (F134_1003 k ((l134 k).1) ((l134 k).2), F134_1006 k ((l134 k).1) ((l134 k).2))
noncomputable def f134 (k : Nat) (p : List (Int)) (q : List (Int)) : Option (List (Int)) := F134 k ((l134 k).1) ((l134 k).2) p q
noncomputable def s134 : Spec := ⟨false, [(.slice 3 (.int .i64), false)], true, .slice 3 (.int .i64), fun k xs => match xs with | [.slc 3 (.int .i64) p, .slc 3 (.int .i64) q] => f134 k p q | _ => none⟩
noncomputable def env75 : List (FuncId × Spec) := (134, s134) :: env74
noncomputable abbrev x134 := exec ti (envOf env74) 45 h134 (finT ti true Go.Proofs.Try.f134.results.toList [(.slice 3 (.int .i64), false)] (.slice 3 (.int .i64)))
noncomputable def k134_1003 : List It := stackAt [.r, .r, .l, .r, .b, .lb none] (bodyOf Go.Proofs.Try.f134) []
def t134_1003 (q : List Int) (outs : List Int) (t16 : List Int) (t17 : Int) (t18 : Int) : St := [(2, Cell.val (AVal.slc 3 (Ty.int IntKind.i64) q)), (10, Cell.val (AVal.ref 3 none)), (3, Cell.row true 3 (Ty.int IntKind.i64) outs), (32, Cell.val (AVal.slc 3 (Ty.int IntKind.i64) t16)), (34, Cell.val (AVal.int IntKind.i64 t17)), (36, Cell.val (AVal.int IntKind.i64 t18))]
noncomputable def k134_1006 : List It := stackAt [.r, .r, .l, .r, .b, .lb none, .r, .r, .l, .b, .r, .r, .b, .lb none] (bodyOf Go.Proofs.Try.f134) []
def t134_1006 (q : List Int) (outs : List Int) (i : Int) (a : Int) (t16 : List Int) (t17 : Int) (t18 : Int) (t23 : List Int) (t24 : Int) (t25 : Int) : St := [(2, Cell.val (AVal.slc 3 (Ty.int IntKind.i64) q)), (10, Cell.val (AVal.ref 3 none)), (3, Cell.row true 3 (Ty.int IntKind.i64) outs), (12, Cell.val (AVal.int IntKind.i64 i)), (14, Cell.val (AVal.int IntKind.i64 a)), (32, Cell.val (AVal.slc 3 (Ty.int IntKind.i64) t16)), (34, Cell.val (AVal.int IntKind.i64 t17)), (36, Cell.val (AVal.int IntKind.i64 t18)), (46, Cell.val (AVal.slc 3 (Ty.int IntKind.i64) t23)), (48, Cell.val (AVal.int IntKind.i64 t24)), (50, Cell.val (AVal.int IntKind.i64 t25))]
theorem e134_1003 (k : Nat) (q : List Int) (outs : List Int) (t16 : List Int) (t17 : Int) (t18 : Int) : x134 (k + 1) k134_1003 (t134_1003 q outs t16 t17 t18) = F134_1003 k (fun (q : List Int) (outs : List Int) (t16 : List Int) (t17 : Int) (t18 : Int) => x134 k k134_1003 (t134_1003 q outs t16 t17 t18)) (fun (q : List Int) (outs : List Int) (i : Int) (a : Int) (t16 : List Int) (t17 : Int) (t18 : Int) (t23 : List Int) (t24 : Int) (t25 : Int) => x134 k k134_1006 (t134_1006 q outs i a t16 t17 t18 t23 t24 t25)) q outs t16 t17 t18 := by kernel_rfl
theorem e134_1006 (k : Nat) (q : List Int) (outs : List Int) (i : Int) (a : Int) (t16 : List Int) (t17 : Int) (t18 : Int) (t23 : List Int) (t24 : Int) (t25 : Int) : x134 (k + 1) k134_1006 (t134_1006 q outs i a t16 t17 t18 t23 t24 t25) = F134_1006 k (fun (q : List Int) (outs : List Int) (t16 : List Int) (t17 : Int) (t18 : Int) => x134 k k134_1003 (t134_1003 q outs t16 t17 t18)) (fun (q : List Int) (outs : List Int) (i : Int) (a : Int) (t16 : List Int) (t17 : Int) (t18 : Int) (t23 : List Int) (t24 : Int) (t25 : Int) => x134 k k134_1006 (t134_1006 q outs i a t16 t17 t18 t23 t24 t25)) q outs i a t16 t17 t18 t23 t24 t25 := by kernel_rfl
theorem q134 : ∀ k : Nat, ((fun (q : List Int) (outs : List Int) (t16 : List Int) (t17 : Int) (t18 : Int) => x134 k k134_1003 (t134_1003 q outs t16 t17 t18)), (fun (q : List Int) (outs : List Int) (i : Int) (a : Int) (t16 : List Int) (t17 : Int) (t18 : Int) (t23 : List Int) (t24 : Int) (t25 : Int) => x134 k k134_1006 (t134_1006 q outs i a t16 t17 t18 t23 t24 t25))) = l134 k
  | 0 => rfl
  | k + 1 => by
    have h := q134 k
    show _ = (F134_1003 k ((l134 k).1) ((l134 k).2), F134_1006 k ((l134 k).1) ((l134 k).2))
    rw [← h]
    exact (Prod.ext (funext fun q => funext fun outs => funext fun t16 => funext fun t17 => funext fun t18 => e134_1003 k q outs t16 t17 t18) (funext fun q => funext fun outs => funext fun i => funext fun a => funext fun t16 => funext fun t17 => funext fun t18 => funext fun t23 => funext fun t24 => funext fun t25 => e134_1006 k q outs i a t16 t17 t18 t23 t24 t25))
theorem w134 (k : Nat) (p : List (Int)) (q : List (Int)) : runFn ti (envOf env74) 45 h134 (finT ti true Go.Proofs.Try.f134.results.toList [(.slice 3 (.int .i64), false)] (.slice 3 (.int .i64))) k (bodyOf Go.Proofs.Try.f134) (initS 0 [.slc 3 (.int .i64) p, .slc 3 (.int .i64) q]) = F134 k (fun (q : List Int) (outs : List Int) (t16 : List Int) (t17 : Int) (t18 : Int) => x134 k k134_1003 (t134_1003 q outs t16 t17 t18)) (fun (q : List Int) (outs : List Int) (i : Int) (a : Int) (t16 : List Int) (t17 : Int) (t18 : Int) (t23 : List Int) (t24 : Int) (t25 : Int) => x134 k k134_1006 (t134_1006 q outs i a t16 t17 t18 t23 t24 t25)) p q := by kernel_rfl
theorem v134 (k : Nat) (p : List (Int)) (q : List (Int)) : runFn ti (envOf env74) 45 h134 (finT ti true Go.Proofs.Try.f134.results.toList [(.slice 3 (.int .i64), false)] (.slice 3 (.int .i64))) k (bodyOf Go.Proofs.Try.f134) (initS 0 [.slc 3 (.int .i64) p, .slc 3 (.int .i64) q]) = f134 k p q := by
  rw [w134]
  have h := q134 k
  unfold f134
  rw [← h]
theorem m134 : Meets Go.Proofs.Try.prog 134 s134 := meets_of_run tiOk env74_ok mo Go.Proofs.Try.func134 (body := bodyOf Go.Proofs.Try.f134) (by kernel_rfl) (N := 45) (by kernel_rfl) (hs := h134) (by
  intro k xs r h
  unfold s134 at h
  dsimp only at h
  split at h
  · exact ⟨Nat.le_of_ble_eq_true rfl, (v134 k _ _).trans h⟩
  · cases h)
theorem env75_ok : EnvOk Go.Proofs.Try.prog (envOf env75) := envOf_cons m134 Go.Proofs.Try.func134 (by kernel_rfl) (by kernel_rfl) env74_ok

-- impl.familyAt
noncomputable def f77 (k : Nat) (p : List (Int)) (q : List (Int)) (i : Int) (fine : Int) : Option (List (Int)) :=
  bif !decide (fine < 0) then
    (f134 k p [IntKind.wrap IntKind.i64 (1 * 2 ^ min (Int.toNat fine) (IntKind.bits IntKind.i64))]).bind fun r0 =>
    (f134 k q [i]).bind fun r1 =>
    (f133 k r0 r1).bind fun r2 =>
    some r2
  else
    none
noncomputable def s77 : Spec := ⟨false, [(.slice 3 (.int .i64), false)], true, .slice 3 (.int .i64), fun k xs => match xs with | [.slc 3 (.int .i64) p, .slc 3 (.int .i64) q, .int .i64 i, .int .i64 fine] => f77 k p q i fine | _ => none⟩
noncomputable def env76 : List (FuncId × Spec) := (77, s77) :: env75
theorem v77 (k : Nat) (p : List (Int)) (q : List (Int)) (i : Int) (fine : Int) : runFn ti (envOf env75) 19 [] (finT ti true Go.Proofs.Try.f77.results.toList [(.slice 3 (.int .i64), false)] (.slice 3 (.int .i64))) k (bodyOf Go.Proofs.Try.f77) (initS 0 [.slc 3 (.int .i64) p, .slc 3 (.int .i64) q, .int .i64 i, .int .i64 fine]) = f77 k p q i fine := by kernel_rfl
theorem m77 : Meets Go.Proofs.Try.prog 77 s77 := meets_of_run tiOk env75_ok mo Go.Proofs.Try.func77 (body := bodyOf Go.Proofs.Try.f77) (by kernel_rfl) (N := 19) (by kernel_rfl) (hs := []) (by
  intro k xs r h
  unfold s77 at h
  dsimp only at h
  split at h
  · exact ⟨Nat.le_of_ble_eq_true rfl, (v77 k _ _ _ _).trans h⟩
  · cases h)
theorem env76_ok : EnvOk Go.Proofs.Try.prog (envOf env76) := envOf_cons m77 Go.Proofs.Try.func77 (by kernel_rfl) (by kernel_rfl) env75_ok

-- impl.NarrowAt
noncomputable def f17 (k : Nat) (p : List (Int)) (q : List (Int)) (x_Low_N : Int) (x_Low_K : Int) (x_High_N : Int) (x_High_K : Int) (i : Int) (fine : Int) : Option (((Int × Int) × Int × Int) × Bool) :=
  (f73 k p q fine).bind fun r0 =>
  bif !r0 then
    some ((((0, 0), 0, 0), false))
  else
    (f74 k x_Low_N x_Low_K x_High_N x_High_K).bind fun r1 =>
    bif !r1 then
      some ((((0, 0), 0, 0), false))
    else
      (f75 k i fine).bind fun r2 =>
      bif !r2 then
        some ((((0, 0), 0, 0), false))
      else
        (f77 k p q i fine).bind fun r3 =>
        (f76 k r3 x_Low_N x_Low_K x_High_N x_High_K).bind fun r4 =>
        some ((((r4.fst.fst.fst, r4.fst.fst.snd), r4.fst.snd.fst, r4.fst.snd.snd), r4.snd))
noncomputable def s17 : Spec := ⟨false, [(.pair (.pair (.int .i64) (.int .i64)) (.pair (.int .i64) (.int .i64)), true), (.bool, false)], true, .pair (.pair (.pair (.int .i64) (.int .i64)) (.pair (.int .i64) (.int .i64))) (.bool), fun k xs => match xs with | [.slc 3 (.int .i64) p, .slc 3 (.int .i64) q, .agg [.int .i64 x_Low_N, .int .i64 x_Low_K, .int .i64 x_High_N, .int .i64 x_High_K], .int .i64 i, .int .i64 fine] => f17 k p q x_Low_N x_Low_K x_High_N x_High_K i fine | _ => none⟩
noncomputable def env77 : List (FuncId × Spec) := (17, s17) :: env76
theorem v17 (k : Nat) (p : List (Int)) (q : List (Int)) (x_Low_N : Int) (x_Low_K : Int) (x_High_N : Int) (x_High_K : Int) (i : Int) (fine : Int) : runFn ti (envOf env76) 38 [] (finT ti true Go.Proofs.Try.f17.results.toList [(.pair (.pair (.int .i64) (.int .i64)) (.pair (.int .i64) (.int .i64)), true), (.bool, false)] (.pair (.pair (.pair (.int .i64) (.int .i64)) (.pair (.int .i64) (.int .i64))) (.bool))) k (bodyOf Go.Proofs.Try.f17) (initS 0 [.slc 3 (.int .i64) p, .slc 3 (.int .i64) q, .agg [.int .i64 x_Low_N, .int .i64 x_Low_K, .int .i64 x_High_N, .int .i64 x_High_K], .int .i64 i, .int .i64 fine]) = f17 k p q x_Low_N x_Low_K x_High_N x_High_K i fine := by kernel_rfl
theorem m17 : Meets Go.Proofs.Try.prog 17 s17 := meets_of_run tiOk env76_ok mo Go.Proofs.Try.func17 (body := bodyOf Go.Proofs.Try.f17) (by kernel_rfl) (N := 38) (by kernel_rfl) (hs := []) (by
  intro k xs r h
  unfold s17 at h
  dsimp only at h
  split at h
  · exact ⟨Nat.le_of_ble_eq_true rfl, (v17 k _ _ _ _ _ _ _ _).trans h⟩
  · cases h)
theorem env77_ok : EnvOk Go.Proofs.Try.prog (envOf env77) := envOf_cons m17 Go.Proofs.Try.func17 (by kernel_rfl) (by kernel_rfl) env76_ok

-- laws.eqDyadic
noncomputable def f78 (k : Nat) (a_N : Int) (a_K : Int) (b_N : Int) (b_K : Int) : Option (Bool) :=
  bif !decide (a_N = b_N) then
    some false
  else
    bif !decide (a_K = b_K) then
      some false
    else
      some true
noncomputable def s78 : Spec := ⟨false, [(.bool, false)], true, .bool, fun k xs => match xs with | [.agg [.int .i64 a_N, .int .i64 a_K], .agg [.int .i64 b_N, .int .i64 b_K]] => f78 k a_N a_K b_N b_K | _ => none⟩
noncomputable def env78 : List (FuncId × Spec) := (78, s78) :: env77
theorem v78 (k : Nat) (a_N : Int) (a_K : Int) (b_N : Int) (b_K : Int) : runFn ti (envOf env77) 15 [] (finT ti true Go.Proofs.Try.f78.results.toList [(.bool, false)] (.bool)) k (bodyOf Go.Proofs.Try.f78) (initS 0 [.agg [.int .i64 a_N, .int .i64 a_K], .agg [.int .i64 b_N, .int .i64 b_K]]) = f78 k a_N a_K b_N b_K := by kernel_rfl
theorem m78 : Meets Go.Proofs.Try.prog 78 s78 := meets_of_run tiOk env77_ok mo Go.Proofs.Try.func78 (body := bodyOf Go.Proofs.Try.f78) (by kernel_rfl) (N := 15) (by kernel_rfl) (hs := []) (by
  intro k xs r h
  unfold s78 at h
  dsimp only at h
  split at h
  · exact ⟨Nat.le_of_ble_eq_true rfl, (v78 k _ _ _ _).trans h⟩
  · cases h)
theorem env78_ok : EnvOk Go.Proofs.Try.prog (envOf env78) := envOf_cons m78 Go.Proofs.Try.func78 (by kernel_rfl) (by kernel_rfl) env77_ok

-- laws.eqInterval
noncomputable def f18 (k : Nat) (a_Low_N : Int) (a_Low_K : Int) (a_High_N : Int) (a_High_K : Int) (b_Low_N : Int) (b_Low_K : Int) (b_High_N : Int) (b_High_K : Int) : Option (Bool) :=
  (f78 k a_Low_N a_Low_K b_Low_N b_Low_K).bind fun r0 =>
  bif !r0 then
    some false
  else
    (f78 k a_High_N a_High_K b_High_N b_High_K).bind fun r1 =>
    bif !r1 then
      some false
    else
      some true
noncomputable def s18 : Spec := ⟨false, [(.bool, false)], true, .bool, fun k xs => match xs with | [.agg [.int .i64 a_Low_N, .int .i64 a_Low_K, .int .i64 a_High_N, .int .i64 a_High_K], .agg [.int .i64 b_Low_N, .int .i64 b_Low_K, .int .i64 b_High_N, .int .i64 b_High_K]] => f18 k a_Low_N a_Low_K a_High_N a_High_K b_Low_N b_Low_K b_High_N b_High_K | _ => none⟩
noncomputable def env79 : List (FuncId × Spec) := (18, s18) :: env78
theorem v18 (k : Nat) (a_Low_N : Int) (a_Low_K : Int) (a_High_N : Int) (a_High_K : Int) (b_Low_N : Int) (b_Low_K : Int) (b_High_N : Int) (b_High_K : Int) : runFn ti (envOf env78) 17 [] (finT ti true Go.Proofs.Try.f18.results.toList [(.bool, false)] (.bool)) k (bodyOf Go.Proofs.Try.f18) (initS 0 [.agg [.int .i64 a_Low_N, .int .i64 a_Low_K, .int .i64 a_High_N, .int .i64 a_High_K], .agg [.int .i64 b_Low_N, .int .i64 b_Low_K, .int .i64 b_High_N, .int .i64 b_High_K]]) = f18 k a_Low_N a_Low_K a_High_N a_High_K b_Low_N b_Low_K b_High_N b_High_K := by kernel_rfl
theorem m18 : Meets Go.Proofs.Try.prog 18 s18 := meets_of_run tiOk env78_ok mo Go.Proofs.Try.func18 (body := bodyOf Go.Proofs.Try.f18) (by kernel_rfl) (N := 17) (by kernel_rfl) (hs := []) (by
  intro k xs r h
  unfold s18 at h
  dsimp only at h
  split at h
  · exact ⟨Nat.le_of_ble_eq_true rfl, (v18 k _ _ _ _ _ _ _ _).trans h⟩
  · cases h)
theorem env79_ok : EnvOk Go.Proofs.Try.prog (envOf env79) := envOf_cons m18 Go.Proofs.Try.func18 (by kernel_rfl) (by kernel_rfl) env78_ok

-- laws.eqIntS
def h31 : Hints := [(1004, .lab [(0, .one (.frz 3 (Ty.int IntKind.i64))), (1, .one (.frz 3 (Ty.int IntKind.i64))), (5, .one (.v))])]
noncomputable def F31_1004 (k : Nat) (rec1004 : List Int → List Int → Int → Option (Bool)) (a : List Int) (b : List Int) (i : Int) : Option (Bool) :=
  bif decide (i < (↑(List.length a) : Int)) then
    bif boundA i (List.length a) then
      bif boundA i (List.length b) then
        bif !decide (List.getD a (Int.toNat i) 0 = List.getD b (Int.toNat i) 0) then
          some false
        else
          rec1004 a b (IntKind.wrap IntKind.i64 (i + 1))
      else
        none
    else
      none
  else
    some true
noncomputable def F31 (k : Nat) (rec1004 : List Int → List Int → Int → Option (Bool)) (a : List (Int)) (b : List (Int)) : Option (Bool) :=
  bif !decide ((↑(List.length a) : Int) = (↑(List.length b) : Int)) then
    some false
  else
    rec1004 a b (0)
noncomputable def l31 : Nat → (List Int → List Int → Int → Option (Bool))
  | 0 => fun _ _ _ => none
  | k + 1 => F31_1004 k (l31 k)
noncomputable def f31 (k : Nat) (a : List (Int)) (b : List (Int)) : Option (Bool) := F31 k (l31 k) a b
noncomputable def s31 : Spec := ⟨false, [(.bool, false)], true, .bool, fun k xs => match xs with | [.slc 3 (.int .i64) a, .slc 3 (.int .i64) b] => f31 k a b | _ => none⟩
noncomputable def env80 : List (FuncId × Spec) := (31, s31) :: env79
noncomputable abbrev x31 := exec ti (envOf env79) 26 h31 (finT ti true Go.Proofs.Try.f31.results.toList [(.bool, false)] (.bool))
noncomputable def k31_1004 : List It := stackAt [.r, .r, .l, .r, .b, .lb none] (bodyOf Go.Proofs.Try.f31) []
def t31_1004 (a : List Int) (b : List Int) (i : Int) : St := [(0, Cell.val (AVal.slc 3 (Ty.int IntKind.i64) a)), (2, Cell.val (AVal.slc 3 (Ty.int IntKind.i64) b)), (10, Cell.val (AVal.int IntKind.i64 i))]
theorem e31_1004 (k : Nat) (a : List Int) (b : List Int) (i : Int) : x31 (k + 1) k31_1004 (t31_1004 a b i) = F31_1004 k (fun (a : List Int) (b : List Int) (i : Int) => x31 k k31_1004 (t31_1004 a b i)) a b i := by kernel_rfl
theorem q31 : ∀ k : Nat, (fun (a : List Int) (b : List Int) (i : Int) => x31 k k31_1004 (t31_1004 a b i)) = l31 k
  | 0 => rfl
  | k + 1 => by
    have h := q31 k
    show _ = F31_1004 k (l31 k)
    rw [← h]
    exact (funext fun a => funext fun b => funext fun i => e31_1004 k a b i)
theorem w31 (k : Nat) (a : List (Int)) (b : List (Int)) : runFn ti (envOf env79) 26 h31 (finT ti true Go.Proofs.Try.f31.results.toList [(.bool, false)] (.bool)) k (bodyOf Go.Proofs.Try.f31) (initS 0 [.slc 3 (.int .i64) a, .slc 3 (.int .i64) b]) = F31 k (fun (a : List Int) (b : List Int) (i : Int) => x31 k k31_1004 (t31_1004 a b i)) a b := by kernel_rfl
theorem v31 (k : Nat) (a : List (Int)) (b : List (Int)) : runFn ti (envOf env79) 26 h31 (finT ti true Go.Proofs.Try.f31.results.toList [(.bool, false)] (.bool)) k (bodyOf Go.Proofs.Try.f31) (initS 0 [.slc 3 (.int .i64) a, .slc 3 (.int .i64) b]) = f31 k a b := by
  rw [w31]
  have h := q31 k
  unfold f31
  rw [← h]
theorem m31 : Meets Go.Proofs.Try.prog 31 s31 := meets_of_run tiOk env79_ok mo Go.Proofs.Try.func31 (body := bodyOf Go.Proofs.Try.f31) (by kernel_rfl) (N := 26) (by kernel_rfl) (hs := h31) (by
  intro k xs r h
  unfold s31 at h
  dsimp only at h
  split at h
  · exact ⟨Nat.le_of_ble_eq_true rfl, (v31 k _ _).trans h⟩
  · cases h)
theorem env80_ok : EnvOk Go.Proofs.Try.prog (envOf env80) := envOf_cons m31 Go.Proofs.Try.func31 (by kernel_rfl) (by kernel_rfl) env79_ok

-- laws.intactIntS
noncomputable def f19 (k : Nat) (x : List (Int)) (x_n : Nat) (y : List (Int)) (y_n : Nat) : Option (Bool) :=
  (f71 k (↑y_n : Int)).bind fun r0 =>
  bif decide ((↑x_n : Int) = (↑y_n : Int)) then
    bif boundE (IntKind.wrap IntKind.i64 ((↑y_n : Int) + r0)) (List.length x) then
      bif decide (0 ≤ 0) && decide (0 ≤ IntKind.wrap IntKind.i64 ((↑y_n : Int) + r0)) then
        bif boundE (IntKind.wrap IntKind.i64 ((↑y_n : Int) + r0)) (List.length y) then
          bif decide (0 ≤ 0) && decide (0 ≤ IntKind.wrap IntKind.i64 ((↑y_n : Int) + r0)) then
            (f31 k (List.drop (Int.toNat 0) (List.take (Int.toNat (IntKind.wrap IntKind.i64 ((↑y_n : Int) + r0))) x)) (List.drop (Int.toNat 0) (List.take (Int.toNat (IntKind.wrap IntKind.i64 ((↑y_n : Int) + r0))) y))).bind fun r1 =>
            some r1
          else
            none
        else
          none
      else
        none
    else
      none
  else
    some false
noncomputable def s19 : Spec := ⟨true, [(.bool, false)], true, .bool, fun k xs => match xs with | [.vslc 3 (.int .i64) x x_n, .vslc 3 (.int .i64) y y_n] => f19 k x x_n y y_n | _ => none⟩
noncomputable def env81 : List (FuncId × Spec) := (19, s19) :: env80
theorem v19 (k : Nat) (x : List (Int)) (x_n : Nat) (y : List (Int)) (y_n : Nat) : runFn tiV (envOf env80) 26 [] (finT tiV true Go.Proofs.Try.f19.results.toList [(.bool, false)] (.bool)) k (bodyOf Go.Proofs.Try.f19) (initS 0 [.vslc 3 (.int .i64) x x_n, .vslc 3 (.int .i64) y y_n]) = f19 k x x_n y y_n := by kernel_rfl
theorem m19 : Meets Go.Proofs.Try.prog 19 s19 := meets_of_run tiVOk env80_ok mo Go.Proofs.Try.func19 (body := bodyOf Go.Proofs.Try.f19) (by kernel_rfl) (N := 26) (by kernel_rfl) (hs := []) (by
  intro k xs r h
  unfold s19 at h
  dsimp only at h
  split at h
  · exact ⟨Nat.le_of_ble_eq_true rfl, (v19 k _ _ _ _).trans h⟩
  · cases h)
theorem env81_ok : EnvOk Go.Proofs.Try.prog (envOf env81) := envOf_cons m19 Go.Proofs.Try.func19 (by kernel_rfl) (by kernel_rfl) env80_ok

-- laws.FnExactNarrowAt
noncomputable def f3 (k : Nat) (L : List (Int)) (i : List (Int)) (s_Low_N : Int) (s_Low_K : Int) (s_High_N : Int) (s_High_K : Int) (t : Int) (t4 : Int) : Option (Bool) :=
  bif decide (1000000 < IntKind.wrap IntKind.i64 ((↑(List.length L) : Int) + (↑(List.length i) : Int))) then
    some true
  else
    (f15 k L false).bind fun r0 =>
    (f15 k i false).bind fun r1 =>
    (f14 k (List.take r0.snd r0.fst) (List.take r1.snd r1.fst) s_Low_N s_Low_K s_High_N s_High_K t t4).bind fun r2 =>
    (f15 k L false).bind fun r3 =>
    (f15 k i false).bind fun r4 =>
    (f17 k (List.take r3.snd r3.fst) (List.take r4.snd r4.fst) s_Low_N s_Low_K s_High_N s_High_K t t4).bind fun r5 =>
    (f18 k r5.fst.fst.fst r5.fst.fst.snd r5.fst.snd.fst r5.fst.snd.snd r2.fst.fst.fst r2.fst.fst.snd r2.fst.snd.fst r2.fst.snd.snd).bind fun r6 =>
    bif !r6 then
      some false
    else
      bif !r5.snd == r2.snd then
        some false
      else
        (f15 k L false).bind fun r7 =>
        (f19 k r3.fst r3.snd r7.fst r7.snd).bind fun r8 =>
        bif !r8 then
          some false
        else
          (f15 k i false).bind fun r9 =>
          (f19 k r4.fst r4.snd r9.fst r9.snd).bind fun r10 =>
          bif !r10 then
            some false
          else
            (f15 k L true).bind fun r11 =>
            (f15 k i true).bind fun r12 =>
            (f17 k (List.take r11.snd r11.fst) (List.take r12.snd r12.fst) s_Low_N s_Low_K s_High_N s_High_K t t4).bind fun r13 =>
            (f18 k r13.fst.fst.fst r13.fst.fst.snd r13.fst.snd.fst r13.fst.snd.snd r2.fst.fst.fst r2.fst.fst.snd r2.fst.snd.fst r2.fst.snd.snd).bind fun r14 =>
            bif !r14 then
              some false
            else
              bif !r13.snd == r2.snd then
                some false
              else
                some true
noncomputable def s3 : Spec := ⟨false, [(.bool, false)], true, .bool, fun k xs => match xs with | [.slc 3 (.int .i64) L, .slc 3 (.int .i64) i, .agg [.int .i64 s_Low_N, .int .i64 s_Low_K, .int .i64 s_High_N, .int .i64 s_High_K], .int .i64 t, .int .i64 t4] => f3 k L i s_Low_N s_Low_K s_High_N s_High_K t t4 | _ => none⟩
noncomputable def env82 : List (FuncId × Spec) := (3, s3) :: env81
theorem v3 (k : Nat) (L : List (Int)) (i : List (Int)) (s_Low_N : Int) (s_Low_K : Int) (s_High_N : Int) (s_High_K : Int) (t : Int) (t4 : Int) : runFn tiV (envOf env81) 91 [] (finT tiV true Go.Proofs.Try.f3.results.toList [(.bool, false)] (.bool)) k (bodyOf Go.Proofs.Try.f3) (initS 0 [.slc 3 (.int .i64) L, .slc 3 (.int .i64) i, .agg [.int .i64 s_Low_N, .int .i64 s_Low_K, .int .i64 s_High_N, .int .i64 s_High_K], .int .i64 t, .int .i64 t4]) = f3 k L i s_Low_N s_Low_K s_High_N s_High_K t t4 := by kernel_rfl
theorem m3 : Meets Go.Proofs.Try.prog 3 s3 := meets_of_run tiVOk env81_ok mo Go.Proofs.Try.func3 (body := bodyOf Go.Proofs.Try.f3) (by kernel_rfl) (N := 91) (by kernel_rfl) (hs := []) (by
  intro k xs r h
  unfold s3 at h
  dsimp only at h
  split at h
  · exact ⟨Nat.le_of_ble_eq_true rfl, (v3 k _ _ _ _ _ _ _ _).trans h⟩
  · cases h)
theorem env82_ok : EnvOk Go.Proofs.Try.prog (envOf env82) := envOf_cons m3 Go.Proofs.Try.func3 (by kernel_rfl) (by kernel_rfl) env81_ok

-- spec.faStep
noncomputable def f79 (k : Nat) (p : List (Int)) (q : List (Int)) (i : Int) (fine : Int) : Option (Bool) :=
  (f89 k p q fine).bind fun r0 =>
  bif r0 then
    (f90 k fine).bind fun r1 =>
    (f121 k i 0 (IntKind.wrap IntKind.i64 (r1 - 1))).bind fun r2 =>
    some r2
  else
    some false
noncomputable def s79 : Spec := ⟨false, [(.bool, false)], true, .bool, fun k xs => match xs with | [.slc 3 (.int .i64) p, .slc 3 (.int .i64) q, .int .i64 i, .int .i64 fine] => f79 k p q i fine | _ => none⟩
noncomputable def env83 : List (FuncId × Spec) := (79, s79) :: env82
theorem v79 (k : Nat) (p : List (Int)) (q : List (Int)) (i : Int) (fine : Int) : runFn ti (envOf env82) 20 [] (finT ti true Go.Proofs.Try.f79.results.toList [(.bool, false)] (.bool)) k (bodyOf Go.Proofs.Try.f79) (initS 0 [.slc 3 (.int .i64) p, .slc 3 (.int .i64) q, .int .i64 i, .int .i64 fine]) = f79 k p q i fine := by kernel_rfl
theorem m79 : Meets Go.Proofs.Try.prog 79 s79 := meets_of_run tiOk env82_ok mo Go.Proofs.Try.func79 (body := bodyOf Go.Proofs.Try.f79) (by kernel_rfl) (N := 20) (by kernel_rfl) (hs := []) (by
  intro k xs r h
  unfold s79 at h
  dsimp only at h
  split at h
  · exact ⟨Nat.le_of_ble_eq_true rfl, (v79 k _ _ _ _).trans h⟩
  · cases h)
theorem env83_ok : EnvOk Go.Proofs.Try.prog (envOf env83) := envOf_cons m79 Go.Proofs.Try.func79 (by kernel_rfl) (by kernel_rfl) env82_ok

-- spec.faBoth
noncomputable def f135 (k : Nat) (p : List (Int)) (q : List (Int)) (x_N : Int) (x_K : Int) (i : Int) (k_ : Int) (fine : Int) : Option (Int) :=
  (f125 k p q x_N x_K i fine).bind fun r0 =>
  (f125 k p q x_N x_K k_ fine).bind fun r1 =>
  bif !decide (r1 = r0) then
    some (0)
  else
    some r0
noncomputable def s135 : Spec := ⟨false, [(.int .i64, false)], true, .int .i64, fun k xs => match xs with | [.slc 3 (.int .i64) p, .slc 3 (.int .i64) q, .agg [.int .i64 x_N, .int .i64 x_K], .int .i64 i, .int .i64 k_, .int .i64 fine] => f135 k p q x_N x_K i k_ fine | _ => none⟩
noncomputable def env84 : List (FuncId × Spec) := (135, s135) :: env83
theorem v135 (k : Nat) (p : List (Int)) (q : List (Int)) (x_N : Int) (x_K : Int) (i : Int) (k_ : Int) (fine : Int) : runFn ti (envOf env83) 29 [] (finT ti true Go.Proofs.Try.f135.results.toList [(.int .i64, false)] (.int .i64)) k (bodyOf Go.Proofs.Try.f135) (initS 0 [.slc 3 (.int .i64) p, .slc 3 (.int .i64) q, .agg [.int .i64 x_N, .int .i64 x_K], .int .i64 i, .int .i64 k_, .int .i64 fine]) = f135 k p q x_N x_K i k_ fine := by kernel_rfl
theorem m135 : Meets Go.Proofs.Try.prog 135 s135 := meets_of_run tiOk env83_ok mo Go.Proofs.Try.func135 (body := bodyOf Go.Proofs.Try.f135) (by kernel_rfl) (N := 29) (by kernel_rfl) (hs := []) (by
  intro k xs r h
  unfold s135 at h
  dsimp only at h
  split at h
  · exact ⟨Nat.le_of_ble_eq_true rfl, (v135 k _ _ _ _ _ _ _).trans h⟩
  · cases h)
theorem env84_ok : EnvOk Go.Proofs.Try.prog (envOf env84) := envOf_cons m135 Go.Proofs.Try.func135 (by kernel_rfl) (by kernel_rfl) env83_ok

end Go.Proofs.YtbaeikcfchiiaaaE
