/- Functions, by the engine; printed. -/
import Derived.Test.YtbaeikcfchiiaaaST5
set_option maxRecDepth 100000
set_option maxHeartbeats 4000000
set_option linter.unusedVariables false
namespace Go.Proofs.YtbaeikcfchiiaaaE
-- impl.addSingle
def h133 : Hints := [(1003, .lab [(0, .one (.frz 3 (Ty.int IntKind.i64))), (1, .one (.frz 3 (Ty.int IntKind.i64))), (5, .one (.own 3 (Ty.int IntKind.i64))), (14, .one (.v)), (15, .one (.v))])]
def F133_1003 (k : Nat) (rec1003 : List Int → List Int → List Int → Int → Int → Option (List (Int))) (p : List Int) (q : List Int) (outs : List Int) (t14 : Int) (t15 : Int) : Option (List (Int)) :=
  bif decide (t15 < t14) then
    bif decide (t15 < (↑(List.length p) : Int)) then
      bif boundA t15 (List.length outs) then
        bif Nat.blt (Int.toNat t15) (List.length outs) then
          bif boundA t15 (List.length p) then
            bif boundA t15 (List.length outs) then
              bif Nat.blt (Int.toNat t15) (List.length outs) then
                bif decide (t15 < (↑(List.length q) : Int)) then
                  bif boundA t15 (List.length (List.set outs (Int.toNat t15) (IntKind.wrap IntKind.i64 (List.getD outs (Int.toNat t15) 0 + List.getD p (Int.toNat t15) 0)))) then
                    bif Nat.blt (Int.toNat t15) (List.length (List.set outs (Int.toNat t15) (IntKind.wrap IntKind.i64 (List.getD outs (Int.toNat t15) 0 + List.getD p (Int.toNat t15) 0)))) then
                      bif boundA t15 (List.length q) then
                        bif boundA t15 (List.length (List.set outs (Int.toNat t15) (IntKind.wrap IntKind.i64 (List.getD outs (Int.toNat t15) 0 + List.getD p (Int.toNat t15) 0)))) then
                          bif Nat.blt (Int.toNat t15) (List.length (List.set outs (Int.toNat t15) (IntKind.wrap IntKind.i64 (List.getD outs (Int.toNat t15) 0 + List.getD p (Int.toNat t15) 0)))) then
                            rec1003 p q (List.set (List.set outs (Int.toNat t15) (IntKind.wrap IntKind.i64 (List.getD outs (Int.toNat t15) 0 + List.getD p (Int.toNat t15) 0))) (Int.toNat t15) (IntKind.wrap IntKind.i64 (List.getD (List.set outs (Int.toNat t15) (IntKind.wrap IntKind.i64 (List.getD outs (Int.toNat t15) 0 + List.getD p (Int.toNat t15) 0))) (Int.toNat t15) 0 + List.getD q (Int.toNat t15) 0))) t14 (IntKind.wrap IntKind.i64 (t15 + 1))
                          else
                            none
                        else
                          none
                      else
                        none
                    else
                      none
                  else
                    none
                else
                  rec1003 p q (List.set outs (Int.toNat t15) (IntKind.wrap IntKind.i64 (List.getD outs (Int.toNat t15) 0 + List.getD p (Int.toNat t15) 0))) t14 (IntKind.wrap IntKind.i64 (t15 + 1))
              else
                none
            else
              none
          else
            none
        else
          none
      else
        none
    else
      bif decide (t15 < (↑(List.length q) : Int)) then
        bif boundA t15 (List.length outs) then
          bif Nat.blt (Int.toNat t15) (List.length outs) then
            bif boundA t15 (List.length q) then
              bif boundA t15 (List.length outs) then
                bif Nat.blt (Int.toNat t15) (List.length outs) then
                  rec1003 p q (List.set outs (Int.toNat t15) (IntKind.wrap IntKind.i64 (List.getD outs (Int.toNat t15) 0 + List.getD q (Int.toNat t15) 0))) t14 (IntKind.wrap IntKind.i64 (t15 + 1))
                else
                  none
              else
                none
            else
              none
          else
            none
        else
          none
      else
        rec1003 p q outs t14 (IntKind.wrap IntKind.i64 (t15 + 1))
  else
    (f198 k outs).bind fun r0 =>
    some r0
def F133 (k : Nat) (rec1003 : List Int → List Int → List Int → Int → Int → Option (List (Int))) (p : List (Int)) (q : List (Int)) : Option (List (Int)) :=
  bif decide (0 ≤ bif decide ((↑(List.length p) : Int) < (↑(List.length q) : Int)) then (↑(List.length q) : Int) else (↑(List.length p) : Int)) then
    bif decide ((bif decide ((↑(List.length p) : Int) < (↑(List.length q) : Int)) then (↑(List.length q) : Int) else (↑(List.length p) : Int)) ≤ bif decide ((↑(List.length p) : Int) < (↑(List.length q) : Int)) then (↑(List.length q) : Int) else (↑(List.length p) : Int)) then
      bif decide ((bif decide ((↑(List.length p) : Int) < (↑(List.length q) : Int)) then (↑(List.length q) : Int) else (↑(List.length p) : Int)) * (↑8 : Int) ≤ 140737488355328) then
        rec1003 p q (List.replicate (Int.toNat (bif decide ((↑(List.length p) : Int) < (↑(List.length q) : Int)) then (↑(List.length q) : Int) else (↑(List.length p) : Int))) (dflt (Ty.int IntKind.i64))) ((↑(List.length (List.replicate (Int.toNat (bif decide ((↑(List.length p) : Int) < (↑(List.length q) : Int)) then (↑(List.length q) : Int) else (↑(List.length p) : Int))) (dflt (Ty.int IntKind.i64)))) : Int)) (0)
      else
        none
    else
      none
  else
    none
def l133 : Nat → (List Int → List Int → List Int → Int → Int → Option (List (Int)))
  | 0 => fun _ _ _ _ _ => none
  | k + 1 => F133_1003 k (l133 k)
def f133 (k : Nat) (p : List (Int)) (q : List (Int)) : Option (List (Int)) := F133 k (l133 k) p q
def s133 : Spec := ⟨false, [(.slice 3 (.int .i64), false)], true, .slice 3 (.int .i64), fun k xs => match xs with | [.slc 3 (.int .i64) p, .slc 3 (.int .i64) q] => f133 k p q | _ => none⟩
def env61 : List (FuncId × Spec) := (133, s133) :: env60
noncomputable abbrev x133 := exec ti (envOf env60) 49 h133 (finT ti true Go.Proofs.Try.f133.results.toList [(.slice 3 (.int .i64), false)] (.slice 3 (.int .i64)))
noncomputable def k133_1003 : List It := stackAt [.r, .r, .l, .r, .b, .lb none] (bodyOf Go.Proofs.Try.f133) []
def t133_1003 (p : List Int) (q : List Int) (outs : List Int) (t14 : Int) (t15 : Int) : St := [(0, Cell.val (AVal.slc 3 (Ty.int IntKind.i64) p)), (2, Cell.val (AVal.slc 3 (Ty.int IntKind.i64) q)), (10, Cell.val (AVal.ref 3 none)), (3, Cell.row true 3 (Ty.int IntKind.i64) outs), (28, Cell.val (AVal.int IntKind.i64 t14)), (30, Cell.val (AVal.int IntKind.i64 t15))]
theorem e133_1003 (k : Nat) (p : List Int) (q : List Int) (outs : List Int) (t14 : Int) (t15 : Int) : x133 (k + 1) k133_1003 (t133_1003 p q outs t14 t15) = F133_1003 k (fun (p : List Int) (q : List Int) (outs : List Int) (t14 : Int) (t15 : Int) => x133 k k133_1003 (t133_1003 p q outs t14 t15)) p q outs t14 t15 := by kernel_rfl
theorem q133 : ∀ k : Nat, (fun (p : List Int) (q : List Int) (outs : List Int) (t14 : Int) (t15 : Int) => x133 k k133_1003 (t133_1003 p q outs t14 t15)) = l133 k
  | 0 => rfl
  | k + 1 => by
    have h := q133 k
    show _ = F133_1003 k (l133 k)
    rw [← h]
    exact (funext fun p => funext fun q => funext fun outs => funext fun t14 => funext fun t15 => e133_1003 k p q outs t14 t15)
theorem w133 (k : Nat) (p : List (Int)) (q : List (Int)) : runFn ti (envOf env60) 49 h133 (finT ti true Go.Proofs.Try.f133.results.toList [(.slice 3 (.int .i64), false)] (.slice 3 (.int .i64))) k (bodyOf Go.Proofs.Try.f133) (initS 0 [.slc 3 (.int .i64) p, .slc 3 (.int .i64) q]) = F133 k (fun (p : List Int) (q : List Int) (outs : List Int) (t14 : Int) (t15 : Int) => x133 k k133_1003 (t133_1003 p q outs t14 t15)) p q := by kernel_rfl
theorem v133 (k : Nat) (p : List (Int)) (q : List (Int)) : runFn ti (envOf env60) 49 h133 (finT ti true Go.Proofs.Try.f133.results.toList [(.slice 3 (.int .i64), false)] (.slice 3 (.int .i64))) k (bodyOf Go.Proofs.Try.f133) (initS 0 [.slc 3 (.int .i64) p, .slc 3 (.int .i64) q]) = f133 k p q := by
  rw [w133]
  have h := q133 k
  unfold f133
  rw [← h]
theorem m133 : Meets Go.Proofs.Try.prog 133 s133 := meets_of_run tiOk env60_ok mo Go.Proofs.Try.func133 (body := bodyOf Go.Proofs.Try.f133) (by kernel_rfl) (N := 49) (by kernel_rfl) (hs := h133) (by
  intro k xs r h
  unfold s133 at h
  dsimp only at h
  split at h
  · exact ⟨Nat.le_of_ble_eq_true rfl, (v133 k _ _).trans h⟩
  · cases h)
theorem env61_ok : EnvOk Go.Proofs.Try.prog (envOf env61) := envOf_cons m133 Go.Proofs.Try.func133 (by kernel_rfl) (by kernel_rfl) env60_ok

-- impl.multiplySingle
def h134 : Hints := [(1003, .lab [(1, .one (.frz 3 (Ty.int IntKind.i64))), (5, .one (.own 3 (Ty.int IntKind.i64))), (16, .one (.frz 3 (Ty.int IntKind.i64))), (17, .one (.v)), (18, .one (.v))]), (1006, .lab [(1, .one (.frz 3 (Ty.int IntKind.i64))), (5, .one (.own 3 (Ty.int IntKind.i64))), (6, .one (.v)), (7, .one (.v)), (16, .one (.frz 3 (Ty.int IntKind.i64))), (17, .one (.v)), (18, .one (.v)), (23, .one (.frz 3 (Ty.int IntKind.i64))), (24, .one (.v)), (25, .one (.v))])]
def F134_1003 (k : Nat) (rec1003 : List Int → List Int → List Int → Int → Int → Option (List (Int))) (rec1006 : List Int → List Int → Int → Int → List Int → Int → Int → List Int → Int → Int → Option (List (Int))) (q : List Int) (outs : List Int) (t16 : List Int) (t17 : Int) (t18 : Int) : Option (List (Int)) :=
  bif decide (t18 < t17) then
    bif boundA t18 (List.length t16) then
      rec1006 q outs t18 (List.getD t16 (Int.toNat t18) 0) t16 t17 t18 q ((↑(List.length q) : Int)) (0)
    else
      none
  else
    (f198 k outs).bind fun r0 =>
    some r0
def F134_1006 (k : Nat) (rec1003 : List Int → List Int → List Int → Int → Int → Option (List (Int))) (rec1006 : List Int → List Int → Int → Int → List Int → Int → Int → List Int → Int → Int → Option (List (Int))) (q : List Int) (outs : List Int) (i : Int) (a : Int) (t16 : List Int) (t17 : Int) (t18 : Int) (t23 : List Int) (t24 : Int) (t25 : Int) : Option (List (Int)) :=
  bif decide (t25 < t24) then
    bif boundA t25 (List.length t23) then
      bif boundA (IntKind.wrap IntKind.i64 (i + t25)) (List.length outs) then
        bif Nat.blt (Int.toNat (IntKind.wrap IntKind.i64 (i + t25))) (List.length outs) then
          bif boundA (IntKind.wrap IntKind.i64 (i + t25)) (List.length outs) then
            bif Nat.blt (Int.toNat (IntKind.wrap IntKind.i64 (i + t25))) (List.length outs) then
              rec1006 q (List.set outs (Int.toNat (IntKind.wrap IntKind.i64 (i + t25))) (IntKind.wrap IntKind.i64 (List.getD outs (Int.toNat (IntKind.wrap IntKind.i64 (i + t25))) 0 + IntKind.wrap IntKind.i64 (a * List.getD t23 (Int.toNat t25) 0)))) i a t16 t17 t18 t23 t24 (IntKind.wrap IntKind.i64 (t25 + 1))
            else
              none
          else
            none
        else
          none
      else
        none
    else
      none
  else
    rec1003 q outs t16 t17 (IntKind.wrap IntKind.i64 (t18 + 1))
def F134 (k : Nat) (rec1003 : List Int → List Int → List Int → Int → Int → Option (List (Int))) (rec1006 : List Int → List Int → Int → Int → List Int → Int → Int → List Int → Int → Int → Option (List (Int))) (p : List (Int)) (q : List (Int)) : Option (List (Int)) :=
  bif decide (0 ≤ IntKind.wrap IntKind.i64 ((↑(List.length p) : Int) + (↑(List.length q) : Int))) then
    bif decide (IntKind.wrap IntKind.i64 ((↑(List.length p) : Int) + (↑(List.length q) : Int)) ≤ IntKind.wrap IntKind.i64 ((↑(List.length p) : Int) + (↑(List.length q) : Int))) then
      bif decide (IntKind.wrap IntKind.i64 ((↑(List.length p) : Int) + (↑(List.length q) : Int)) * (↑8 : Int) ≤ 140737488355328) then
        rec1003 q (List.replicate (Int.toNat (IntKind.wrap IntKind.i64 ((↑(List.length p) : Int) + (↑(List.length q) : Int)))) (dflt (Ty.int IntKind.i64))) p ((↑(List.length p) : Int)) (0)
      else
        none
    else
      none
  else
    none
def l134 : Nat → (List Int → List Int → List Int → Int → Int → Option (List (Int))) × (List Int → List Int → Int → Int → List Int → Int → Int → List Int → Int → Int → Option (List (Int)))
  | 0 => (fun _ _ _ _ _ => none, fun _ _ _ _ _ _ _ _ _ _ => none)
  | k + 1 => (F134_1003 k ((l134 k).1) ((l134 k).2), F134_1006 k ((l134 k).1) ((l134 k).2))
def f134 (k : Nat) (p : List (Int)) (q : List (Int)) : Option (List (Int)) := F134 k ((l134 k).1) ((l134 k).2) p q
def s134 : Spec := ⟨false, [(.slice 3 (.int .i64), false)], true, .slice 3 (.int .i64), fun k xs => match xs with | [.slc 3 (.int .i64) p, .slc 3 (.int .i64) q] => f134 k p q | _ => none⟩
def env62 : List (FuncId × Spec) := (134, s134) :: env61
noncomputable abbrev x134 := exec ti (envOf env61) 45 h134 (finT ti true Go.Proofs.Try.f134.results.toList [(.slice 3 (.int .i64), false)] (.slice 3 (.int .i64)))
noncomputable def k134_1003 : List It := stackAt [.r, .r, .l, .r, .b, .lb none] (bodyOf Go.Proofs.Try.f134) []
def t134_1003 (q : List Int) (outs : List Int) (t16 : List Int) (t17 : Int) (t18 : Int) : St := [(2, Cell.val (AVal.slc 3 (Ty.int IntKind.i64) q)), (10, Cell.val (AVal.ref 3 none)), (3, Cell.row true 3 (Ty.int IntKind.i64) outs), (32, Cell.val (AVal.slc 3 (Ty.int IntKind.i64) t16)), (34, Cell.val (AVal.int IntKind.i64 t17)), (36, Cell.val (AVal.int IntKind.i64 t18))]
noncomputable def k134_1006 : List It := stackAt [.r, .r, .l, .r, .b, .lb none, .r, .r, .l, .b, .r, .r, .b, .lb none] (bodyOf Go.Proofs.Try.f134) []
def t134_1006 (q : List Int) (outs : List Int) (i : Int) (a : Int) (t16 : List Int) (t17 : Int) (t18 : Int) (t23 : List Int) (t24 : Int) (t25 : Int) : St := [(2, Cell.val (AVal.slc 3 (Ty.int IntKind.i64) q)), (10, Cell.val (AVal.ref 3 none)), (3, Cell.row true 3 (Ty.int IntKind.i64) outs), (12, Cell.val (AVal.int IntKind.i64 i)), (14, Cell.val (AVal.int IntKind.i64 a)), (32, Cell.val (AVal.slc 3 (Ty.int IntKind.i64) t16)), (34, Cell.val (AVal.int IntKind.i64 t17)), (36, Cell.val (AVal.int IntKind.i64 t18)), (46, Cell.val (AVal.slc 3 (Ty.int IntKind.i64) t23)), (48, Cell.val (AVal.int IntKind.i64 t24)), (50, Cell.val (AVal.int IntKind.i64 t25))]
theorem e134_1003 (k : Nat) (q : List Int) (outs : List Int) (t16 : List Int) (t17 : Int) (t18 : Int) : x134 (k + 1) k134_1003 (t134_1003 q outs t16 t17 t18) = F134_1003 k (fun (q : List Int) (outs : List Int) (t16 : List Int) (t17 : Int) (t18 : Int) => x134 k k134_1003 (t134_1003 q outs t16 t17 t18)) (fun (q : List Int) (outs : List Int) (i : Int) (a : Int) (t16 : List Int) (t17 : Int) (t18 : Int) (t23 : List Int) (t24 : Int) (t25 : Int) => x134 k k134_1006 (t134_1006 q outs i a t16 t17 t18 t23 t24 t25)) q outs t16 t17 t18 := by kernel_rfl
theorem e134_1006 (k : Nat) (q : List Int) (outs : List Int) (i : Int) (a : Int) (t16 : List Int) (t17 : Int) (t18 : Int) (t23 : List Int) (t24 : Int) (t25 : Int) : x134 (k + 1) k134_1006 (t134_1006 q outs i a t16 t17 t18 t23 t24 t25) = F134_1006 k (fun (q : List Int) (outs : List Int) (t16 : List Int) (t17 : Int) (t18 : Int) => x134 k k134_1003 (t134_1003 q outs t16 t17 t18)) (fun (q : List Int) (outs : List Int) (i : Int) (a : Int) (t16 : List Int) (t17 : Int) (t18 : Int) (t23 : List Int) (t24 : Int) (t25 : Int) => x134 k k134_1006 (t134_1006 q outs i a t16 t17 t18 t23 t24 t25)) q outs i a t16 t17 t18 t23 t24 t25 := by kernel_rfl
theorem q134 : ∀ k : Nat, ((fun (q : List Int) (outs : List Int) (t16 : List Int) (t17 : Int) (t18 : Int) => x134 k k134_1003 (t134_1003 q outs t16 t17 t18)), (fun (q : List Int) (outs : List Int) (i : Int) (a : Int) (t16 : List Int) (t17 : Int) (t18 : Int) (t23 : List Int) (t24 : Int) (t25 : Int) => x134 k k134_1006 (t134_1006 q outs i a t16 t17 t18 t23 t24 t25))) = l134 k
  | 0 => rfl
  | k + 1 => by
    have h := q134 k
    show _ = (F134_1003 k ((l134 k).1) ((l134 k).2), F134_1006 k ((l134 k).1) ((l134 k).2))
    rw [← h]
    exact (Prod.ext (funext fun q => funext fun outs => funext fun t16 => funext fun t17 => funext fun t18 => e134_1003 k q outs t16 t17 t18) (funext fun q => funext fun outs => funext fun i => funext fun a => funext fun t16 => funext fun t17 => funext fun t18 => funext fun t23 => funext fun t24 => funext fun t25 => e134_1006 k q outs i a t16 t17 t18 t23 t24 t25))
theorem w134 (k : Nat) (p : List (Int)) (q : List (Int)) : runFn ti (envOf env61) 45 h134 (finT ti true Go.Proofs.Try.f134.results.toList [(.slice 3 (.int .i64), false)] (.slice 3 (.int .i64))) k (bodyOf Go.Proofs.Try.f134) (initS 0 [.slc 3 (.int .i64) p, .slc 3 (.int .i64) q]) = F134 k (fun (q : List Int) (outs : List Int) (t16 : List Int) (t17 : Int) (t18 : Int) => x134 k k134_1003 (t134_1003 q outs t16 t17 t18)) (fun (q : List Int) (outs : List Int) (i : Int) (a : Int) (t16 : List Int) (t17 : Int) (t18 : Int) (t23 : List Int) (t24 : Int) (t25 : Int) => x134 k k134_1006 (t134_1006 q outs i a t16 t17 t18 t23 t24 t25)) p q := by kernel_rfl
theorem v134 (k : Nat) (p : List (Int)) (q : List (Int)) : runFn ti (envOf env61) 45 h134 (finT ti true Go.Proofs.Try.f134.results.toList [(.slice 3 (.int .i64), false)] (.slice 3 (.int .i64))) k (bodyOf Go.Proofs.Try.f134) (initS 0 [.slc 3 (.int .i64) p, .slc 3 (.int .i64) q]) = f134 k p q := by
  rw [w134]
  have h := q134 k
  unfold f134
  rw [← h]
theorem m134 : Meets Go.Proofs.Try.prog 134 s134 := meets_of_run tiOk env61_ok mo Go.Proofs.Try.func134 (body := bodyOf Go.Proofs.Try.f134) (by kernel_rfl) (N := 45) (by kernel_rfl) (hs := h134) (by
  intro k xs r h
  unfold s134 at h
  dsimp only at h
  split at h
  · exact ⟨Nat.le_of_ble_eq_true rfl, (v134 k _ _).trans h⟩
  · cases h)
theorem env62_ok : EnvOk Go.Proofs.Try.prog (envOf env62) := envOf_cons m134 Go.Proofs.Try.func134 (by kernel_rfl) (by kernel_rfl) env61_ok

-- impl.familyAt
def f77 (k : Nat) (p : List (Int)) (q : List (Int)) (i : Int) (fine : Int) : Option (List (Int)) :=
  bif !decide (fine < 0) then
    (f134 k p [IntKind.wrap IntKind.i64 (1 * 2 ^ min (Int.toNat fine) (IntKind.bits IntKind.i64))]).bind fun r0 =>
    (f134 k q [i]).bind fun r1 =>
    (f133 k r0 r1).bind fun r2 =>
    some r2
  else
    none
def s77 : Spec := ⟨false, [(.slice 3 (.int .i64), false)], true, .slice 3 (.int .i64), fun k xs => match xs with | [.slc 3 (.int .i64) p, .slc 3 (.int .i64) q, .int .i64 i, .int .i64 fine] => f77 k p q i fine | _ => none⟩
def env63 : List (FuncId × Spec) := (77, s77) :: env62
theorem v77 (k : Nat) (p : List (Int)) (q : List (Int)) (i : Int) (fine : Int) : runFn ti (envOf env62) 19 [] (finT ti true Go.Proofs.Try.f77.results.toList [(.slice 3 (.int .i64), false)] (.slice 3 (.int .i64))) k (bodyOf Go.Proofs.Try.f77) (initS 0 [.slc 3 (.int .i64) p, .slc 3 (.int .i64) q, .int .i64 i, .int .i64 fine]) = f77 k p q i fine := by kernel_rfl
theorem m77 : Meets Go.Proofs.Try.prog 77 s77 := meets_of_run tiOk env62_ok mo Go.Proofs.Try.func77 (body := bodyOf Go.Proofs.Try.f77) (by kernel_rfl) (N := 19) (by kernel_rfl) (hs := []) (by
  intro k xs r h
  unfold s77 at h
  dsimp only at h
  split at h
  · exact ⟨Nat.le_of_ble_eq_true rfl, (v77 k _ _ _ _).trans h⟩
  · cases h)
theorem env63_ok : EnvOk Go.Proofs.Try.prog (envOf env63) := envOf_cons m77 Go.Proofs.Try.func77 (by kernel_rfl) (by kernel_rfl) env62_ok

-- impl.long).times
def h192 : Hints := [(1004, .lab [(1, .one (.v)), (4, .box 193 [.v, .v]), (5, .box 193 [.v, .own 224 (Ty.int IntKind.u32)]), (6, .one (.v)), (16, .one (.frz 224 (Ty.int IntKind.u32))), (17, .one (.v)), (18, .one (.v))])]
def F192_1004 (k : Nat) (rec1004 : Int → Bool → Bool → List Int → Int → List Int → Int → Int → Option (Bool × List (Int))) (n : Int) (t4s_0 : Bool) (outs_0 : Bool) (outs : List Int) (carry : Int) (t16 : List Int) (t17 : Int) (t18 : Int) : Option (Bool × List (Int)) :=
  bif decide (t18 < t17) then
    bif boundA t18 (List.length t16) then
      (f234 k n).bind fun r0 =>
      bif decide ((List.length outs + List.length [IntKind.wrap IntKind.u32 (IntKind.wrap IntKind.u64 (carry + IntKind.wrap IntKind.u64 (IntKind.wrap IntKind.u64 (List.getD t16 (Int.toNat t18) 0) * r0)))]) * 4 ≤ 140737488355328) then
        rec1004 n t4s_0 outs_0 (outs ++ [IntKind.wrap IntKind.u32 (IntKind.wrap IntKind.u64 (carry + IntKind.wrap IntKind.u64 (IntKind.wrap IntKind.u64 (List.getD t16 (Int.toNat t18) 0) * r0)))]) (Int.fdiv (IntKind.wrap IntKind.u64 (carry + IntKind.wrap IntKind.u64 (IntKind.wrap IntKind.u64 (List.getD t16 (Int.toNat t18) 0) * r0))) (2 ^ min (Int.toNat 32) (IntKind.bits IntKind.u64))) t16 t17 (IntKind.wrap IntKind.i64 (t18 + 1))
      else
        none
    else
      none
  else
    bif decide ((List.length outs + List.length [IntKind.wrap IntKind.u32 carry]) * 4 ≤ 140737488355328) then
      some ((outs_0, outs ++ [IntKind.wrap IntKind.u32 carry]))
    else
      none
def F192 (k : Nat) (rec1004 : Int → Bool → Bool → List Int → Int → List Int → Int → Int → Option (Bool × List (Int))) (a_negative : Bool) (a_digits : List (Int)) (n : Int) : Option (Bool × List (Int)) :=
  rec1004 n false (!a_negative == decide (n < 0)) ([]) (0) a_digits ((↑(List.length a_digits) : Int)) (0)
def l192 : Nat → (Int → Bool → Bool → List Int → Int → List Int → Int → Int → Option (Bool × List (Int)))
  | 0 => fun _ _ _ _ _ _ _ _ => none
  | k + 1 => F192_1004 k (l192 k)
def f192 (k : Nat) (a_negative : Bool) (a_digits : List (Int)) (n : Int) : Option (Bool × List (Int)) := F192 k (l192 k) a_negative a_digits n
def s192 : Spec := ⟨false, [(.pair (.bool) (.slice 224 (.int .u32)), true)], true, .pair (.bool) (.slice 224 (.int .u32)), fun k xs => match xs with | [.agg [.bool a_negative, .slc 224 (.int .u32) a_digits], .int .i64 n] => f192 k a_negative a_digits n | _ => none⟩
def env64 : List (FuncId × Spec) := (192, s192) :: env63
noncomputable abbrev x192 := exec ti (envOf env63) 47 h192 (finT ti true Go.Proofs.Try.f192.results.toList [(.pair (.bool) (.slice 224 (.int .u32)), true)] (.pair (.bool) (.slice 224 (.int .u32))))
noncomputable def k192_1004 : List It := stackAt [.r, .r, .r, .l, .r, .b, .lb none] (bodyOf Go.Proofs.Try.f192) []
def t192_1004 (n : Int) (t4s_0 : Bool) (outs_0 : Bool) (outs : List Int) (carry : Int) (t16 : List Int) (t17 : Int) (t18 : Int) : St := [(2, Cell.val (AVal.int IntKind.i64 n)), (8, Cell.val (AVal.ptr 3 0)), (3, Cell.mem true 193 [AVal.bool t4s_0, AVal.nilslc]), (10, Cell.val (AVal.ptr 5 0)), (5, Cell.mem true 193 [AVal.bool outs_0, AVal.ref 7 none]), (7, Cell.row true 224 (Ty.int IntKind.u32) outs), (12, Cell.val (AVal.int IntKind.u64 carry)), (32, Cell.val (AVal.slc 224 (Ty.int IntKind.u32) t16)), (34, Cell.val (AVal.int IntKind.i64 t17)), (36, Cell.val (AVal.int IntKind.i64 t18))]
theorem e192_1004 (k : Nat) (n : Int) (t4s_0 : Bool) (outs_0 : Bool) (outs : List Int) (carry : Int) (t16 : List Int) (t17 : Int) (t18 : Int) : x192 (k + 1) k192_1004 (t192_1004 n t4s_0 outs_0 outs carry t16 t17 t18) = F192_1004 k (fun (n : Int) (t4s_0 : Bool) (outs_0 : Bool) (outs : List Int) (carry : Int) (t16 : List Int) (t17 : Int) (t18 : Int) => x192 k k192_1004 (t192_1004 n t4s_0 outs_0 outs carry t16 t17 t18)) n t4s_0 outs_0 outs carry t16 t17 t18 := by kernel_rfl
theorem q192 : ∀ k : Nat, (fun (n : Int) (t4s_0 : Bool) (outs_0 : Bool) (outs : List Int) (carry : Int) (t16 : List Int) (t17 : Int) (t18 : Int) => x192 k k192_1004 (t192_1004 n t4s_0 outs_0 outs carry t16 t17 t18)) = l192 k
  | 0 => rfl
  | k + 1 => by
    have h := q192 k
    show _ = F192_1004 k (l192 k)
    rw [← h]
    exact (funext fun n => funext fun t4s_0 => funext fun outs_0 => funext fun outs => funext fun carry => funext fun t16 => funext fun t17 => funext fun t18 => e192_1004 k n t4s_0 outs_0 outs carry t16 t17 t18)
theorem w192 (k : Nat) (a_negative : Bool) (a_digits : List (Int)) (n : Int) : runFn ti (envOf env63) 47 h192 (finT ti true Go.Proofs.Try.f192.results.toList [(.pair (.bool) (.slice 224 (.int .u32)), true)] (.pair (.bool) (.slice 224 (.int .u32)))) k (bodyOf Go.Proofs.Try.f192) (initS 0 [.agg [.bool a_negative, .slc 224 (.int .u32) a_digits], .int .i64 n]) = F192 k (fun (n : Int) (t4s_0 : Bool) (outs_0 : Bool) (outs : List Int) (carry : Int) (t16 : List Int) (t17 : Int) (t18 : Int) => x192 k k192_1004 (t192_1004 n t4s_0 outs_0 outs carry t16 t17 t18)) a_negative a_digits n := by kernel_rfl
theorem v192 (k : Nat) (a_negative : Bool) (a_digits : List (Int)) (n : Int) : runFn ti (envOf env63) 47 h192 (finT ti true Go.Proofs.Try.f192.results.toList [(.pair (.bool) (.slice 224 (.int .u32)), true)] (.pair (.bool) (.slice 224 (.int .u32)))) k (bodyOf Go.Proofs.Try.f192) (initS 0 [.agg [.bool a_negative, .slc 224 (.int .u32) a_digits], .int .i64 n]) = f192 k a_negative a_digits n := by
  rw [w192]
  have h := q192 k
  unfold f192
  rw [← h]
theorem m192 : Meets Go.Proofs.Try.prog 192 s192 := meets_of_run tiOk env63_ok mo Go.Proofs.Try.func192 (body := bodyOf Go.Proofs.Try.f192) (by kernel_rfl) (N := 47) (by kernel_rfl) (hs := h192) (by
  intro k xs r h
  unfold s192 at h
  dsimp only at h
  split at h
  · exact ⟨Nat.le_of_ble_eq_true rfl, (v192 k _ _ _).trans h⟩
  · cases h)
theorem env64_ok : EnvOk Go.Proofs.Try.prog (envOf env64) := envOf_cons m192 Go.Proofs.Try.func192 (by kernel_rfl) (by kernel_rfl) env63_ok

-- impl.long).digit
def f242 (k : Nat) (a_negative : Bool) (a_digits : List (Int)) (i : Int) : Option (Int) :=
  bif decide (i < (↑(List.length a_digits) : Int)) then
    bif boundA i (List.length a_digits) then
      some (List.getD a_digits (Int.toNat i) 0)
    else
      none
  else
    some (0)
def s242 : Spec := ⟨false, [(.int .u32, false)], true, .int .u32, fun k xs => match xs with | [.agg [.bool a_negative, .slc 224 (.int .u32) a_digits], .int .i64 i] => f242 k a_negative a_digits i | _ => none⟩
def env65 : List (FuncId × Spec) := (242, s242) :: env64
theorem v242 (k : Nat) (a_negative : Bool) (a_digits : List (Int)) (i : Int) : runFn ti (envOf env64) 15 [] (finT ti true Go.Proofs.Try.f242.results.toList [(.int .u32, false)] (.int .u32)) k (bodyOf Go.Proofs.Try.f242) (initS 0 [.agg [.bool a_negative, .slc 224 (.int .u32) a_digits], .int .i64 i]) = f242 k a_negative a_digits i := by kernel_rfl
theorem m242 : Meets Go.Proofs.Try.prog 242 s242 := meets_of_run tiOk env64_ok mo Go.Proofs.Try.func242 (body := bodyOf Go.Proofs.Try.f242) (by kernel_rfl) (N := 15) (by kernel_rfl) (hs := []) (by
  intro k xs r h
  unfold s242 at h
  dsimp only at h
  split at h
  · exact ⟨Nat.le_of_ble_eq_true rfl, (v242 k _ _ _).trans h⟩
  · cases h)
theorem env65_ok : EnvOk Go.Proofs.Try.prog (envOf env65) := envOf_cons m242 Go.Proofs.Try.func242 (by kernel_rfl) (by kernel_rfl) env64_ok

-- cmp.isNaN[uint32]
def f286 (k : Nat) (x : Int) : Option (Bool) :=
  some (!decide (x = x))
def s286 : Spec := ⟨false, [(.bool, false)], true, .bool, fun k xs => match xs with | [.int .u32 x] => f286 k x | _ => none⟩
def env66 : List (FuncId × Spec) := (286, s286) :: env65
theorem v286 (k : Nat) (x : Int) : runFn ti (envOf env65) 6 [] (finT ti true Go.Proofs.Try.f286.results.toList [(.bool, false)] (.bool)) k (bodyOf Go.Proofs.Try.f286) (initS 0 [.int .u32 x]) = f286 k x := by kernel_rfl
theorem m286 : Meets Go.Proofs.Try.prog 286 s286 := meets_of_run tiOk env65_ok mo Go.Proofs.Try.func286 (body := bodyOf Go.Proofs.Try.f286) (by kernel_rfl) (N := 6) (by kernel_rfl) (hs := []) (by
  intro k xs r h
  unfold s286 at h
  dsimp only at h
  split at h
  · exact ⟨Nat.le_of_ble_eq_true rfl, (v286 k _).trans h⟩
  · cases h)
theorem env66_ok : EnvOk Go.Proofs.Try.prog (envOf env66) := envOf_cons m286 Go.Proofs.Try.func286 (by kernel_rfl) (by kernel_rfl) env65_ok

-- cmp.Compare[uint32]
def f273 (k : Nat) (x : Int) (y : Int) : Option (Int) :=
  bif !decide (x = x) then
    bif !decide (y = y) then
      some (0)
    else
      some (-1)
  else
    bif !decide (y = y) then
      some (1)
    else
      bif decide (x < y) then
        some (-1)
      else
        bif decide (y < x) then
          some (1)
        else
          some (0)
def s273 : Spec := ⟨false, [(.int .i64, false)], true, .int .i64, fun k xs => match xs with | [.int .u32 x, .int .u32 y] => f273 k x y | _ => none⟩
def env67 : List (FuncId × Spec) := (273, s273) :: env66
theorem v273 (k : Nat) (x : Int) (y : Int) : runFn ti (envOf env66) 20 [] (finT ti true Go.Proofs.Try.f273.results.toList [(.int .i64, false)] (.int .i64)) k (bodyOf Go.Proofs.Try.f273) (initS 0 [.int .u32 x, .int .u32 y]) = f273 k x y := by kernel_rfl
theorem m273 : Meets Go.Proofs.Try.prog 273 s273 := meets_of_run tiOk env66_ok mo Go.Proofs.Try.func273 (body := bodyOf Go.Proofs.Try.f273) (by kernel_rfl) (N := 20) (by kernel_rfl) (hs := []) (by
  intro k xs r h
  unfold s273 at h
  dsimp only at h
  split at h
  · exact ⟨Nat.le_of_ble_eq_true rfl, (v273 k _ _).trans h⟩
  · cases h)
theorem env67_ok : EnvOk Go.Proofs.Try.prog (envOf env67) := envOf_cons m273 Go.Proofs.Try.func273 (by kernel_rfl) (by kernel_rfl) env66_ok

-- impl.compareDigits
def h241 : Hints := [(1002, .lab [(2, .box 193 [.v, .frz 224 (Ty.int IntKind.u32)]), (3, .box 193 [.v, .frz 224 (Ty.int IntKind.u32)]), (5, .one (.v))])]
def F241_1002 (k : Nat) (rec1002 : Bool → List Int → Bool → List Int → Int → Option (Int)) (as_0 : Bool) (as_1 : List Int) (bs_0 : Bool) (bs_1 : List Int) (i : Int) : Option (Int) :=
  bif decide (0 ≤ i) then
    (f242 k as_0 as_1 i).bind fun r0 =>
    (f242 k bs_0 bs_1 i).bind fun r1 =>
    (f273 k r0 r1).bind fun r2 =>
    bif !decide (r2 = 0) then
      some r2
    else
      rec1002 as_0 as_1 bs_0 bs_1 (IntKind.wrap IntKind.i64 (i - 1))
  else
    some (0)
def F241 (k : Nat) (rec1002 : Bool → List Int → Bool → List Int → Int → Option (Int)) (a_negative : Bool) (a_digits : List (Int)) (b_negative : Bool) (b_digits : List (Int)) : Option (Int) :=
  rec1002 a_negative a_digits b_negative b_digits (IntKind.wrap IntKind.i64 ((bif decide ((↑(List.length a_digits) : Int) < (↑(List.length b_digits) : Int)) then (↑(List.length b_digits) : Int) else (↑(List.length a_digits) : Int)) - 1))
def l241 : Nat → (Bool → List Int → Bool → List Int → Int → Option (Int))
  | 0 => fun _ _ _ _ _ => none
  | k + 1 => F241_1002 k (l241 k)
def f241 (k : Nat) (a_negative : Bool) (a_digits : List (Int)) (b_negative : Bool) (b_digits : List (Int)) : Option (Int) := F241 k (l241 k) a_negative a_digits b_negative b_digits
def s241 : Spec := ⟨false, [(.int .i64, false)], true, .int .i64, fun k xs => match xs with | [.agg [.bool a_negative, .slc 224 (.int .u32) a_digits], .agg [.bool b_negative, .slc 224 (.int .u32) b_digits]] => f241 k a_negative a_digits b_negative b_digits | _ => none⟩
def env68 : List (FuncId × Spec) := (241, s241) :: env67
noncomputable abbrev x241 := exec ti (envOf env67) 29 h241 (finT ti true Go.Proofs.Try.f241.results.toList [(.int .i64, false)] (.int .i64))
noncomputable def k241_1002 : List It := stackAt [.r, .l, .r, .b, .lb none] (bodyOf Go.Proofs.Try.f241) []
def t241_1002 (as_0 : Bool) (as_1 : List Int) (bs_0 : Bool) (bs_1 : List Int) (i : Int) : St := [(4, Cell.val (AVal.ptr 3 0)), (3, Cell.mem true 193 [AVal.bool as_0, AVal.slc 224 (Ty.int IntKind.u32) as_1]), (6, Cell.val (AVal.ptr 5 0)), (5, Cell.mem true 193 [AVal.bool bs_0, AVal.slc 224 (Ty.int IntKind.u32) bs_1]), (10, Cell.val (AVal.int IntKind.i64 i))]
theorem e241_1002 (k : Nat) (as_0 : Bool) (as_1 : List Int) (bs_0 : Bool) (bs_1 : List Int) (i : Int) : x241 (k + 1) k241_1002 (t241_1002 as_0 as_1 bs_0 bs_1 i) = F241_1002 k (fun (as_0 : Bool) (as_1 : List Int) (bs_0 : Bool) (bs_1 : List Int) (i : Int) => x241 k k241_1002 (t241_1002 as_0 as_1 bs_0 bs_1 i)) as_0 as_1 bs_0 bs_1 i := by kernel_rfl
theorem q241 : ∀ k : Nat, (fun (as_0 : Bool) (as_1 : List Int) (bs_0 : Bool) (bs_1 : List Int) (i : Int) => x241 k k241_1002 (t241_1002 as_0 as_1 bs_0 bs_1 i)) = l241 k
  | 0 => rfl
  | k + 1 => by
    have h := q241 k
    show _ = F241_1002 k (l241 k)
    rw [← h]
    exact (funext fun as_0 => funext fun as_1 => funext fun bs_0 => funext fun bs_1 => funext fun i => e241_1002 k as_0 as_1 bs_0 bs_1 i)
theorem w241 (k : Nat) (a_negative : Bool) (a_digits : List (Int)) (b_negative : Bool) (b_digits : List (Int)) : runFn ti (envOf env67) 29 h241 (finT ti true Go.Proofs.Try.f241.results.toList [(.int .i64, false)] (.int .i64)) k (bodyOf Go.Proofs.Try.f241) (initS 0 [.agg [.bool a_negative, .slc 224 (.int .u32) a_digits], .agg [.bool b_negative, .slc 224 (.int .u32) b_digits]]) = F241 k (fun (as_0 : Bool) (as_1 : List Int) (bs_0 : Bool) (bs_1 : List Int) (i : Int) => x241 k k241_1002 (t241_1002 as_0 as_1 bs_0 bs_1 i)) a_negative a_digits b_negative b_digits := by kernel_rfl
theorem v241 (k : Nat) (a_negative : Bool) (a_digits : List (Int)) (b_negative : Bool) (b_digits : List (Int)) : runFn ti (envOf env67) 29 h241 (finT ti true Go.Proofs.Try.f241.results.toList [(.int .i64, false)] (.int .i64)) k (bodyOf Go.Proofs.Try.f241) (initS 0 [.agg [.bool a_negative, .slc 224 (.int .u32) a_digits], .agg [.bool b_negative, .slc 224 (.int .u32) b_digits]]) = f241 k a_negative a_digits b_negative b_digits := by
  rw [w241]
  have h := q241 k
  unfold f241
  rw [← h]
theorem m241 : Meets Go.Proofs.Try.prog 241 s241 := meets_of_run tiOk env67_ok mo Go.Proofs.Try.func241 (body := bodyOf Go.Proofs.Try.f241) (by kernel_rfl) (N := 29) (by kernel_rfl) (hs := h241) (by
  intro k xs r h
  unfold s241 at h
  dsimp only at h
  split at h
  · exact ⟨Nat.le_of_ble_eq_true rfl, (v241 k _ _ _ _).trans h⟩
  · cases h)
theorem env68_ok : EnvOk Go.Proofs.Try.prog (envOf env68) := envOf_cons m241 Go.Proofs.Try.func241 (by kernel_rfl) (by kernel_rfl) env67_ok

-- impl.long).plus
def h193 : Hints := [(1006, .lab [(2, .box 193 [.v, .frz 224 (Ty.int IntKind.u32)]), (3, .box 193 [.v, .frz 224 (Ty.int IntKind.u32)]), (4, .box 193 [.v, .v]), (5, .box 193 [.v, .own 224 (Ty.int IntKind.u32)]), (6, .one (.v)), (21, .one (.v)), (22, .one (.v))]), (3, .lab [(2, .box 193 [.v, .frz 224 (Ty.int IntKind.u32)]), (3, .box 193 [.v, .frz 224 (Ty.int IntKind.u32)]), (4, .box 193 [.v, .v])])]
def F193_1006 (k : Nat) (rec1006 : Bool → List Int → Bool → List Int → Bool → Bool → List Int → Int → Int → Int → Option (Bool × List (Int))) (rec3 : Bool → List Int → Bool → List Int → Bool → Option (Bool × List (Int))) (as_0 : Bool) (as_1 : List Int) (bs_0 : Bool) (bs_1 : List Int) (t4s_0 : Bool) (outs_0 : Bool) (outs : List Int) (carry : Int) (t21 : Int) (t22 : Int) : Option (Bool × List (Int)) :=
  bif decide (t22 < t21) then
    (f242 k as_0 as_1 t22).bind fun r0 =>
    bif as_0 == bs_0 then
      (f242 k bs_0 bs_1 t22).bind fun r1 =>
      bif decide ((List.length outs + List.length [IntKind.wrap IntKind.u32 (IntKind.wrap IntKind.i64 (IntKind.wrap IntKind.i64 (carry + IntKind.wrap IntKind.i64 r0) + IntKind.wrap IntKind.i64 r1))]) * 4 ≤ 140737488355328) then
        rec1006 as_0 as_1 bs_0 bs_1 t4s_0 outs_0 (outs ++ [IntKind.wrap IntKind.u32 (IntKind.wrap IntKind.i64 (IntKind.wrap IntKind.i64 (carry + IntKind.wrap IntKind.i64 r0) + IntKind.wrap IntKind.i64 r1))]) (Int.fdiv (IntKind.wrap IntKind.i64 (IntKind.wrap IntKind.i64 (carry + IntKind.wrap IntKind.i64 r0) + IntKind.wrap IntKind.i64 r1)) (2 ^ min (Int.toNat 32) (IntKind.bits IntKind.i64))) t21 (IntKind.wrap IntKind.i64 (t22 + 1))
      else
        none
    else
      (f242 k bs_0 bs_1 t22).bind fun r2 =>
      bif decide ((List.length outs + List.length [IntKind.wrap IntKind.u32 (IntKind.wrap IntKind.i64 (IntKind.wrap IntKind.i64 (carry + IntKind.wrap IntKind.i64 r0) - IntKind.wrap IntKind.i64 r2))]) * 4 ≤ 140737488355328) then
        rec1006 as_0 as_1 bs_0 bs_1 t4s_0 outs_0 (outs ++ [IntKind.wrap IntKind.u32 (IntKind.wrap IntKind.i64 (IntKind.wrap IntKind.i64 (carry + IntKind.wrap IntKind.i64 r0) - IntKind.wrap IntKind.i64 r2))]) (Int.fdiv (IntKind.wrap IntKind.i64 (IntKind.wrap IntKind.i64 (carry + IntKind.wrap IntKind.i64 r0) - IntKind.wrap IntKind.i64 r2)) (2 ^ min (Int.toNat 32) (IntKind.bits IntKind.i64))) t21 (IntKind.wrap IntKind.i64 (t22 + 1))
      else
        none
  else
    some ((outs_0, outs))
def F193_3 (k : Nat) (rec1006 : Bool → List Int → Bool → List Int → Bool → Bool → List Int → Int → Int → Int → Option (Bool × List (Int))) (rec3 : Bool → List Int → Bool → List Int → Bool → Option (Bool × List (Int))) (as_0 : Bool) (as_1 : List Int) (bs_0 : Bool) (bs_1 : List Int) (t4s_0 : Bool) : Option (Bool × List (Int)) :=
  rec1006 as_0 as_1 bs_0 bs_1 t4s_0 as_0 ([]) (0) (IntKind.wrap IntKind.i64 ((↑(List.length as_1) : Int) + 1)) (0)
def F193 (k : Nat) (rec1006 : Bool → List Int → Bool → List Int → Bool → Bool → List Int → Int → Int → Int → Option (Bool × List (Int))) (rec3 : Bool → List Int → Bool → List Int → Bool → Option (Bool × List (Int))) (a_negative : Bool) (a_digits : List (Int)) (b_negative : Bool) (b_digits : List (Int)) : Option (Bool × List (Int)) :=
  (f241 k a_negative a_digits b_negative b_digits).bind fun r0 =>
  bif decide (r0 < 0) then
    rec3 b_negative b_digits a_negative a_digits false
  else
    rec3 a_negative a_digits b_negative b_digits false
def l193 : Nat → (Bool → List Int → Bool → List Int → Bool → Bool → List Int → Int → Int → Int → Option (Bool × List (Int))) × (Bool → List Int → Bool → List Int → Bool → Option (Bool × List (Int)))
  | 0 => (fun _ _ _ _ _ _ _ _ _ _ => none, fun _ _ _ _ _ => none)
  | k + 1 => (F193_1006 k ((l193 k).1) ((l193 k).2), F193_3 k ((l193 k).1) ((l193 k).2))
def f193 (k : Nat) (a_negative : Bool) (a_digits : List (Int)) (b_negative : Bool) (b_digits : List (Int)) : Option (Bool × List (Int)) := F193 k ((l193 k).1) ((l193 k).2) a_negative a_digits b_negative b_digits
def s193 : Spec := ⟨false, [(.pair (.bool) (.slice 224 (.int .u32)), true)], true, .pair (.bool) (.slice 224 (.int .u32)), fun k xs => match xs with | [.agg [.bool a_negative, .slc 224 (.int .u32) a_digits], .agg [.bool b_negative, .slc 224 (.int .u32) b_digits]] => f193 k a_negative a_digits b_negative b_digits | _ => none⟩
def env69 : List (FuncId × Spec) := (193, s193) :: env68
noncomputable abbrev x193 := exec ti (envOf env68) 59 h193 (finT ti true Go.Proofs.Try.f193.results.toList [(.pair (.bool) (.slice 224 (.int .u32)), true)] (.pair (.bool) (.slice 224 (.int .u32))))
noncomputable def k193_1006 : List It := stackAt [.r, .r, .r, .r, .l, .r, .b, .lb none] (bodyOf Go.Proofs.Try.f193) []
def t193_1006 (as_0 : Bool) (as_1 : List Int) (bs_0 : Bool) (bs_1 : List Int) (t4s_0 : Bool) (outs_0 : Bool) (outs : List Int) (carry : Int) (t21 : Int) (t22 : Int) : St := [(4, Cell.val (AVal.ptr 3 0)), (3, Cell.mem true 193 [AVal.bool as_0, AVal.slc 224 (Ty.int IntKind.u32) as_1]), (6, Cell.val (AVal.ptr 5 0)), (5, Cell.mem true 193 [AVal.bool bs_0, AVal.slc 224 (Ty.int IntKind.u32) bs_1]), (8, Cell.val (AVal.ptr 7 0)), (7, Cell.mem true 193 [AVal.bool t4s_0, AVal.nilslc]), (10, Cell.val (AVal.ptr 9 0)), (9, Cell.mem true 193 [AVal.bool outs_0, AVal.ref 11 none]), (11, Cell.row true 224 (Ty.int IntKind.u32) outs), (12, Cell.val (AVal.int IntKind.i64 carry)), (42, Cell.val (AVal.int IntKind.i64 t21)), (44, Cell.val (AVal.int IntKind.i64 t22))]
noncomputable def k193_3 : List It := stackAt [.r, .r, .l] (bodyOf Go.Proofs.Try.f193) []
def t193_3 (as_0 : Bool) (as_1 : List Int) (bs_0 : Bool) (bs_1 : List Int) (t4s_0 : Bool) : St := [(4, Cell.val (AVal.ptr 3 0)), (3, Cell.mem true 193 [AVal.bool as_0, AVal.slc 224 (Ty.int IntKind.u32) as_1]), (6, Cell.val (AVal.ptr 5 0)), (5, Cell.mem true 193 [AVal.bool bs_0, AVal.slc 224 (Ty.int IntKind.u32) bs_1]), (8, Cell.val (AVal.ptr 7 0)), (7, Cell.mem true 193 [AVal.bool t4s_0, AVal.nilslc])]
theorem e193_1006 (k : Nat) (as_0 : Bool) (as_1 : List Int) (bs_0 : Bool) (bs_1 : List Int) (t4s_0 : Bool) (outs_0 : Bool) (outs : List Int) (carry : Int) (t21 : Int) (t22 : Int) : x193 (k + 1) k193_1006 (t193_1006 as_0 as_1 bs_0 bs_1 t4s_0 outs_0 outs carry t21 t22) = F193_1006 k (fun (as_0 : Bool) (as_1 : List Int) (bs_0 : Bool) (bs_1 : List Int) (t4s_0 : Bool) (outs_0 : Bool) (outs : List Int) (carry : Int) (t21 : Int) (t22 : Int) => x193 k k193_1006 (t193_1006 as_0 as_1 bs_0 bs_1 t4s_0 outs_0 outs carry t21 t22)) (fun (as_0 : Bool) (as_1 : List Int) (bs_0 : Bool) (bs_1 : List Int) (t4s_0 : Bool) => x193 k k193_3 (t193_3 as_0 as_1 bs_0 bs_1 t4s_0)) as_0 as_1 bs_0 bs_1 t4s_0 outs_0 outs carry t21 t22 := by kernel_rfl
theorem e193_3 (k : Nat) (as_0 : Bool) (as_1 : List Int) (bs_0 : Bool) (bs_1 : List Int) (t4s_0 : Bool) : x193 (k + 1) k193_3 (t193_3 as_0 as_1 bs_0 bs_1 t4s_0) = F193_3 k (fun (as_0 : Bool) (as_1 : List Int) (bs_0 : Bool) (bs_1 : List Int) (t4s_0 : Bool) (outs_0 : Bool) (outs : List Int) (carry : Int) (t21 : Int) (t22 : Int) => x193 k k193_1006 (t193_1006 as_0 as_1 bs_0 bs_1 t4s_0 outs_0 outs carry t21 t22)) (fun (as_0 : Bool) (as_1 : List Int) (bs_0 : Bool) (bs_1 : List Int) (t4s_0 : Bool) => x193 k k193_3 (t193_3 as_0 as_1 bs_0 bs_1 t4s_0)) as_0 as_1 bs_0 bs_1 t4s_0 := by kernel_rfl
theorem q193 : ∀ k : Nat, ((fun (as_0 : Bool) (as_1 : List Int) (bs_0 : Bool) (bs_1 : List Int) (t4s_0 : Bool) (outs_0 : Bool) (outs : List Int) (carry : Int) (t21 : Int) (t22 : Int) => x193 k k193_1006 (t193_1006 as_0 as_1 bs_0 bs_1 t4s_0 outs_0 outs carry t21 t22)), (fun (as_0 : Bool) (as_1 : List Int) (bs_0 : Bool) (bs_1 : List Int) (t4s_0 : Bool) => x193 k k193_3 (t193_3 as_0 as_1 bs_0 bs_1 t4s_0))) = l193 k
  | 0 => rfl
  | k + 1 => by
    have h := q193 k
    show _ = (F193_1006 k ((l193 k).1) ((l193 k).2), F193_3 k ((l193 k).1) ((l193 k).2))
    rw [← h]
    exact (Prod.ext (funext fun as_0 => funext fun as_1 => funext fun bs_0 => funext fun bs_1 => funext fun t4s_0 => funext fun outs_0 => funext fun outs => funext fun carry => funext fun t21 => funext fun t22 => e193_1006 k as_0 as_1 bs_0 bs_1 t4s_0 outs_0 outs carry t21 t22) (funext fun as_0 => funext fun as_1 => funext fun bs_0 => funext fun bs_1 => funext fun t4s_0 => e193_3 k as_0 as_1 bs_0 bs_1 t4s_0))
theorem w193 (k : Nat) (a_negative : Bool) (a_digits : List (Int)) (b_negative : Bool) (b_digits : List (Int)) : runFn ti (envOf env68) 59 h193 (finT ti true Go.Proofs.Try.f193.results.toList [(.pair (.bool) (.slice 224 (.int .u32)), true)] (.pair (.bool) (.slice 224 (.int .u32)))) k (bodyOf Go.Proofs.Try.f193) (initS 0 [.agg [.bool a_negative, .slc 224 (.int .u32) a_digits], .agg [.bool b_negative, .slc 224 (.int .u32) b_digits]]) = F193 k (fun (as_0 : Bool) (as_1 : List Int) (bs_0 : Bool) (bs_1 : List Int) (t4s_0 : Bool) (outs_0 : Bool) (outs : List Int) (carry : Int) (t21 : Int) (t22 : Int) => x193 k k193_1006 (t193_1006 as_0 as_1 bs_0 bs_1 t4s_0 outs_0 outs carry t21 t22)) (fun (as_0 : Bool) (as_1 : List Int) (bs_0 : Bool) (bs_1 : List Int) (t4s_0 : Bool) => x193 k k193_3 (t193_3 as_0 as_1 bs_0 bs_1 t4s_0)) a_negative a_digits b_negative b_digits := by kernel_rfl
theorem v193 (k : Nat) (a_negative : Bool) (a_digits : List (Int)) (b_negative : Bool) (b_digits : List (Int)) : runFn ti (envOf env68) 59 h193 (finT ti true Go.Proofs.Try.f193.results.toList [(.pair (.bool) (.slice 224 (.int .u32)), true)] (.pair (.bool) (.slice 224 (.int .u32)))) k (bodyOf Go.Proofs.Try.f193) (initS 0 [.agg [.bool a_negative, .slc 224 (.int .u32) a_digits], .agg [.bool b_negative, .slc 224 (.int .u32) b_digits]]) = f193 k a_negative a_digits b_negative b_digits := by
  rw [w193]
  have h := q193 k
  unfold f193
  rw [← h]
theorem m193 : Meets Go.Proofs.Try.prog 193 s193 := meets_of_run tiOk env68_ok mo Go.Proofs.Try.func193 (body := bodyOf Go.Proofs.Try.f193) (by kernel_rfl) (N := 59) (by kernel_rfl) (hs := h193) (by
  intro k xs r h
  unfold s193 at h
  dsimp only at h
  split at h
  · exact ⟨Nat.le_of_ble_eq_true rfl, (v193 k _ _ _ _).trans h⟩
  · cases h)
theorem env69_ok : EnvOk Go.Proofs.Try.prog (envOf env69) := envOf_cons m193 Go.Proofs.Try.func193 (by kernel_rfl) (by kernel_rfl) env68_ok

-- impl.longOf
def f194 (k : Nat) (n : Int) (k_ : Int) : Option (Bool × List (Int)) :=
  (f234 k n).bind fun r0 =>
  bif !decide (Int.tmod k_ 32 < 0) then
    bif decide (0 < Int.tmod k_ 32) then
      (f234 k n).bind fun r1 =>
      bif !decide (IntKind.wrap IntKind.i64 (64 - Int.tmod k_ 32) < 0) then
        bif decide (0 ≤ IntKind.wrap IntKind.i64 (Int.tdiv k_ 32)) then
          bif decide (IntKind.wrap IntKind.i64 (Int.tdiv k_ 32) ≤ IntKind.wrap IntKind.i64 (Int.tdiv k_ 32)) then
            bif decide (IntKind.wrap IntKind.i64 (Int.tdiv k_ 32) * (↑4 : Int) ≤ 140737488355328) then
              bif decide
  ((List.length
          (match none with
          | none => List.replicate (Int.toNat (IntKind.wrap IntKind.i64 (Int.tdiv k_ 32))) (dflt (Ty.int IntKind.u32))
          | some m => List.take m (List.replicate (Int.toNat (IntKind.wrap IntKind.i64 (Int.tdiv k_ 32))) (dflt (Ty.int IntKind.u32)))) +
        List.length [IntKind.wrap IntKind.u32 (IntKind.wrap IntKind.u64 (r0 * 2 ^ min (Int.toNat (Int.tmod k_ 32)) (IntKind.bits IntKind.u64))), IntKind.wrap IntKind.u32 (Int.fdiv (IntKind.wrap IntKind.u64 (r0 * 2 ^ min (Int.toNat (Int.tmod k_ 32)) (IntKind.bits IntKind.u64))) (2 ^ min (Int.toNat 32) (IntKind.bits IntKind.u64))), IntKind.wrap IntKind.u32 (Int.fdiv r1 (2 ^ min (Int.toNat (IntKind.wrap IntKind.i64 (64 - Int.tmod k_ 32))) (IntKind.bits IntKind.u64)))]) *
      4 ≤
    140737488355328) then
                some ((decide (n < 0),
  (match none with
    | none => List.replicate (Int.toNat (IntKind.wrap IntKind.i64 (Int.tdiv k_ 32))) (dflt (Ty.int IntKind.u32))
    | some m => List.take m (List.replicate (Int.toNat (IntKind.wrap IntKind.i64 (Int.tdiv k_ 32))) (dflt (Ty.int IntKind.u32)))) ++
    [IntKind.wrap IntKind.u32 (IntKind.wrap IntKind.u64 (r0 * 2 ^ min (Int.toNat (Int.tmod k_ 32)) (IntKind.bits IntKind.u64))), IntKind.wrap IntKind.u32 (Int.fdiv (IntKind.wrap IntKind.u64 (r0 * 2 ^ min (Int.toNat (Int.tmod k_ 32)) (IntKind.bits IntKind.u64))) (2 ^ min (Int.toNat 32) (IntKind.bits IntKind.u64))), IntKind.wrap IntKind.u32 (Int.fdiv r1 (2 ^ min (Int.toNat (IntKind.wrap IntKind.i64 (64 - Int.tmod k_ 32))) (IntKind.bits IntKind.u64)))]))
              else
                none
            else
              none
          else
            none
        else
          none
      else
        none
    else
      bif decide (0 ≤ IntKind.wrap IntKind.i64 (Int.tdiv k_ 32)) then
        bif decide (IntKind.wrap IntKind.i64 (Int.tdiv k_ 32) ≤ IntKind.wrap IntKind.i64 (Int.tdiv k_ 32)) then
          bif decide (IntKind.wrap IntKind.i64 (Int.tdiv k_ 32) * (↑4 : Int) ≤ 140737488355328) then
            bif decide
  ((List.length
          (match none with
          | none => List.replicate (Int.toNat (IntKind.wrap IntKind.i64 (Int.tdiv k_ 32))) (dflt (Ty.int IntKind.u32))
          | some m => List.take m (List.replicate (Int.toNat (IntKind.wrap IntKind.i64 (Int.tdiv k_ 32))) (dflt (Ty.int IntKind.u32)))) +
        List.length [IntKind.wrap IntKind.u32 (IntKind.wrap IntKind.u64 (r0 * 2 ^ min (Int.toNat (Int.tmod k_ 32)) (IntKind.bits IntKind.u64))), IntKind.wrap IntKind.u32 (Int.fdiv (IntKind.wrap IntKind.u64 (r0 * 2 ^ min (Int.toNat (Int.tmod k_ 32)) (IntKind.bits IntKind.u64))) (2 ^ min (Int.toNat 32) (IntKind.bits IntKind.u64))), IntKind.wrap IntKind.u32 0]) *
      4 ≤
    140737488355328) then
              some ((decide (n < 0),
  (match none with
    | none => List.replicate (Int.toNat (IntKind.wrap IntKind.i64 (Int.tdiv k_ 32))) (dflt (Ty.int IntKind.u32))
    | some m => List.take m (List.replicate (Int.toNat (IntKind.wrap IntKind.i64 (Int.tdiv k_ 32))) (dflt (Ty.int IntKind.u32)))) ++
    [IntKind.wrap IntKind.u32 (IntKind.wrap IntKind.u64 (r0 * 2 ^ min (Int.toNat (Int.tmod k_ 32)) (IntKind.bits IntKind.u64))), IntKind.wrap IntKind.u32 (Int.fdiv (IntKind.wrap IntKind.u64 (r0 * 2 ^ min (Int.toNat (Int.tmod k_ 32)) (IntKind.bits IntKind.u64))) (2 ^ min (Int.toNat 32) (IntKind.bits IntKind.u64))), IntKind.wrap IntKind.u32 0]))
            else
              none
          else
            none
        else
          none
      else
        none
  else
    none
def s194 : Spec := ⟨false, [(.pair (.bool) (.slice 224 (.int .u32)), true)], true, .pair (.bool) (.slice 224 (.int .u32)), fun k xs => match xs with | [.int .i64 n, .int .i64 k_] => f194 k n k_ | _ => none⟩
def env70 : List (FuncId × Spec) := (194, s194) :: env69
theorem v194 (k : Nat) (n : Int) (k_ : Int) : runFn ti (envOf env69) 38 [] (finT ti true Go.Proofs.Try.f194.results.toList [(.pair (.bool) (.slice 224 (.int .u32)), true)] (.pair (.bool) (.slice 224 (.int .u32)))) k (bodyOf Go.Proofs.Try.f194) (initS 0 [.int .i64 n, .int .i64 k_]) = f194 k n k_ := by kernel_rfl
theorem m194 : Meets Go.Proofs.Try.prog 194 s194 := meets_of_run tiOk env69_ok mo Go.Proofs.Try.func194 (body := bodyOf Go.Proofs.Try.f194) (by kernel_rfl) (N := 38) (by kernel_rfl) (hs := []) (by
  intro k xs r h
  unfold s194 at h
  dsimp only at h
  split at h
  · exact ⟨Nat.le_of_ble_eq_true rfl, (v194 k _ _).trans h⟩
  · cases h)
theorem env70_ok : EnvOk Go.Proofs.Try.prog (envOf env70) := envOf_cons m194 Go.Proofs.Try.func194 (by kernel_rfl) (by kernel_rfl) env69_ok

-- impl.long).sign$1
def f244 (k : Nat) (d : Int) : Option (Bool) :=
  some (!decide (d = 0))
def s244 : Spec := ⟨false, [(.bool, false)], true, .bool, fun k xs => match xs with | [.int .u32 d] => f244 k d | _ => none⟩
def env71 : List (FuncId × Spec) := (244, s244) :: env70
theorem v244 (k : Nat) (d : Int) : runFn ti (envOf env70) 5 [] (finT ti true Go.Proofs.Try.f244.results.toList [(.bool, false)] (.bool)) k (bodyOf Go.Proofs.Try.f244) (initS 0 [.int .u32 d]) = f244 k d := by kernel_rfl
theorem m244 : Meets Go.Proofs.Try.prog 244 s244 := meets_of_run tiOk env70_ok mo Go.Proofs.Try.func244 (body := bodyOf Go.Proofs.Try.f244) (by kernel_rfl) (N := 5) (by kernel_rfl) (hs := []) (by
  intro k xs r h
  unfold s244 at h
  dsimp only at h
  split at h
  · exact ⟨Nat.le_of_ble_eq_true rfl, (v244 k _).trans h⟩
  · cases h)
theorem env71_ok : EnvOk Go.Proofs.Try.prog (envOf env71) := envOf_cons m244 Go.Proofs.Try.func244 (by kernel_rfl) (by kernel_rfl) env70_ok

-- slices.IndexFunc[[]uint32,uint32]
def h274_244 : Hints := [(1002, .lab [(0, .one (.frz 224 (Ty.int IntKind.u32))), (1, .one (.v)), (7, .one (.v)), (8, .one (.v))])]
def F274_244_1002 (k : Nat) (rec1002 : List Int → Int → Int → Option (Int)) (s : List Int) (t7 : Int) (t8 : Int) : Option (Int) :=
  bif decide (t8 < t7) then
    bif boundA t8 (List.length s) then
      bif !decide (List.getD s (Int.toNat t8) 0 = 0) then
        some t8
      else
        rec1002 s t7 (IntKind.wrap IntKind.i64 (t8 + 1))
    else
      none
  else
    some (-1)
def F274_244 (k : Nat) (rec1002 : List Int → Int → Int → Option (Int)) (s : List (Int)) : Option (Int) :=
  rec1002 s ((↑(List.length s) : Int)) (0)
def l274_244 : Nat → (List Int → Int → Int → Option (Int))
  | 0 => fun _ _ _ => none
  | k + 1 => F274_244_1002 k (l274_244 k)
def f274_244 (k : Nat) (s : List (Int)) : Option (Int) := F274_244 k (l274_244 k) s
def s274 : Spec := ⟨false, [(.int .i64, false)], true, .int .i64, fun k xs => match xs with | [.slc 224 (.int .u32) s, .fn 244] => f274_244 k s | _ => none⟩
def env72 : List (FuncId × Spec) := (274, s274) :: env71
noncomputable abbrev x274_244 := exec ti (envOf env71) 19 h274_244 (finT ti true Go.Proofs.Try.f274.results.toList [(.int .i64, false)] (.int .i64))
noncomputable def k274_244_1002 : List It := stackAt [.r, .l, .r, .b, .lb none] (bodyOf Go.Proofs.Try.f274) []
def t274_244_1002 (s : List Int) (t7 : Int) (t8 : Int) : St := [(0, Cell.val (AVal.slc 224 (Ty.int IntKind.u32) s)), (2, Cell.val (AVal.fn 244)), (14, Cell.val (AVal.int IntKind.i64 t7)), (16, Cell.val (AVal.int IntKind.i64 t8))]
theorem e274_244_1002 (k : Nat) (s : List Int) (t7 : Int) (t8 : Int) : x274_244 (k + 1) k274_244_1002 (t274_244_1002 s t7 t8) = F274_244_1002 k (fun (s : List Int) (t7 : Int) (t8 : Int) => x274_244 k k274_244_1002 (t274_244_1002 s t7 t8)) s t7 t8 := by kernel_rfl
theorem q274_244 : ∀ k : Nat, (fun (s : List Int) (t7 : Int) (t8 : Int) => x274_244 k k274_244_1002 (t274_244_1002 s t7 t8)) = l274_244 k
  | 0 => rfl
  | k + 1 => by
    have h := q274_244 k
    show _ = F274_244_1002 k (l274_244 k)
    rw [← h]
    exact (funext fun s => funext fun t7 => funext fun t8 => e274_244_1002 k s t7 t8)
theorem w274_244 (k : Nat) (s : List (Int)) : runFn ti (envOf env71) 19 h274_244 (finT ti true Go.Proofs.Try.f274.results.toList [(.int .i64, false)] (.int .i64)) k (bodyOf Go.Proofs.Try.f274) (initS 0 [.slc 224 (.int .u32) s, .fn 244]) = F274_244 k (fun (s : List Int) (t7 : Int) (t8 : Int) => x274_244 k k274_244_1002 (t274_244_1002 s t7 t8)) s := by kernel_rfl
theorem v274_244 (k : Nat) (s : List (Int)) : runFn ti (envOf env71) 19 h274_244 (finT ti true Go.Proofs.Try.f274.results.toList [(.int .i64, false)] (.int .i64)) k (bodyOf Go.Proofs.Try.f274) (initS 0 [.slc 224 (.int .u32) s, .fn 244]) = f274_244 k s := by
  rw [w274_244]
  have h := q274_244 k
  unfold f274_244
  rw [← h]
theorem m274 : Meets Go.Proofs.Try.prog 274 s274 := meets_of_run tiOk env71_ok mo Go.Proofs.Try.func274 (body := bodyOf Go.Proofs.Try.f274) (by kernel_rfl) (N := 19) (by kernel_rfl) (hs := h274_244) (by
  intro k xs r h
  unfold s274 at h
  dsimp only at h
  split at h
  · exact ⟨Nat.le_of_ble_eq_true rfl, (v274_244 k _).trans h⟩
  · cases h)
theorem env72_ok : EnvOk Go.Proofs.Try.prog (envOf env72) := envOf_cons m274 Go.Proofs.Try.func274 (by kernel_rfl) (by kernel_rfl) env71_ok

end Go.Proofs.YtbaeikcfchiiaaaE
