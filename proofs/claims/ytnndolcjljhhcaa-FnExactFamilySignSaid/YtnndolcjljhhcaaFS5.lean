/- Functions, by the engine; printed. -/
import Derived.Test.YtnndolcjljhhcaaFS4
set_option maxRecDepth 100000
set_option maxHeartbeats 4000000
set_option linter.unusedVariables false
namespace Go.Proofs.YtnndolcjljhhcaaE
-- slices.Clone[[]int,int]
def f170 (k : Nat) (s : List (Int)) : Option (List (Int)) :=
  bif decide ((0 + List.length s) * 8 ≤ 140737488355328) then
    some s
  else
    none
def s170 : Spec := ⟨false, [(.slice 3 (.int .i64), false)], true, .slice 3 (.int .i64), fun k xs => match xs with | [.slc 3 (.int .i64) s] => f170 k s | _ => none⟩
def env49 : List (FuncId × Spec) := (170, s170) :: env48
theorem m170 : Meets Go.Proofs.Try.prog 170 s170 := meets_clone (N := 8) tiOk env48_ok mo Go.Proofs.Try.func170 rfl rfl rfl rfl rfl rfl rfl rfl rfl rfl Go.Proofs.Try.underlying22 rfl (Nat.le_of_ble_eq_true rfl) (by
  intro k xs r h
  unfold s170 at h
  dsimp only at h
  split at h
  · rename_i s
    refine ⟨3, (.int .i64), s, rfl, fun hx => ?_, ?_⟩
    · subst hx
      refine Eq.trans ?_ h
      kernel_rfl
    · refine Eq.trans ?_ h
      kernel_rfl
  · cases h)
theorem env49_ok : EnvOk Go.Proofs.Try.prog (envOf env49) := envOf_cons m170 Go.Proofs.Try.func170 (by kernel_rfl) (by kernel_rfl) env48_ok

-- impl.stripped
def h146 : Hints := [(1001, .lab [(0, .one (.frz 3 (Ty.int IntKind.i64)))])]
def F146_1001 (k : Nat) (rec1001 : List Int → Option (List (Int))) (p : List Int) : Option (List (Int)) :=
  bif decide (0 < (↑(List.length p) : Int)) then
    bif boundA (IntKind.wrap IntKind.i64 ((↑(List.length p) : Int) - 1)) (List.length p) then
      bif decide (List.getD p (Int.toNat (IntKind.wrap IntKind.i64 ((↑(List.length p) : Int) - 1))) 0 = 0) then
        bif boundE (IntKind.wrap IntKind.i64 ((↑(List.length p) : Int) - 1)) (List.length p) then
          bif decide (0 ≤ 0) && decide (0 ≤ IntKind.wrap IntKind.i64 ((↑(List.length p) : Int) - 1)) then
            rec1001 (List.drop (Int.toNat 0) (List.take (Int.toNat (IntKind.wrap IntKind.i64 ((↑(List.length p) : Int) - 1))) p))
          else
            none
        else
          none
      else
        (f170 k p).bind fun r0 =>
        some r0
    else
      none
  else
    (f170 k p).bind fun r1 =>
    some r1
def F146 (k : Nat) (rec1001 : List Int → Option (List (Int))) (p : List (Int)) : Option (List (Int)) :=
  rec1001 p
def l146 : Nat → (List Int → Option (List (Int)))
  | 0 => fun _ => none
  | k + 1 => F146_1001 k (l146 k)
def f146 (k : Nat) (p : List (Int)) : Option (List (Int)) := F146 k (l146 k) p
def s146 : Spec := ⟨false, [(.slice 3 (.int .i64), false)], true, .slice 3 (.int .i64), fun k xs => match xs with | [.slc 3 (.int .i64) p] => f146 k p | _ => none⟩
def env50 : List (FuncId × Spec) := (146, s146) :: env49
noncomputable abbrev x146 := exec ti (envOf env49) 22 h146 (finT ti true Go.Proofs.Try.f146.results.toList [(.slice 3 (.int .i64), false)] (.slice 3 (.int .i64)))
noncomputable def k146_1001 : List It := stackAt [.r, .l, .b, .lb none] (bodyOf Go.Proofs.Try.f146) []
def t146_1001 (p : List Int) : St := [(0, Cell.val (AVal.slc 3 (Ty.int IntKind.i64) p))]
theorem e146_1001 (k : Nat) (p : List Int) : x146 (k + 1) k146_1001 (t146_1001 p) = F146_1001 k (fun (p : List Int) => x146 k k146_1001 (t146_1001 p)) p := by kernel_rfl
theorem q146 : ∀ k : Nat, (fun (p : List Int) => x146 k k146_1001 (t146_1001 p)) = l146 k
  | 0 => rfl
  | k + 1 => by
    have h := q146 k
    show _ = F146_1001 k (l146 k)
    rw [← h]
    exact (funext fun p => e146_1001 k p)
theorem w146 (k : Nat) (p : List (Int)) : runFn ti (envOf env49) 22 h146 (finT ti true Go.Proofs.Try.f146.results.toList [(.slice 3 (.int .i64), false)] (.slice 3 (.int .i64))) k (bodyOf Go.Proofs.Try.f146) (initS 0 [.slc 3 (.int .i64) p]) = F146 k (fun (p : List Int) => x146 k k146_1001 (t146_1001 p)) p := by kernel_rfl
theorem v146 (k : Nat) (p : List (Int)) : runFn ti (envOf env49) 22 h146 (finT ti true Go.Proofs.Try.f146.results.toList [(.slice 3 (.int .i64), false)] (.slice 3 (.int .i64))) k (bodyOf Go.Proofs.Try.f146) (initS 0 [.slc 3 (.int .i64) p]) = f146 k p := by
  rw [w146]
  have h := q146 k
  unfold f146
  rw [← h]
theorem m146 : Meets Go.Proofs.Try.prog 146 s146 := meets_of_run tiOk env49_ok mo Go.Proofs.Try.func146 (body := bodyOf Go.Proofs.Try.f146) (by kernel_rfl) (N := 22) (by kernel_rfl) (hs := h146) (by
  intro k xs r h
  unfold s146 at h
  dsimp only at h
  split at h
  · exact ⟨Nat.le_of_ble_eq_true rfl, (v146 k _).trans h⟩
  · cases h)
theorem env50_ok : EnvOk Go.Proofs.Try.prog (envOf env50) := envOf_cons m146 Go.Proofs.Try.func146 (by kernel_rfl) (by kernel_rfl) env49_ok

-- impl.addSingle
def h110 : Hints := [(1003, .lab [(0, .one (.frz 3 (Ty.int IntKind.i64))), (1, .one (.frz 3 (Ty.int IntKind.i64))), (5, .one (.own 3 (Ty.int IntKind.i64))), (14, .one (.v)), (15, .one (.v))])]
def F110_1003 (k : Nat) (rec1003 : List Int → List Int → List Int → Int → Int → Option (List (Int))) (p : List Int) (q : List Int) (outs : List Int) (t14 : Int) (t15 : Int) : Option (List (Int)) :=
  bif decide (t15 < t14) then
    bif decide (t15 < (↑(List.length p) : Int)) then
      bif boundA t15 (List.length outs) then
        bif Nat.blt (Int.toNat t15) (List.length outs) then
          bif boundA t15 (List.length p) then
            bif boundA t15 (List.length outs) then
              bif Nat.blt (Int.toNat t15) (List.length outs) then
                bif decide (t15 < (↑(List.length q) : Int)) then
                  bif boundA t15 (List.length (List.set outs (Int.toNat t15) (IntKind.wrap IntKind.i64 (List.getD outs (Int.toNat t15) 0 + List.getD p (Int.toNat t15) 0)))) then
                    bif Nat.blt (Int.toNat t15) (List.length (List.set outs (Int.toNat t15) (IntKind.wrap IntKind.i64 (List.getD outs (Int.toNat t15) 0 + List.getD p (Int.toNat t15) 0)))) then
                      bif boundA t15 (List.length q) then
                        bif boundA t15 (List.length (List.set outs (Int.toNat t15) (IntKind.wrap IntKind.i64 (List.getD outs (Int.toNat t15) 0 + List.getD p (Int.toNat t15) 0)))) then
                          bif Nat.blt (Int.toNat t15) (List.length (List.set outs (Int.toNat t15) (IntKind.wrap IntKind.i64 (List.getD outs (Int.toNat t15) 0 + List.getD p (Int.toNat t15) 0)))) then
                            rec1003 p q (List.set (List.set outs (Int.toNat t15) (IntKind.wrap IntKind.i64 (List.getD outs (Int.toNat t15) 0 + List.getD p (Int.toNat t15) 0))) (Int.toNat t15) (IntKind.wrap IntKind.i64 (List.getD (List.set outs (Int.toNat t15) (IntKind.wrap IntKind.i64 (List.getD outs (Int.toNat t15) 0 + List.getD p (Int.toNat t15) 0))) (Int.toNat t15) 0 + List.getD q (Int.toNat t15) 0))) t14 (IntKind.wrap IntKind.i64 (t15 + 1))
                          else
                            none
                        else
                          none
                      else
                        none
                    else
                      none
                  else
                    none
                else
                  rec1003 p q (List.set outs (Int.toNat t15) (IntKind.wrap IntKind.i64 (List.getD outs (Int.toNat t15) 0 + List.getD p (Int.toNat t15) 0))) t14 (IntKind.wrap IntKind.i64 (t15 + 1))
              else
                none
            else
              none
          else
            none
        else
          none
      else
        none
    else
      bif decide (t15 < (↑(List.length q) : Int)) then
        bif boundA t15 (List.length outs) then
          bif Nat.blt (Int.toNat t15) (List.length outs) then
            bif boundA t15 (List.length q) then
              bif boundA t15 (List.length outs) then
                bif Nat.blt (Int.toNat t15) (List.length outs) then
                  rec1003 p q (List.set outs (Int.toNat t15) (IntKind.wrap IntKind.i64 (List.getD outs (Int.toNat t15) 0 + List.getD q (Int.toNat t15) 0))) t14 (IntKind.wrap IntKind.i64 (t15 + 1))
                else
                  none
              else
                none
            else
              none
          else
            none
        else
          none
      else
        rec1003 p q outs t14 (IntKind.wrap IntKind.i64 (t15 + 1))
  else
    (f146 k outs).bind fun r0 =>
    some r0
def F110 (k : Nat) (rec1003 : List Int → List Int → List Int → Int → Int → Option (List (Int))) (p : List (Int)) (q : List (Int)) : Option (List (Int)) :=
  bif decide (0 ≤ bif decide ((↑(List.length p) : Int) < (↑(List.length q) : Int)) then (↑(List.length q) : Int) else (↑(List.length p) : Int)) then
    bif decide ((bif decide ((↑(List.length p) : Int) < (↑(List.length q) : Int)) then (↑(List.length q) : Int) else (↑(List.length p) : Int)) ≤ bif decide ((↑(List.length p) : Int) < (↑(List.length q) : Int)) then (↑(List.length q) : Int) else (↑(List.length p) : Int)) then
      bif decide ((bif decide ((↑(List.length p) : Int) < (↑(List.length q) : Int)) then (↑(List.length q) : Int) else (↑(List.length p) : Int)) * (↑8 : Int) ≤ 140737488355328) then
        rec1003 p q (List.replicate (Int.toNat (bif decide ((↑(List.length p) : Int) < (↑(List.length q) : Int)) then (↑(List.length q) : Int) else (↑(List.length p) : Int))) (dflt (Ty.int IntKind.i64))) ((↑(List.length (List.replicate (Int.toNat (bif decide ((↑(List.length p) : Int) < (↑(List.length q) : Int)) then (↑(List.length q) : Int) else (↑(List.length p) : Int))) (dflt (Ty.int IntKind.i64)))) : Int)) (0)
      else
        none
    else
      none
  else
    none
def l110 : Nat → (List Int → List Int → List Int → Int → Int → Option (List (Int)))
  | 0 => fun _ _ _ _ _ => none
  | k + 1 => F110_1003 k (l110 k)
def f110 (k : Nat) (p : List (Int)) (q : List (Int)) : Option (List (Int)) := F110 k (l110 k) p q
def s110 : Spec := ⟨false, [(.slice 3 (.int .i64), false)], true, .slice 3 (.int .i64), fun k xs => match xs with | [.slc 3 (.int .i64) p, .slc 3 (.int .i64) q] => f110 k p q | _ => none⟩
def env51 : List (FuncId × Spec) := (110, s110) :: env50
noncomputable abbrev x110 := exec ti (envOf env50) 49 h110 (finT ti true Go.Proofs.Try.f110.results.toList [(.slice 3 (.int .i64), false)] (.slice 3 (.int .i64)))
noncomputable def k110_1003 : List It := stackAt [.r, .r, .l, .r, .b, .lb none] (bodyOf Go.Proofs.Try.f110) []
def t110_1003 (p : List Int) (q : List Int) (outs : List Int) (t14 : Int) (t15 : Int) : St := [(0, Cell.val (AVal.slc 3 (Ty.int IntKind.i64) p)), (2, Cell.val (AVal.slc 3 (Ty.int IntKind.i64) q)), (10, Cell.val (AVal.ref 3 none)), (3, Cell.row true 3 (Ty.int IntKind.i64) outs), (28, Cell.val (AVal.int IntKind.i64 t14)), (30, Cell.val (AVal.int IntKind.i64 t15))]
theorem e110_1003 (k : Nat) (p : List Int) (q : List Int) (outs : List Int) (t14 : Int) (t15 : Int) : x110 (k + 1) k110_1003 (t110_1003 p q outs t14 t15) = F110_1003 k (fun (p : List Int) (q : List Int) (outs : List Int) (t14 : Int) (t15 : Int) => x110 k k110_1003 (t110_1003 p q outs t14 t15)) p q outs t14 t15 := by kernel_rfl
theorem q110 : ∀ k : Nat, (fun (p : List Int) (q : List Int) (outs : List Int) (t14 : Int) (t15 : Int) => x110 k k110_1003 (t110_1003 p q outs t14 t15)) = l110 k
  | 0 => rfl
  | k + 1 => by
    have h := q110 k
    show _ = F110_1003 k (l110 k)
    rw [← h]
    exact (funext fun p => funext fun q => funext fun outs => funext fun t14 => funext fun t15 => e110_1003 k p q outs t14 t15)
theorem w110 (k : Nat) (p : List (Int)) (q : List (Int)) : runFn ti (envOf env50) 49 h110 (finT ti true Go.Proofs.Try.f110.results.toList [(.slice 3 (.int .i64), false)] (.slice 3 (.int .i64))) k (bodyOf Go.Proofs.Try.f110) (initS 0 [.slc 3 (.int .i64) p, .slc 3 (.int .i64) q]) = F110 k (fun (p : List Int) (q : List Int) (outs : List Int) (t14 : Int) (t15 : Int) => x110 k k110_1003 (t110_1003 p q outs t14 t15)) p q := by kernel_rfl
theorem v110 (k : Nat) (p : List (Int)) (q : List (Int)) : runFn ti (envOf env50) 49 h110 (finT ti true Go.Proofs.Try.f110.results.toList [(.slice 3 (.int .i64), false)] (.slice 3 (.int .i64))) k (bodyOf Go.Proofs.Try.f110) (initS 0 [.slc 3 (.int .i64) p, .slc 3 (.int .i64) q]) = f110 k p q := by
  rw [w110]
  have h := q110 k
  unfold f110
  rw [← h]
theorem m110 : Meets Go.Proofs.Try.prog 110 s110 := meets_of_run tiOk env50_ok mo Go.Proofs.Try.func110 (body := bodyOf Go.Proofs.Try.f110) (by kernel_rfl) (N := 49) (by kernel_rfl) (hs := h110) (by
  intro k xs r h
  unfold s110 at h
  dsimp only at h
  split at h
  · exact ⟨Nat.le_of_ble_eq_true rfl, (v110 k _ _).trans h⟩
  · cases h)
theorem env51_ok : EnvOk Go.Proofs.Try.prog (envOf env51) := envOf_cons m110 Go.Proofs.Try.func110 (by kernel_rfl) (by kernel_rfl) env50_ok

-- impl.multiplySingle
def h111 : Hints := [(1003, .lab [(1, .one (.frz 3 (Ty.int IntKind.i64))), (5, .one (.own 3 (Ty.int IntKind.i64))), (16, .one (.frz 3 (Ty.int IntKind.i64))), (17, .one (.v)), (18, .one (.v))]), (1006, .lab [(1, .one (.frz 3 (Ty.int IntKind.i64))), (5, .one (.own 3 (Ty.int IntKind.i64))), (6, .one (.v)), (7, .one (.v)), (16, .one (.frz 3 (Ty.int IntKind.i64))), (17, .one (.v)), (18, .one (.v)), (23, .one (.frz 3 (Ty.int IntKind.i64))), (24, .one (.v)), (25, .one (.v))])]
def F111_1003 (k : Nat) (rec1003 : List Int → List Int → List Int → Int → Int → Option (List (Int))) (rec1006 : List Int → List Int → Int → Int → List Int → Int → Int → List Int → Int → Int → Option (List (Int))) (q : List Int) (outs : List Int) (t16 : List Int) (t17 : Int) (t18 : Int) : Option (List (Int)) :=
  bif decide (t18 < t17) then
    bif boundA t18 (List.length t16) then
      rec1006 q outs t18 (List.getD t16 (Int.toNat t18) 0) t16 t17 t18 q ((↑(List.length q) : Int)) (0)
    else
      none
  else
    (f146 k outs).bind fun r0 =>
    some r0
def F111_1006 (k : Nat) (rec1003 : List Int → List Int → List Int → Int → Int → Option (List (Int))) (rec1006 : List Int → List Int → Int → Int → List Int → Int → Int → List Int → Int → Int → Option (List (Int))) (q : List Int) (outs : List Int) (i : Int) (a : Int) (t16 : List Int) (t17 : Int) (t18 : Int) (t23 : List Int) (t24 : Int) (t25 : Int) : Option (List (Int)) :=
  bif decide (t25 < t24) then
    bif boundA t25 (List.length t23) then
      bif boundA (IntKind.wrap IntKind.i64 (i + t25)) (List.length outs) then
        bif Nat.blt (Int.toNat (IntKind.wrap IntKind.i64 (i + t25))) (List.length outs) then
          bif boundA (IntKind.wrap IntKind.i64 (i + t25)) (List.length outs) then
            bif Nat.blt (Int.toNat (IntKind.wrap IntKind.i64 (i + t25))) (List.length outs) then
              rec1006 q (List.set outs (Int.toNat (IntKind.wrap IntKind.i64 (i + t25))) (IntKind.wrap IntKind.i64 (List.getD outs (Int.toNat (IntKind.wrap IntKind.i64 (i + t25))) 0 + IntKind.wrap IntKind.i64 (a * List.getD t23 (Int.toNat t25) 0)))) i a t16 t17 t18 t23 t24 (IntKind.wrap IntKind.i64 (t25 + 1))
            else
              none
          else
            none
        else
          none
      else
        none
    else
      none
  else
    rec1003 q outs t16 t17 (IntKind.wrap IntKind.i64 (t18 + 1))
def F111 (k : Nat) (rec1003 : List Int → List Int → List Int → Int → Int → Option (List (Int))) (rec1006 : List Int → List Int → Int → Int → List Int → Int → Int → List Int → Int → Int → Option (List (Int))) (p : List (Int)) (q : List (Int)) : Option (List (Int)) :=
  bif decide (0 ≤ IntKind.wrap IntKind.i64 ((↑(List.length p) : Int) + (↑(List.length q) : Int))) then
    bif decide (IntKind.wrap IntKind.i64 ((↑(List.length p) : Int) + (↑(List.length q) : Int)) ≤ IntKind.wrap IntKind.i64 ((↑(List.length p) : Int) + (↑(List.length q) : Int))) then
      bif decide (IntKind.wrap IntKind.i64 ((↑(List.length p) : Int) + (↑(List.length q) : Int)) * (↑8 : Int) ≤ 140737488355328) then
        rec1003 q (List.replicate (Int.toNat (IntKind.wrap IntKind.i64 ((↑(List.length p) : Int) + (↑(List.length q) : Int)))) (dflt (Ty.int IntKind.i64))) p ((↑(List.length p) : Int)) (0)
      else
        none
    else
      none
  else
    none
def l111 : Nat → (List Int → List Int → List Int → Int → Int → Option (List (Int))) × (List Int → List Int → Int → Int → List Int → Int → Int → List Int → Int → Int → Option (List (Int)))
  | 0 => (fun _ _ _ _ _ => none, fun _ _ _ _ _ _ _ _ _ _ => none)
  | k + 1 => (F111_1003 k ((l111 k).1) ((l111 k).2), F111_1006 k ((l111 k).1) ((l111 k).2))
def f111 (k : Nat) (p : List (Int)) (q : List (Int)) : Option (List (Int)) := F111 k ((l111 k).1) ((l111 k).2) p q
def s111 : Spec := ⟨false, [(.slice 3 (.int .i64), false)], true, .slice 3 (.int .i64), fun k xs => match xs with | [.slc 3 (.int .i64) p, .slc 3 (.int .i64) q] => f111 k p q | _ => none⟩
def env52 : List (FuncId × Spec) := (111, s111) :: env51
noncomputable abbrev x111 := exec ti (envOf env51) 45 h111 (finT ti true Go.Proofs.Try.f111.results.toList [(.slice 3 (.int .i64), false)] (.slice 3 (.int .i64)))
noncomputable def k111_1003 : List It := stackAt [.r, .r, .l, .r, .b, .lb none] (bodyOf Go.Proofs.Try.f111) []
def t111_1003 (q : List Int) (outs : List Int) (t16 : List Int) (t17 : Int) (t18 : Int) : St := [(2, Cell.val (AVal.slc 3 (Ty.int IntKind.i64) q)), (10, Cell.val (AVal.ref 3 none)), (3, Cell.row true 3 (Ty.int IntKind.i64) outs), (32, Cell.val (AVal.slc 3 (Ty.int IntKind.i64) t16)), (34, Cell.val (AVal.int IntKind.i64 t17)), (36, Cell.val (AVal.int IntKind.i64 t18))]
noncomputable def k111_1006 : List It := stackAt [.r, .r, .l, .r, .b, .lb none, .r, .r, .l, .b, .r, .r, .b, .lb none] (bodyOf Go.Proofs.Try.f111) []
def t111_1006 (q : List Int) (outs : List Int) (i : Int) (a : Int) (t16 : List Int) (t17 : Int) (t18 : Int) (t23 : List Int) (t24 : Int) (t25 : Int) : St := [(2, Cell.val (AVal.slc 3 (Ty.int IntKind.i64) q)), (10, Cell.val (AVal.ref 3 none)), (3, Cell.row true 3 (Ty.int IntKind.i64) outs), (12, Cell.val (AVal.int IntKind.i64 i)), (14, Cell.val (AVal.int IntKind.i64 a)), (32, Cell.val (AVal.slc 3 (Ty.int IntKind.i64) t16)), (34, Cell.val (AVal.int IntKind.i64 t17)), (36, Cell.val (AVal.int IntKind.i64 t18)), (46, Cell.val (AVal.slc 3 (Ty.int IntKind.i64) t23)), (48, Cell.val (AVal.int IntKind.i64 t24)), (50, Cell.val (AVal.int IntKind.i64 t25))]
theorem e111_1003 (k : Nat) (q : List Int) (outs : List Int) (t16 : List Int) (t17 : Int) (t18 : Int) : x111 (k + 1) k111_1003 (t111_1003 q outs t16 t17 t18) = F111_1003 k (fun (q : List Int) (outs : List Int) (t16 : List Int) (t17 : Int) (t18 : Int) => x111 k k111_1003 (t111_1003 q outs t16 t17 t18)) (fun (q : List Int) (outs : List Int) (i : Int) (a : Int) (t16 : List Int) (t17 : Int) (t18 : Int) (t23 : List Int) (t24 : Int) (t25 : Int) => x111 k k111_1006 (t111_1006 q outs i a t16 t17 t18 t23 t24 t25)) q outs t16 t17 t18 := by kernel_rfl
theorem e111_1006 (k : Nat) (q : List Int) (outs : List Int) (i : Int) (a : Int) (t16 : List Int) (t17 : Int) (t18 : Int) (t23 : List Int) (t24 : Int) (t25 : Int) : x111 (k + 1) k111_1006 (t111_1006 q outs i a t16 t17 t18 t23 t24 t25) = F111_1006 k (fun (q : List Int) (outs : List Int) (t16 : List Int) (t17 : Int) (t18 : Int) => x111 k k111_1003 (t111_1003 q outs t16 t17 t18)) (fun (q : List Int) (outs : List Int) (i : Int) (a : Int) (t16 : List Int) (t17 : Int) (t18 : Int) (t23 : List Int) (t24 : Int) (t25 : Int) => x111 k k111_1006 (t111_1006 q outs i a t16 t17 t18 t23 t24 t25)) q outs i a t16 t17 t18 t23 t24 t25 := by kernel_rfl
theorem q111 : ∀ k : Nat, ((fun (q : List Int) (outs : List Int) (t16 : List Int) (t17 : Int) (t18 : Int) => x111 k k111_1003 (t111_1003 q outs t16 t17 t18)), (fun (q : List Int) (outs : List Int) (i : Int) (a : Int) (t16 : List Int) (t17 : Int) (t18 : Int) (t23 : List Int) (t24 : Int) (t25 : Int) => x111 k k111_1006 (t111_1006 q outs i a t16 t17 t18 t23 t24 t25))) = l111 k
  | 0 => rfl
  | k + 1 => by
    have h := q111 k
    show _ = (F111_1003 k ((l111 k).1) ((l111 k).2), F111_1006 k ((l111 k).1) ((l111 k).2))
    rw [← h]
    exact (Prod.ext (funext fun q => funext fun outs => funext fun t16 => funext fun t17 => funext fun t18 => e111_1003 k q outs t16 t17 t18) (funext fun q => funext fun outs => funext fun i => funext fun a => funext fun t16 => funext fun t17 => funext fun t18 => funext fun t23 => funext fun t24 => funext fun t25 => e111_1006 k q outs i a t16 t17 t18 t23 t24 t25))
theorem w111 (k : Nat) (p : List (Int)) (q : List (Int)) : runFn ti (envOf env51) 45 h111 (finT ti true Go.Proofs.Try.f111.results.toList [(.slice 3 (.int .i64), false)] (.slice 3 (.int .i64))) k (bodyOf Go.Proofs.Try.f111) (initS 0 [.slc 3 (.int .i64) p, .slc 3 (.int .i64) q]) = F111 k (fun (q : List Int) (outs : List Int) (t16 : List Int) (t17 : Int) (t18 : Int) => x111 k k111_1003 (t111_1003 q outs t16 t17 t18)) (fun (q : List Int) (outs : List Int) (i : Int) (a : Int) (t16 : List Int) (t17 : Int) (t18 : Int) (t23 : List Int) (t24 : Int) (t25 : Int) => x111 k k111_1006 (t111_1006 q outs i a t16 t17 t18 t23 t24 t25)) p q := by kernel_rfl
theorem v111 (k : Nat) (p : List (Int)) (q : List (Int)) : runFn ti (envOf env51) 45 h111 (finT ti true Go.Proofs.Try.f111.results.toList [(.slice 3 (.int .i64), false)] (.slice 3 (.int .i64))) k (bodyOf Go.Proofs.Try.f111) (initS 0 [.slc 3 (.int .i64) p, .slc 3 (.int .i64) q]) = f111 k p q := by
  rw [w111]
  have h := q111 k
  unfold f111
  rw [← h]
theorem m111 : Meets Go.Proofs.Try.prog 111 s111 := meets_of_run tiOk env51_ok mo Go.Proofs.Try.func111 (body := bodyOf Go.Proofs.Try.f111) (by kernel_rfl) (N := 45) (by kernel_rfl) (hs := h111) (by
  intro k xs r h
  unfold s111 at h
  dsimp only at h
  split at h
  · exact ⟨Nat.le_of_ble_eq_true rfl, (v111 k _ _).trans h⟩
  · cases h)
theorem env52_ok : EnvOk Go.Proofs.Try.prog (envOf env52) := envOf_cons m111 Go.Proofs.Try.func111 (by kernel_rfl) (by kernel_rfl) env51_ok

-- impl.familyAt
def f68 (k : Nat) (p : List (Int)) (q : List (Int)) (i : Int) (fine : Int) : Option (List (Int)) :=
  bif !decide (fine < 0) then
    (f111 k p [IntKind.wrap IntKind.i64 (1 * 2 ^ min (Int.toNat fine) (IntKind.bits IntKind.i64))]).bind fun r0 =>
    (f111 k q [i]).bind fun r1 =>
    (f110 k r0 r1).bind fun r2 =>
    some r2
  else
    none
def s68 : Spec := ⟨false, [(.slice 3 (.int .i64), false)], true, .slice 3 (.int .i64), fun k xs => match xs with | [.slc 3 (.int .i64) p, .slc 3 (.int .i64) q, .int .i64 i, .int .i64 fine] => f68 k p q i fine | _ => none⟩
def env53 : List (FuncId × Spec) := (68, s68) :: env52
theorem v68 (k : Nat) (p : List (Int)) (q : List (Int)) (i : Int) (fine : Int) : runFn ti (envOf env52) 19 [] (finT ti true Go.Proofs.Try.f68.results.toList [(.slice 3 (.int .i64), false)] (.slice 3 (.int .i64))) k (bodyOf Go.Proofs.Try.f68) (initS 0 [.slc 3 (.int .i64) p, .slc 3 (.int .i64) q, .int .i64 i, .int .i64 fine]) = f68 k p q i fine := by kernel_rfl
theorem m68 : Meets Go.Proofs.Try.prog 68 s68 := meets_of_run tiOk env52_ok mo Go.Proofs.Try.func68 (body := bodyOf Go.Proofs.Try.f68) (by kernel_rfl) (N := 19) (by kernel_rfl) (hs := []) (by
  intro k xs r h
  unfold s68 at h
  dsimp only at h
  split at h
  · exact ⟨Nat.le_of_ble_eq_true rfl, (v68 k _ _ _ _).trans h⟩
  · cases h)
theorem env53_ok : EnvOk Go.Proofs.Try.prog (envOf env53) := envOf_cons m68 Go.Proofs.Try.func68 (by kernel_rfl) (by kernel_rfl) env52_ok

-- impl.long).times
def h154 : Hints := [(1004, .lab [(1, .one (.v)), (4, .box 153 [.v, .v]), (5, .box 153 [.v, .own 174 (Ty.int IntKind.u32)]), (6, .one (.v)), (16, .one (.frz 174 (Ty.int IntKind.u32))), (17, .one (.v)), (18, .one (.v))])]
def F154_1004 (k : Nat) (rec1004 : Int → Bool → Bool → List Int → Int → List Int → Int → Int → Option (Bool × List (Int))) (n : Int) (t4s_0 : Bool) (outs_0 : Bool) (outs : List Int) (carry : Int) (t16 : List Int) (t17 : Int) (t18 : Int) : Option (Bool × List (Int)) :=
  bif decide (t18 < t17) then
    bif boundA t18 (List.length t16) then
      (f179 k n).bind fun r0 =>
      bif decide ((List.length outs + List.length [IntKind.wrap IntKind.u32 (IntKind.wrap IntKind.u64 (carry + IntKind.wrap IntKind.u64 (IntKind.wrap IntKind.u64 (List.getD t16 (Int.toNat t18) 0) * r0)))]) * 4 ≤ 140737488355328) then
        rec1004 n t4s_0 outs_0 (outs ++ [IntKind.wrap IntKind.u32 (IntKind.wrap IntKind.u64 (carry + IntKind.wrap IntKind.u64 (IntKind.wrap IntKind.u64 (List.getD t16 (Int.toNat t18) 0) * r0)))]) (Int.fdiv (IntKind.wrap IntKind.u64 (carry + IntKind.wrap IntKind.u64 (IntKind.wrap IntKind.u64 (List.getD t16 (Int.toNat t18) 0) * r0))) (2 ^ min (Int.toNat 32) (IntKind.bits IntKind.u64))) t16 t17 (IntKind.wrap IntKind.i64 (t18 + 1))
      else
        none
    else
      none
  else
    bif decide ((List.length outs + List.length [IntKind.wrap IntKind.u32 carry]) * 4 ≤ 140737488355328) then
      some ((outs_0, outs ++ [IntKind.wrap IntKind.u32 carry]))
    else
      none
def F154 (k : Nat) (rec1004 : Int → Bool → Bool → List Int → Int → List Int → Int → Int → Option (Bool × List (Int))) (a_negative : Bool) (a_digits : List (Int)) (n : Int) : Option (Bool × List (Int)) :=
  rec1004 n false (!a_negative == decide (n < 0)) ([]) (0) a_digits ((↑(List.length a_digits) : Int)) (0)
def l154 : Nat → (Int → Bool → Bool → List Int → Int → List Int → Int → Int → Option (Bool × List (Int)))
  | 0 => fun _ _ _ _ _ _ _ _ => none
  | k + 1 => F154_1004 k (l154 k)
def f154 (k : Nat) (a_negative : Bool) (a_digits : List (Int)) (n : Int) : Option (Bool × List (Int)) := F154 k (l154 k) a_negative a_digits n
def s154 : Spec := ⟨false, [(.pair (.bool) (.slice 174 (.int .u32)), true)], true, .pair (.bool) (.slice 174 (.int .u32)), fun k xs => match xs with | [.agg [.bool a_negative, .slc 174 (.int .u32) a_digits], .int .i64 n] => f154 k a_negative a_digits n | _ => none⟩
def env54 : List (FuncId × Spec) := (154, s154) :: env53
noncomputable abbrev x154 := exec ti (envOf env53) 47 h154 (finT ti true Go.Proofs.Try.f154.results.toList [(.pair (.bool) (.slice 174 (.int .u32)), true)] (.pair (.bool) (.slice 174 (.int .u32))))
noncomputable def k154_1004 : List It := stackAt [.r, .r, .r, .l, .r, .b, .lb none] (bodyOf Go.Proofs.Try.f154) []
def t154_1004 (n : Int) (t4s_0 : Bool) (outs_0 : Bool) (outs : List Int) (carry : Int) (t16 : List Int) (t17 : Int) (t18 : Int) : St := [(2, Cell.val (AVal.int IntKind.i64 n)), (8, Cell.val (AVal.ptr 3 0)), (3, Cell.mem true 153 [AVal.bool t4s_0, AVal.nilslc]), (10, Cell.val (AVal.ptr 5 0)), (5, Cell.mem true 153 [AVal.bool outs_0, AVal.ref 7 none]), (7, Cell.row true 174 (Ty.int IntKind.u32) outs), (12, Cell.val (AVal.int IntKind.u64 carry)), (32, Cell.val (AVal.slc 174 (Ty.int IntKind.u32) t16)), (34, Cell.val (AVal.int IntKind.i64 t17)), (36, Cell.val (AVal.int IntKind.i64 t18))]
theorem e154_1004 (k : Nat) (n : Int) (t4s_0 : Bool) (outs_0 : Bool) (outs : List Int) (carry : Int) (t16 : List Int) (t17 : Int) (t18 : Int) : x154 (k + 1) k154_1004 (t154_1004 n t4s_0 outs_0 outs carry t16 t17 t18) = F154_1004 k (fun (n : Int) (t4s_0 : Bool) (outs_0 : Bool) (outs : List Int) (carry : Int) (t16 : List Int) (t17 : Int) (t18 : Int) => x154 k k154_1004 (t154_1004 n t4s_0 outs_0 outs carry t16 t17 t18)) n t4s_0 outs_0 outs carry t16 t17 t18 := by kernel_rfl
theorem q154 : ∀ k : Nat, (fun (n : Int) (t4s_0 : Bool) (outs_0 : Bool) (outs : List Int) (carry : Int) (t16 : List Int) (t17 : Int) (t18 : Int) => x154 k k154_1004 (t154_1004 n t4s_0 outs_0 outs carry t16 t17 t18)) = l154 k
  | 0 => rfl
  | k + 1 => by
    have h := q154 k
    show _ = F154_1004 k (l154 k)
    rw [← h]
    exact (funext fun n => funext fun t4s_0 => funext fun outs_0 => funext fun outs => funext fun carry => funext fun t16 => funext fun t17 => funext fun t18 => e154_1004 k n t4s_0 outs_0 outs carry t16 t17 t18)
theorem w154 (k : Nat) (a_negative : Bool) (a_digits : List (Int)) (n : Int) : runFn ti (envOf env53) 47 h154 (finT ti true Go.Proofs.Try.f154.results.toList [(.pair (.bool) (.slice 174 (.int .u32)), true)] (.pair (.bool) (.slice 174 (.int .u32)))) k (bodyOf Go.Proofs.Try.f154) (initS 0 [.agg [.bool a_negative, .slc 174 (.int .u32) a_digits], .int .i64 n]) = F154 k (fun (n : Int) (t4s_0 : Bool) (outs_0 : Bool) (outs : List Int) (carry : Int) (t16 : List Int) (t17 : Int) (t18 : Int) => x154 k k154_1004 (t154_1004 n t4s_0 outs_0 outs carry t16 t17 t18)) a_negative a_digits n := by kernel_rfl
theorem v154 (k : Nat) (a_negative : Bool) (a_digits : List (Int)) (n : Int) : runFn ti (envOf env53) 47 h154 (finT ti true Go.Proofs.Try.f154.results.toList [(.pair (.bool) (.slice 174 (.int .u32)), true)] (.pair (.bool) (.slice 174 (.int .u32)))) k (bodyOf Go.Proofs.Try.f154) (initS 0 [.agg [.bool a_negative, .slc 174 (.int .u32) a_digits], .int .i64 n]) = f154 k a_negative a_digits n := by
  rw [w154]
  have h := q154 k
  unfold f154
  rw [← h]
theorem m154 : Meets Go.Proofs.Try.prog 154 s154 := meets_of_run tiOk env53_ok mo Go.Proofs.Try.func154 (body := bodyOf Go.Proofs.Try.f154) (by kernel_rfl) (N := 47) (by kernel_rfl) (hs := h154) (by
  intro k xs r h
  unfold s154 at h
  dsimp only at h
  split at h
  · exact ⟨Nat.le_of_ble_eq_true rfl, (v154 k _ _ _).trans h⟩
  · cases h)
theorem env54_ok : EnvOk Go.Proofs.Try.prog (envOf env54) := envOf_cons m154 Go.Proofs.Try.func154 (by kernel_rfl) (by kernel_rfl) env53_ok

-- impl.long).digit
def f181 (k : Nat) (a_negative : Bool) (a_digits : List (Int)) (i : Int) : Option (Int) :=
  bif decide (i < (↑(List.length a_digits) : Int)) then
    bif boundA i (List.length a_digits) then
      some (List.getD a_digits (Int.toNat i) 0)
    else
      none
  else
    some (0)
def s181 : Spec := ⟨false, [(.int .u32, false)], true, .int .u32, fun k xs => match xs with | [.agg [.bool a_negative, .slc 174 (.int .u32) a_digits], .int .i64 i] => f181 k a_negative a_digits i | _ => none⟩
def env55 : List (FuncId × Spec) := (181, s181) :: env54
theorem v181 (k : Nat) (a_negative : Bool) (a_digits : List (Int)) (i : Int) : runFn ti (envOf env54) 15 [] (finT ti true Go.Proofs.Try.f181.results.toList [(.int .u32, false)] (.int .u32)) k (bodyOf Go.Proofs.Try.f181) (initS 0 [.agg [.bool a_negative, .slc 174 (.int .u32) a_digits], .int .i64 i]) = f181 k a_negative a_digits i := by kernel_rfl
theorem m181 : Meets Go.Proofs.Try.prog 181 s181 := meets_of_run tiOk env54_ok mo Go.Proofs.Try.func181 (body := bodyOf Go.Proofs.Try.f181) (by kernel_rfl) (N := 15) (by kernel_rfl) (hs := []) (by
  intro k xs r h
  unfold s181 at h
  dsimp only at h
  split at h
  · exact ⟨Nat.le_of_ble_eq_true rfl, (v181 k _ _ _).trans h⟩
  · cases h)
theorem env55_ok : EnvOk Go.Proofs.Try.prog (envOf env55) := envOf_cons m181 Go.Proofs.Try.func181 (by kernel_rfl) (by kernel_rfl) env54_ok

-- cmp.isNaN[uint32]
def f205 (k : Nat) (x : Int) : Option (Bool) :=
  some (!decide (x = x))
def s205 : Spec := ⟨false, [(.bool, false)], true, .bool, fun k xs => match xs with | [.int .u32 x] => f205 k x | _ => none⟩
def env56 : List (FuncId × Spec) := (205, s205) :: env55
theorem v205 (k : Nat) (x : Int) : runFn ti (envOf env55) 6 [] (finT ti true Go.Proofs.Try.f205.results.toList [(.bool, false)] (.bool)) k (bodyOf Go.Proofs.Try.f205) (initS 0 [.int .u32 x]) = f205 k x := by kernel_rfl
theorem m205 : Meets Go.Proofs.Try.prog 205 s205 := meets_of_run tiOk env55_ok mo Go.Proofs.Try.func205 (body := bodyOf Go.Proofs.Try.f205) (by kernel_rfl) (N := 6) (by kernel_rfl) (hs := []) (by
  intro k xs r h
  unfold s205 at h
  dsimp only at h
  split at h
  · exact ⟨Nat.le_of_ble_eq_true rfl, (v205 k _).trans h⟩
  · cases h)
theorem env56_ok : EnvOk Go.Proofs.Try.prog (envOf env56) := envOf_cons m205 Go.Proofs.Try.func205 (by kernel_rfl) (by kernel_rfl) env55_ok

-- cmp.Compare[uint32]
def f194 (k : Nat) (x : Int) (y : Int) : Option (Int) :=
  bif !decide (x = x) then
    bif !decide (y = y) then
      some (0)
    else
      some (-1)
  else
    bif !decide (y = y) then
      some (1)
    else
      bif decide (x < y) then
        some (-1)
      else
        bif decide (y < x) then
          some (1)
        else
          some (0)
def s194 : Spec := ⟨false, [(.int .i64, false)], true, .int .i64, fun k xs => match xs with | [.int .u32 x, .int .u32 y] => f194 k x y | _ => none⟩
def env57 : List (FuncId × Spec) := (194, s194) :: env56
theorem v194 (k : Nat) (x : Int) (y : Int) : runFn ti (envOf env56) 20 [] (finT ti true Go.Proofs.Try.f194.results.toList [(.int .i64, false)] (.int .i64)) k (bodyOf Go.Proofs.Try.f194) (initS 0 [.int .u32 x, .int .u32 y]) = f194 k x y := by kernel_rfl
theorem m194 : Meets Go.Proofs.Try.prog 194 s194 := meets_of_run tiOk env56_ok mo Go.Proofs.Try.func194 (body := bodyOf Go.Proofs.Try.f194) (by kernel_rfl) (N := 20) (by kernel_rfl) (hs := []) (by
  intro k xs r h
  unfold s194 at h
  dsimp only at h
  split at h
  · exact ⟨Nat.le_of_ble_eq_true rfl, (v194 k _ _).trans h⟩
  · cases h)
theorem env57_ok : EnvOk Go.Proofs.Try.prog (envOf env57) := envOf_cons m194 Go.Proofs.Try.func194 (by kernel_rfl) (by kernel_rfl) env56_ok

-- impl.compareDigits
def h180 : Hints := [(1002, .lab [(2, .box 153 [.v, .frz 174 (Ty.int IntKind.u32)]), (3, .box 153 [.v, .frz 174 (Ty.int IntKind.u32)]), (5, .one (.v))])]
def F180_1002 (k : Nat) (rec1002 : Bool → List Int → Bool → List Int → Int → Option (Int)) (as_0 : Bool) (as_1 : List Int) (bs_0 : Bool) (bs_1 : List Int) (i : Int) : Option (Int) :=
  bif decide (0 ≤ i) then
    (f181 k as_0 as_1 i).bind fun r0 =>
    (f181 k bs_0 bs_1 i).bind fun r1 =>
    (f194 k r0 r1).bind fun r2 =>
    bif !decide (r2 = 0) then
      some r2
    else
      rec1002 as_0 as_1 bs_0 bs_1 (IntKind.wrap IntKind.i64 (i - 1))
  else
    some (0)
def F180 (k : Nat) (rec1002 : Bool → List Int → Bool → List Int → Int → Option (Int)) (a_negative : Bool) (a_digits : List (Int)) (b_negative : Bool) (b_digits : List (Int)) : Option (Int) :=
  rec1002 a_negative a_digits b_negative b_digits (IntKind.wrap IntKind.i64 ((bif decide ((↑(List.length a_digits) : Int) < (↑(List.length b_digits) : Int)) then (↑(List.length b_digits) : Int) else (↑(List.length a_digits) : Int)) - 1))
def l180 : Nat → (Bool → List Int → Bool → List Int → Int → Option (Int))
  | 0 => fun _ _ _ _ _ => none
  | k + 1 => F180_1002 k (l180 k)
def f180 (k : Nat) (a_negative : Bool) (a_digits : List (Int)) (b_negative : Bool) (b_digits : List (Int)) : Option (Int) := F180 k (l180 k) a_negative a_digits b_negative b_digits
def s180 : Spec := ⟨false, [(.int .i64, false)], true, .int .i64, fun k xs => match xs with | [.agg [.bool a_negative, .slc 174 (.int .u32) a_digits], .agg [.bool b_negative, .slc 174 (.int .u32) b_digits]] => f180 k a_negative a_digits b_negative b_digits | _ => none⟩
def env58 : List (FuncId × Spec) := (180, s180) :: env57
noncomputable abbrev x180 := exec ti (envOf env57) 29 h180 (finT ti true Go.Proofs.Try.f180.results.toList [(.int .i64, false)] (.int .i64))
noncomputable def k180_1002 : List It := stackAt [.r, .l, .r, .b, .lb none] (bodyOf Go.Proofs.Try.f180) []
def t180_1002 (as_0 : Bool) (as_1 : List Int) (bs_0 : Bool) (bs_1 : List Int) (i : Int) : St := [(4, Cell.val (AVal.ptr 3 0)), (3, Cell.mem true 153 [AVal.bool as_0, AVal.slc 174 (Ty.int IntKind.u32) as_1]), (6, Cell.val (AVal.ptr 5 0)), (5, Cell.mem true 153 [AVal.bool bs_0, AVal.slc 174 (Ty.int IntKind.u32) bs_1]), (10, Cell.val (AVal.int IntKind.i64 i))]
theorem e180_1002 (k : Nat) (as_0 : Bool) (as_1 : List Int) (bs_0 : Bool) (bs_1 : List Int) (i : Int) : x180 (k + 1) k180_1002 (t180_1002 as_0 as_1 bs_0 bs_1 i) = F180_1002 k (fun (as_0 : Bool) (as_1 : List Int) (bs_0 : Bool) (bs_1 : List Int) (i : Int) => x180 k k180_1002 (t180_1002 as_0 as_1 bs_0 bs_1 i)) as_0 as_1 bs_0 bs_1 i := by kernel_rfl
theorem q180 : ∀ k : Nat, (fun (as_0 : Bool) (as_1 : List Int) (bs_0 : Bool) (bs_1 : List Int) (i : Int) => x180 k k180_1002 (t180_1002 as_0 as_1 bs_0 bs_1 i)) = l180 k
  | 0 => rfl
  | k + 1 => by
    have h := q180 k
    show _ = F180_1002 k (l180 k)
    rw [← h]
    exact (funext fun as_0 => funext fun as_1 => funext fun bs_0 => funext fun bs_1 => funext fun i => e180_1002 k as_0 as_1 bs_0 bs_1 i)
theorem w180 (k : Nat) (a_negative : Bool) (a_digits : List (Int)) (b_negative : Bool) (b_digits : List (Int)) : runFn ti (envOf env57) 29 h180 (finT ti true Go.Proofs.Try.f180.results.toList [(.int .i64, false)] (.int .i64)) k (bodyOf Go.Proofs.Try.f180) (initS 0 [.agg [.bool a_negative, .slc 174 (.int .u32) a_digits], .agg [.bool b_negative, .slc 174 (.int .u32) b_digits]]) = F180 k (fun (as_0 : Bool) (as_1 : List Int) (bs_0 : Bool) (bs_1 : List Int) (i : Int) => x180 k k180_1002 (t180_1002 as_0 as_1 bs_0 bs_1 i)) a_negative a_digits b_negative b_digits := by kernel_rfl
theorem v180 (k : Nat) (a_negative : Bool) (a_digits : List (Int)) (b_negative : Bool) (b_digits : List (Int)) : runFn ti (envOf env57) 29 h180 (finT ti true Go.Proofs.Try.f180.results.toList [(.int .i64, false)] (.int .i64)) k (bodyOf Go.Proofs.Try.f180) (initS 0 [.agg [.bool a_negative, .slc 174 (.int .u32) a_digits], .agg [.bool b_negative, .slc 174 (.int .u32) b_digits]]) = f180 k a_negative a_digits b_negative b_digits := by
  rw [w180]
  have h := q180 k
  unfold f180
  rw [← h]
theorem m180 : Meets Go.Proofs.Try.prog 180 s180 := meets_of_run tiOk env57_ok mo Go.Proofs.Try.func180 (body := bodyOf Go.Proofs.Try.f180) (by kernel_rfl) (N := 29) (by kernel_rfl) (hs := h180) (by
  intro k xs r h
  unfold s180 at h
  dsimp only at h
  split at h
  · exact ⟨Nat.le_of_ble_eq_true rfl, (v180 k _ _ _ _).trans h⟩
  · cases h)
theorem env58_ok : EnvOk Go.Proofs.Try.prog (envOf env58) := envOf_cons m180 Go.Proofs.Try.func180 (by kernel_rfl) (by kernel_rfl) env57_ok

-- impl.long).plus
def h155 : Hints := [(1006, .lab [(2, .box 153 [.v, .frz 174 (Ty.int IntKind.u32)]), (3, .box 153 [.v, .frz 174 (Ty.int IntKind.u32)]), (4, .box 153 [.v, .v]), (5, .box 153 [.v, .own 174 (Ty.int IntKind.u32)]), (6, .one (.v)), (21, .one (.v)), (22, .one (.v))]), (3, .lab [(2, .box 153 [.v, .frz 174 (Ty.int IntKind.u32)]), (3, .box 153 [.v, .frz 174 (Ty.int IntKind.u32)]), (4, .box 153 [.v, .v])])]
def F155_1006 (k : Nat) (rec1006 : Bool → List Int → Bool → List Int → Bool → Bool → List Int → Int → Int → Int → Option (Bool × List (Int))) (rec3 : Bool → List Int → Bool → List Int → Bool → Option (Bool × List (Int))) (as_0 : Bool) (as_1 : List Int) (bs_0 : Bool) (bs_1 : List Int) (t4s_0 : Bool) (outs_0 : Bool) (outs : List Int) (carry : Int) (t21 : Int) (t22 : Int) : Option (Bool × List (Int)) :=
  bif decide (t22 < t21) then
    (f181 k as_0 as_1 t22).bind fun r0 =>
    bif as_0 == bs_0 then
      (f181 k bs_0 bs_1 t22).bind fun r1 =>
      bif decide ((List.length outs + List.length [IntKind.wrap IntKind.u32 (IntKind.wrap IntKind.i64 (IntKind.wrap IntKind.i64 (carry + IntKind.wrap IntKind.i64 r0) + IntKind.wrap IntKind.i64 r1))]) * 4 ≤ 140737488355328) then
        rec1006 as_0 as_1 bs_0 bs_1 t4s_0 outs_0 (outs ++ [IntKind.wrap IntKind.u32 (IntKind.wrap IntKind.i64 (IntKind.wrap IntKind.i64 (carry + IntKind.wrap IntKind.i64 r0) + IntKind.wrap IntKind.i64 r1))]) (Int.fdiv (IntKind.wrap IntKind.i64 (IntKind.wrap IntKind.i64 (carry + IntKind.wrap IntKind.i64 r0) + IntKind.wrap IntKind.i64 r1)) (2 ^ min (Int.toNat 32) (IntKind.bits IntKind.i64))) t21 (IntKind.wrap IntKind.i64 (t22 + 1))
      else
        none
    else
      (f181 k bs_0 bs_1 t22).bind fun r2 =>
      bif decide ((List.length outs + List.length [IntKind.wrap IntKind.u32 (IntKind.wrap IntKind.i64 (IntKind.wrap IntKind.i64 (carry + IntKind.wrap IntKind.i64 r0) - IntKind.wrap IntKind.i64 r2))]) * 4 ≤ 140737488355328) then
        rec1006 as_0 as_1 bs_0 bs_1 t4s_0 outs_0 (outs ++ [IntKind.wrap IntKind.u32 (IntKind.wrap IntKind.i64 (IntKind.wrap IntKind.i64 (carry + IntKind.wrap IntKind.i64 r0) - IntKind.wrap IntKind.i64 r2))]) (Int.fdiv (IntKind.wrap IntKind.i64 (IntKind.wrap IntKind.i64 (carry + IntKind.wrap IntKind.i64 r0) - IntKind.wrap IntKind.i64 r2)) (2 ^ min (Int.toNat 32) (IntKind.bits IntKind.i64))) t21 (IntKind.wrap IntKind.i64 (t22 + 1))
      else
        none
  else
    some ((outs_0, outs))
def F155_3 (k : Nat) (rec1006 : Bool → List Int → Bool → List Int → Bool → Bool → List Int → Int → Int → Int → Option (Bool × List (Int))) (rec3 : Bool → List Int → Bool → List Int → Bool → Option (Bool × List (Int))) (as_0 : Bool) (as_1 : List Int) (bs_0 : Bool) (bs_1 : List Int) (t4s_0 : Bool) : Option (Bool × List (Int)) :=
  rec1006 as_0 as_1 bs_0 bs_1 t4s_0 as_0 ([]) (0) (IntKind.wrap IntKind.i64 ((↑(List.length as_1) : Int) + 1)) (0)
def F155 (k : Nat) (rec1006 : Bool → List Int → Bool → List Int → Bool → Bool → List Int → Int → Int → Int → Option (Bool × List (Int))) (rec3 : Bool → List Int → Bool → List Int → Bool → Option (Bool × List (Int))) (a_negative : Bool) (a_digits : List (Int)) (b_negative : Bool) (b_digits : List (Int)) : Option (Bool × List (Int)) :=
  (f180 k a_negative a_digits b_negative b_digits).bind fun r0 =>
  bif decide (r0 < 0) then
    rec3 b_negative b_digits a_negative a_digits false
  else
    rec3 a_negative a_digits b_negative b_digits false
def l155 : Nat → (Bool → List Int → Bool → List Int → Bool → Bool → List Int → Int → Int → Int → Option (Bool × List (Int))) × (Bool → List Int → Bool → List Int → Bool → Option (Bool × List (Int)))
  | 0 => (fun _ _ _ _ _ _ _ _ _ _ => none, fun _ _ _ _ _ => none)
  | k + 1 => (F155_1006 k ((l155 k).1) ((l155 k).2), F155_3 k ((l155 k).1) ((l155 k).2))
def f155 (k : Nat) (a_negative : Bool) (a_digits : List (Int)) (b_negative : Bool) (b_digits : List (Int)) : Option (Bool × List (Int)) := F155 k ((l155 k).1) ((l155 k).2) a_negative a_digits b_negative b_digits
def s155 : Spec := ⟨false, [(.pair (.bool) (.slice 174 (.int .u32)), true)], true, .pair (.bool) (.slice 174 (.int .u32)), fun k xs => match xs with | [.agg [.bool a_negative, .slc 174 (.int .u32) a_digits], .agg [.bool b_negative, .slc 174 (.int .u32) b_digits]] => f155 k a_negative a_digits b_negative b_digits | _ => none⟩
def env59 : List (FuncId × Spec) := (155, s155) :: env58
noncomputable abbrev x155 := exec ti (envOf env58) 59 h155 (finT ti true Go.Proofs.Try.f155.results.toList [(.pair (.bool) (.slice 174 (.int .u32)), true)] (.pair (.bool) (.slice 174 (.int .u32))))
noncomputable def k155_1006 : List It := stackAt [.r, .r, .r, .r, .l, .r, .b, .lb none] (bodyOf Go.Proofs.Try.f155) []
def t155_1006 (as_0 : Bool) (as_1 : List Int) (bs_0 : Bool) (bs_1 : List Int) (t4s_0 : Bool) (outs_0 : Bool) (outs : List Int) (carry : Int) (t21 : Int) (t22 : Int) : St := [(4, Cell.val (AVal.ptr 3 0)), (3, Cell.mem true 153 [AVal.bool as_0, AVal.slc 174 (Ty.int IntKind.u32) as_1]), (6, Cell.val (AVal.ptr 5 0)), (5, Cell.mem true 153 [AVal.bool bs_0, AVal.slc 174 (Ty.int IntKind.u32) bs_1]), (8, Cell.val (AVal.ptr 7 0)), (7, Cell.mem true 153 [AVal.bool t4s_0, AVal.nilslc]), (10, Cell.val (AVal.ptr 9 0)), (9, Cell.mem true 153 [AVal.bool outs_0, AVal.ref 11 none]), (11, Cell.row true 174 (Ty.int IntKind.u32) outs), (12, Cell.val (AVal.int IntKind.i64 carry)), (42, Cell.val (AVal.int IntKind.i64 t21)), (44, Cell.val (AVal.int IntKind.i64 t22))]
noncomputable def k155_3 : List It := stackAt [.r, .r, .l] (bodyOf Go.Proofs.Try.f155) []
def t155_3 (as_0 : Bool) (as_1 : List Int) (bs_0 : Bool) (bs_1 : List Int) (t4s_0 : Bool) : St := [(4, Cell.val (AVal.ptr 3 0)), (3, Cell.mem true 153 [AVal.bool as_0, AVal.slc 174 (Ty.int IntKind.u32) as_1]), (6, Cell.val (AVal.ptr 5 0)), (5, Cell.mem true 153 [AVal.bool bs_0, AVal.slc 174 (Ty.int IntKind.u32) bs_1]), (8, Cell.val (AVal.ptr 7 0)), (7, Cell.mem true 153 [AVal.bool t4s_0, AVal.nilslc])]
theorem e155_1006 (k : Nat) (as_0 : Bool) (as_1 : List Int) (bs_0 : Bool) (bs_1 : List Int) (t4s_0 : Bool) (outs_0 : Bool) (outs : List Int) (carry : Int) (t21 : Int) (t22 : Int) : x155 (k + 1) k155_1006 (t155_1006 as_0 as_1 bs_0 bs_1 t4s_0 outs_0 outs carry t21 t22) = F155_1006 k (fun (as_0 : Bool) (as_1 : List Int) (bs_0 : Bool) (bs_1 : List Int) (t4s_0 : Bool) (outs_0 : Bool) (outs : List Int) (carry : Int) (t21 : Int) (t22 : Int) => x155 k k155_1006 (t155_1006 as_0 as_1 bs_0 bs_1 t4s_0 outs_0 outs carry t21 t22)) (fun (as_0 : Bool) (as_1 : List Int) (bs_0 : Bool) (bs_1 : List Int) (t4s_0 : Bool) => x155 k k155_3 (t155_3 as_0 as_1 bs_0 bs_1 t4s_0)) as_0 as_1 bs_0 bs_1 t4s_0 outs_0 outs carry t21 t22 := by kernel_rfl
theorem e155_3 (k : Nat) (as_0 : Bool) (as_1 : List Int) (bs_0 : Bool) (bs_1 : List Int) (t4s_0 : Bool) : x155 (k + 1) k155_3 (t155_3 as_0 as_1 bs_0 bs_1 t4s_0) = F155_3 k (fun (as_0 : Bool) (as_1 : List Int) (bs_0 : Bool) (bs_1 : List Int) (t4s_0 : Bool) (outs_0 : Bool) (outs : List Int) (carry : Int) (t21 : Int) (t22 : Int) => x155 k k155_1006 (t155_1006 as_0 as_1 bs_0 bs_1 t4s_0 outs_0 outs carry t21 t22)) (fun (as_0 : Bool) (as_1 : List Int) (bs_0 : Bool) (bs_1 : List Int) (t4s_0 : Bool) => x155 k k155_3 (t155_3 as_0 as_1 bs_0 bs_1 t4s_0)) as_0 as_1 bs_0 bs_1 t4s_0 := by kernel_rfl
theorem q155 : ∀ k : Nat, ((fun (as_0 : Bool) (as_1 : List Int) (bs_0 : Bool) (bs_1 : List Int) (t4s_0 : Bool) (outs_0 : Bool) (outs : List Int) (carry : Int) (t21 : Int) (t22 : Int) => x155 k k155_1006 (t155_1006 as_0 as_1 bs_0 bs_1 t4s_0 outs_0 outs carry t21 t22)), (fun (as_0 : Bool) (as_1 : List Int) (bs_0 : Bool) (bs_1 : List Int) (t4s_0 : Bool) => x155 k k155_3 (t155_3 as_0 as_1 bs_0 bs_1 t4s_0))) = l155 k
  | 0 => rfl
  | k + 1 => by
    have h := q155 k
    show _ = (F155_1006 k ((l155 k).1) ((l155 k).2), F155_3 k ((l155 k).1) ((l155 k).2))
    rw [← h]
    exact (Prod.ext (funext fun as_0 => funext fun as_1 => funext fun bs_0 => funext fun bs_1 => funext fun t4s_0 => funext fun outs_0 => funext fun outs => funext fun carry => funext fun t21 => funext fun t22 => e155_1006 k as_0 as_1 bs_0 bs_1 t4s_0 outs_0 outs carry t21 t22) (funext fun as_0 => funext fun as_1 => funext fun bs_0 => funext fun bs_1 => funext fun t4s_0 => e155_3 k as_0 as_1 bs_0 bs_1 t4s_0))
theorem w155 (k : Nat) (a_negative : Bool) (a_digits : List (Int)) (b_negative : Bool) (b_digits : List (Int)) : runFn ti (envOf env58) 59 h155 (finT ti true Go.Proofs.Try.f155.results.toList [(.pair (.bool) (.slice 174 (.int .u32)), true)] (.pair (.bool) (.slice 174 (.int .u32)))) k (bodyOf Go.Proofs.Try.f155) (initS 0 [.agg [.bool a_negative, .slc 174 (.int .u32) a_digits], .agg [.bool b_negative, .slc 174 (.int .u32) b_digits]]) = F155 k (fun (as_0 : Bool) (as_1 : List Int) (bs_0 : Bool) (bs_1 : List Int) (t4s_0 : Bool) (outs_0 : Bool) (outs : List Int) (carry : Int) (t21 : Int) (t22 : Int) => x155 k k155_1006 (t155_1006 as_0 as_1 bs_0 bs_1 t4s_0 outs_0 outs carry t21 t22)) (fun (as_0 : Bool) (as_1 : List Int) (bs_0 : Bool) (bs_1 : List Int) (t4s_0 : Bool) => x155 k k155_3 (t155_3 as_0 as_1 bs_0 bs_1 t4s_0)) a_negative a_digits b_negative b_digits := by kernel_rfl
theorem v155 (k : Nat) (a_negative : Bool) (a_digits : List (Int)) (b_negative : Bool) (b_digits : List (Int)) : runFn ti (envOf env58) 59 h155 (finT ti true Go.Proofs.Try.f155.results.toList [(.pair (.bool) (.slice 174 (.int .u32)), true)] (.pair (.bool) (.slice 174 (.int .u32)))) k (bodyOf Go.Proofs.Try.f155) (initS 0 [.agg [.bool a_negative, .slc 174 (.int .u32) a_digits], .agg [.bool b_negative, .slc 174 (.int .u32) b_digits]]) = f155 k a_negative a_digits b_negative b_digits := by
  rw [w155]
  have h := q155 k
  unfold f155
  rw [← h]
theorem m155 : Meets Go.Proofs.Try.prog 155 s155 := meets_of_run tiOk env58_ok mo Go.Proofs.Try.func155 (body := bodyOf Go.Proofs.Try.f155) (by kernel_rfl) (N := 59) (by kernel_rfl) (hs := h155) (by
  intro k xs r h
  unfold s155 at h
  dsimp only at h
  split at h
  · exact ⟨Nat.le_of_ble_eq_true rfl, (v155 k _ _ _ _).trans h⟩
  · cases h)
theorem env59_ok : EnvOk Go.Proofs.Try.prog (envOf env59) := envOf_cons m155 Go.Proofs.Try.func155 (by kernel_rfl) (by kernel_rfl) env58_ok

-- impl.longOf
def f156 (k : Nat) (n : Int) (k_ : Int) : Option (Bool × List (Int)) :=
  (f179 k n).bind fun r0 =>
  bif !decide (Int.tmod k_ 32 < 0) then
    bif decide (0 < Int.tmod k_ 32) then
      (f179 k n).bind fun r1 =>
      bif !decide (IntKind.wrap IntKind.i64 (64 - Int.tmod k_ 32) < 0) then
        bif decide (0 ≤ IntKind.wrap IntKind.i64 (Int.tdiv k_ 32)) then
          bif decide (IntKind.wrap IntKind.i64 (Int.tdiv k_ 32) ≤ IntKind.wrap IntKind.i64 (Int.tdiv k_ 32)) then
            bif decide (IntKind.wrap IntKind.i64 (Int.tdiv k_ 32) * (↑4 : Int) ≤ 140737488355328) then
              bif decide
  ((List.length
          (match none with
          | none => List.replicate (Int.toNat (IntKind.wrap IntKind.i64 (Int.tdiv k_ 32))) (dflt (Ty.int IntKind.u32))
          | some m => List.take m (List.replicate (Int.toNat (IntKind.wrap IntKind.i64 (Int.tdiv k_ 32))) (dflt (Ty.int IntKind.u32)))) +
        List.length [IntKind.wrap IntKind.u32 (IntKind.wrap IntKind.u64 (r0 * 2 ^ min (Int.toNat (Int.tmod k_ 32)) (IntKind.bits IntKind.u64))), IntKind.wrap IntKind.u32 (Int.fdiv (IntKind.wrap IntKind.u64 (r0 * 2 ^ min (Int.toNat (Int.tmod k_ 32)) (IntKind.bits IntKind.u64))) (2 ^ min (Int.toNat 32) (IntKind.bits IntKind.u64))), IntKind.wrap IntKind.u32 (Int.fdiv r1 (2 ^ min (Int.toNat (IntKind.wrap IntKind.i64 (64 - Int.tmod k_ 32))) (IntKind.bits IntKind.u64)))]) *
      4 ≤
    140737488355328) then
                some ((decide (n < 0),
  (match none with
    | none => List.replicate (Int.toNat (IntKind.wrap IntKind.i64 (Int.tdiv k_ 32))) (dflt (Ty.int IntKind.u32))
    | some m => List.take m (List.replicate (Int.toNat (IntKind.wrap IntKind.i64 (Int.tdiv k_ 32))) (dflt (Ty.int IntKind.u32)))) ++
    [IntKind.wrap IntKind.u32 (IntKind.wrap IntKind.u64 (r0 * 2 ^ min (Int.toNat (Int.tmod k_ 32)) (IntKind.bits IntKind.u64))), IntKind.wrap IntKind.u32 (Int.fdiv (IntKind.wrap IntKind.u64 (r0 * 2 ^ min (Int.toNat (Int.tmod k_ 32)) (IntKind.bits IntKind.u64))) (2 ^ min (Int.toNat 32) (IntKind.bits IntKind.u64))), IntKind.wrap IntKind.u32 (Int.fdiv r1 (2 ^ min (Int.toNat (IntKind.wrap IntKind.i64 (64 - Int.tmod k_ 32))) (IntKind.bits IntKind.u64)))]))
              else
                none
            else
              none
          else
            none
        else
          none
      else
        none
    else
      bif decide (0 ≤ IntKind.wrap IntKind.i64 (Int.tdiv k_ 32)) then
        bif decide (IntKind.wrap IntKind.i64 (Int.tdiv k_ 32) ≤ IntKind.wrap IntKind.i64 (Int.tdiv k_ 32)) then
          bif decide (IntKind.wrap IntKind.i64 (Int.tdiv k_ 32) * (↑4 : Int) ≤ 140737488355328) then
            bif decide
  ((List.length
          (match none with
          | none => List.replicate (Int.toNat (IntKind.wrap IntKind.i64 (Int.tdiv k_ 32))) (dflt (Ty.int IntKind.u32))
          | some m => List.take m (List.replicate (Int.toNat (IntKind.wrap IntKind.i64 (Int.tdiv k_ 32))) (dflt (Ty.int IntKind.u32)))) +
        List.length [IntKind.wrap IntKind.u32 (IntKind.wrap IntKind.u64 (r0 * 2 ^ min (Int.toNat (Int.tmod k_ 32)) (IntKind.bits IntKind.u64))), IntKind.wrap IntKind.u32 (Int.fdiv (IntKind.wrap IntKind.u64 (r0 * 2 ^ min (Int.toNat (Int.tmod k_ 32)) (IntKind.bits IntKind.u64))) (2 ^ min (Int.toNat 32) (IntKind.bits IntKind.u64))), IntKind.wrap IntKind.u32 0]) *
      4 ≤
    140737488355328) then
              some ((decide (n < 0),
  (match none with
    | none => List.replicate (Int.toNat (IntKind.wrap IntKind.i64 (Int.tdiv k_ 32))) (dflt (Ty.int IntKind.u32))
    | some m => List.take m (List.replicate (Int.toNat (IntKind.wrap IntKind.i64 (Int.tdiv k_ 32))) (dflt (Ty.int IntKind.u32)))) ++
    [IntKind.wrap IntKind.u32 (IntKind.wrap IntKind.u64 (r0 * 2 ^ min (Int.toNat (Int.tmod k_ 32)) (IntKind.bits IntKind.u64))), IntKind.wrap IntKind.u32 (Int.fdiv (IntKind.wrap IntKind.u64 (r0 * 2 ^ min (Int.toNat (Int.tmod k_ 32)) (IntKind.bits IntKind.u64))) (2 ^ min (Int.toNat 32) (IntKind.bits IntKind.u64))), IntKind.wrap IntKind.u32 0]))
            else
              none
          else
            none
        else
          none
      else
        none
  else
    none
def s156 : Spec := ⟨false, [(.pair (.bool) (.slice 174 (.int .u32)), true)], true, .pair (.bool) (.slice 174 (.int .u32)), fun k xs => match xs with | [.int .i64 n, .int .i64 k_] => f156 k n k_ | _ => none⟩
def env60 : List (FuncId × Spec) := (156, s156) :: env59
theorem v156 (k : Nat) (n : Int) (k_ : Int) : runFn ti (envOf env59) 38 [] (finT ti true Go.Proofs.Try.f156.results.toList [(.pair (.bool) (.slice 174 (.int .u32)), true)] (.pair (.bool) (.slice 174 (.int .u32)))) k (bodyOf Go.Proofs.Try.f156) (initS 0 [.int .i64 n, .int .i64 k_]) = f156 k n k_ := by kernel_rfl
theorem m156 : Meets Go.Proofs.Try.prog 156 s156 := meets_of_run tiOk env59_ok mo Go.Proofs.Try.func156 (body := bodyOf Go.Proofs.Try.f156) (by kernel_rfl) (N := 38) (by kernel_rfl) (hs := []) (by
  intro k xs r h
  unfold s156 at h
  dsimp only at h
  split at h
  · exact ⟨Nat.le_of_ble_eq_true rfl, (v156 k _ _).trans h⟩
  · cases h)
theorem env60_ok : EnvOk Go.Proofs.Try.prog (envOf env60) := envOf_cons m156 Go.Proofs.Try.func156 (by kernel_rfl) (by kernel_rfl) env59_ok

end Go.Proofs.YtnndolcjljhhcaaE
