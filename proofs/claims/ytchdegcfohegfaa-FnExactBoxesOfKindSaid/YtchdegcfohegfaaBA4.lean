/- Functions, by the engine; printed. -/
import Derived.Test.YtchdegcfohegfaaBA3
set_option maxRecDepth 100000
set_option maxHeartbeats 4000000
set_option linter.unusedVariables false
namespace Go.Proofs.YtchdegcfohegfaaE
-- impl.copyBoxes
def h70 : Hints := [(1003, .lab [(3, .one (.deep false 31 (Ty.pair (Ty.int IntKind.i64) (Ty.pair (Ty.slice 3 (Ty.int IntKind.i64)) (Ty.slice 3 (Ty.int IntKind.i64)))))), (6, .one (.frz 31 (Ty.pair (Ty.int IntKind.i64) (Ty.pair (Ty.slice 3 (Ty.int IntKind.i64)) (Ty.slice 3 (Ty.int IntKind.i64)))))), (7, .one (.v)), (8, .one (.v))])]
noncomputable def F70_1003 (k : Nat) (rec1003 : List (Int × List Int × List Int) → List (Int × List Int × List Int) → Int → Int → Option (List (Int × (List (Int)) × List (Int)))) (outs : List (Int × List Int × List Int)) (t6 : List (Int × List Int × List Int)) (t7 : Int) (t8 : Int) : Option (List (Int × (List (Int)) × List (Int))) :=
  bif decide (t8 < t7) then
    bif boundA t8 (List.length t6) then
      (f88 k (List.getD t6 (Int.toNat t8) (0, [], [])).snd.fst).bind fun r0 =>
      (f88 k (List.getD t6 (Int.toNat t8) (0, [], [])).snd.snd).bind fun r1 =>
      bif decide ((List.length outs + List.length [((List.getD t6 (Int.toNat t8) (0, [], [])).fst, r0, r1)]) * 56 ≤ 140737488355328) then
        rec1003 (outs ++ [((List.getD t6 (Int.toNat t8) (0, [], [])).fst, r0, r1)]) t6 t7 (IntKind.wrap IntKind.i64 (t8 + 1))
      else
        none
    else
      none
  else
    some outs
noncomputable def F70 (k : Nat) (rec1003 : List (Int × List Int × List Int) → List (Int × List Int × List Int) → Int → Int → Option (List (Int × (List (Int)) × List (Int)))) (l : List (Int × (List (Int)) × List (Int))) : Option (List (Int × (List (Int)) × List (Int))) :=
  rec1003 ([]) l ((↑(List.length l) : Int)) (0)
noncomputable def l70 : Nat → (List (Int × List Int × List Int) → List (Int × List Int × List Int) → Int → Int → Option (List (Int × (List (Int)) × List (Int))))
  | 0 => fun _ _ _ _ => none
  | k + 1 => F70_1003 k (l70 k)
noncomputable def f70 (k : Nat) (l : List (Int × (List (Int)) × List (Int))) : Option (List (Int × (List (Int)) × List (Int))) := F70 k (l70 k) l
noncomputable def s70 : Spec := ⟨false, [(.slice 31 (.pair (.int .i64) (.pair (.slice 3 (.int .i64)) (.slice 3 (.int .i64)))), false)], true, .slice 31 (.pair (.int .i64) (.pair (.slice 3 (.int .i64)) (.slice 3 (.int .i64)))), fun k xs => match xs with | [.slc 31 (.pair (.int .i64) (.pair (.slice 3 (.int .i64)) (.slice 3 (.int .i64)))) l] => f70 k l | _ => none, false, none, true⟩
noncomputable def env37 : List (FuncId × Spec) := (70, s70) :: env36
noncomputable abbrev x70 := exec ti (envOf env36) 26 h70 (finD ti Go.Proofs.Try.f70.results.toList [(.slice 31 (.pair (.int .i64) (.pair (.slice 3 (.int .i64)) (.slice 3 (.int .i64)))), false)] (.slice 31 (.pair (.int .i64) (.pair (.slice 3 (.int .i64)) (.slice 3 (.int .i64))))))
noncomputable def k70_1003 : List It := stackAt [.r, .r, .l, .r, .b, .lb none] (bodyOf Go.Proofs.Try.f70) []
def t70_1003 (outs : List (Int × List Int × List Int)) (t6 : List (Int × List Int × List Int)) (t7 : Int) (t8 : Int) : St := [(6, Cell.val (AVal.ref 33 none)), (33, Cell.deep 31 (Ty.pair (Ty.int IntKind.i64) (Ty.pair (Ty.slice 3 (Ty.int IntKind.i64)) (Ty.slice 3 (Ty.int IntKind.i64)))) 0 outs none), (12, Cell.val (AVal.slc 31 (Ty.pair (Ty.int IntKind.i64) (Ty.pair (Ty.slice 3 (Ty.int IntKind.i64)) (Ty.slice 3 (Ty.int IntKind.i64)))) t6)), (14, Cell.val (AVal.int IntKind.i64 t7)), (16, Cell.val (AVal.int IntKind.i64 t8))]
theorem e70_1003 (k : Nat) (outs : List (Int × List Int × List Int)) (t6 : List (Int × List Int × List Int)) (t7 : Int) (t8 : Int) : x70 (k + 1) k70_1003 (t70_1003 outs t6 t7 t8) = F70_1003 k (fun (outs : List (Int × List Int × List Int)) (t6 : List (Int × List Int × List Int)) (t7 : Int) (t8 : Int) => x70 k k70_1003 (t70_1003 outs t6 t7 t8)) outs t6 t7 t8 := by kernel_rfl
theorem q70 : ∀ k : Nat, (fun (outs : List (Int × List Int × List Int)) (t6 : List (Int × List Int × List Int)) (t7 : Int) (t8 : Int) => x70 k k70_1003 (t70_1003 outs t6 t7 t8)) = l70 k
  | 0 => rfl
  | k + 1 => by
    have h := q70 k
    show _ = F70_1003 k (l70 k)
    rw [← h]
    exact (funext fun outs => funext fun t6 => funext fun t7 => funext fun t8 => e70_1003 k outs t6 t7 t8)
theorem w70 (k : Nat) (l : List (Int × (List (Int)) × List (Int))) : runFn ti (envOf env36) 26 h70 (finD ti Go.Proofs.Try.f70.results.toList [(.slice 31 (.pair (.int .i64) (.pair (.slice 3 (.int .i64)) (.slice 3 (.int .i64)))), false)] (.slice 31 (.pair (.int .i64) (.pair (.slice 3 (.int .i64)) (.slice 3 (.int .i64)))))) k (bodyOf Go.Proofs.Try.f70) (initS 0 [.slc 31 (.pair (.int .i64) (.pair (.slice 3 (.int .i64)) (.slice 3 (.int .i64)))) l]) = F70 k (fun (outs : List (Int × List Int × List Int)) (t6 : List (Int × List Int × List Int)) (t7 : Int) (t8 : Int) => x70 k k70_1003 (t70_1003 outs t6 t7 t8)) l := by kernel_rfl
theorem v70 (k : Nat) (l : List (Int × (List (Int)) × List (Int))) : runFn ti (envOf env36) 26 h70 (finD ti Go.Proofs.Try.f70.results.toList [(.slice 31 (.pair (.int .i64) (.pair (.slice 3 (.int .i64)) (.slice 3 (.int .i64)))), false)] (.slice 31 (.pair (.int .i64) (.pair (.slice 3 (.int .i64)) (.slice 3 (.int .i64)))))) k (bodyOf Go.Proofs.Try.f70) (initS 0 [.slc 31 (.pair (.int .i64) (.pair (.slice 3 (.int .i64)) (.slice 3 (.int .i64)))) l]) = f70 k l := by
  rw [w70]
  have h := q70 k
  unfold f70
  rw [← h]
theorem m70 : Meets Go.Proofs.Try.prog 70 s70 := meets_deep_of_run tiOk env36_ok mo Go.Proofs.Try.func70 (body := bodyOf Go.Proofs.Try.f70) (by kernel_rfl) (N := 26) (by kernel_rfl) (hs := h70) (by
  intro k xs r h
  unfold s70 at h
  dsimp only at h
  split at h
  · exact ⟨Nat.le_of_ble_eq_true rfl, (v70 k _).trans h⟩
  · cases h)
theorem env37_ok : EnvOk Go.Proofs.Try.prog (envOf env37) := envOf_cons m70 Go.Proofs.Try.func70 (by kernel_rfl) (by kernel_rfl) env36_ok

-- impl.leafBoxes
def h41 : Hints := [(1004, .lab [(6, .one (.own 31 (Ty.pair (Ty.int IntKind.i64) (Ty.pair (Ty.slice 3 (Ty.int IntKind.i64)) (Ty.slice 3 (Ty.int IntKind.i64)))))), (7, .one (.own 31 (Ty.pair (Ty.int IntKind.i64) (Ty.pair (Ty.slice 3 (Ty.int IntKind.i64)) (Ty.slice 3 (Ty.int IntKind.i64)))))), (17, .one (.frz 57 (Ty.pair (Ty.int IntKind.i64) (Ty.int IntKind.i64)))), (18, .one (.v)), (19, .one (.v))])]
noncomputable def F41_1004 (k : Nat) (rec1004 : List (Int × List Int × List Int) → List (Int × List Int × List Int) → List (Int × Int) → Int → Int → Option ((List (Int × (List (Int)) × List (Int))) × Bool)) (open_s : List (Int × List Int × List Int)) (outs : List (Int × List Int × List Int)) (t17 : List (Int × Int)) (t18 : Int) (t19 : Int) : Option ((List (Int × (List (Int)) × List (Int))) × Bool) :=
  bif decide (t19 < t18) then
    bif boundA t19 (List.length t17) then
      bif boundA (IntKind.wrap IntKind.i64 ((↑(List.length open_s) : Int) - 1)) (List.length open_s) then
        bif Nat.blt (Int.toNat (IntKind.wrap IntKind.i64 ((↑(List.length open_s) : Int) - 1))) (List.length open_s) then
          bif boundE (IntKind.wrap IntKind.i64 ((↑(List.length open_s) : Int) - 1)) (List.length open_s) then
            bif !decide ((List.getD t17 (Int.toNat t19) (0, 0)).fst = 0) then
              bif decide ((List.length outs + List.length [((List.getD open_s (Int.toNat (IntKind.wrap IntKind.i64 ((↑(List.length open_s) : Int) - 1))) (0, [], [])).fst, (List.getD open_s (Int.toNat (IntKind.wrap IntKind.i64 ((↑(List.length open_s) : Int) - 1))) (0, [], [])).snd.fst, (List.getD open_s (Int.toNat (IntKind.wrap IntKind.i64 ((↑(List.length open_s) : Int) - 1))) (0, [], [])).snd.snd)]) * 56 ≤ 140737488355328) then
                rec1004 (List.take (Int.toNat (IntKind.wrap IntKind.i64 ((↑(List.length open_s) : Int) - 1))) open_s) (outs ++ [((List.getD open_s (Int.toNat (IntKind.wrap IntKind.i64 ((↑(List.length open_s) : Int) - 1))) (0, [], [])).fst, (List.getD open_s (Int.toNat (IntKind.wrap IntKind.i64 ((↑(List.length open_s) : Int) - 1))) (0, [], [])).snd.fst, (List.getD open_s (Int.toNat (IntKind.wrap IntKind.i64 ((↑(List.length open_s) : Int) - 1))) (0, [], [])).snd.snd)]) t17 t18 (IntKind.wrap IntKind.i64 (t19 + 1))
              else
                none
            else
              (f69 k ((List.getD open_s (Int.toNat (IntKind.wrap IntKind.i64 ((↑(List.length open_s) : Int) - 1))) (0, [], [])).fst, (List.getD open_s (Int.toNat (IntKind.wrap IntKind.i64 ((↑(List.length open_s) : Int) - 1))) (0, [], [])).snd.fst, (List.getD open_s (Int.toNat (IntKind.wrap IntKind.i64 ((↑(List.length open_s) : Int) - 1))) (0, [], [])).snd.snd) (List.getD t17 (Int.toNat t19) (0, 0)).snd).bind fun r0 =>
              bif !r0.snd then
                some (([], false))
              else
                bif boundA 1 (List.length r0.fst) then
                  bif Nat.blt (Int.toNat 1) (List.length r0.fst) then
                    bif boundA 0 (List.length r0.fst) then
                      bif Nat.blt (Int.toNat 0) (List.length r0.fst) then
                        bif decide ((List.length (List.take (Int.toNat (IntKind.wrap IntKind.i64 ((↑(List.length open_s) : Int) - 1))) open_s) + List.length [((List.getD r0.fst (Int.toNat 1) (0, [], [])).fst, (List.getD r0.fst (Int.toNat 1) (0, [], [])).snd.fst, (List.getD r0.fst (Int.toNat 1) (0, [], [])).snd.snd), ((List.getD r0.fst (Int.toNat 0) (0, [], [])).fst, (List.getD r0.fst (Int.toNat 0) (0, [], [])).snd.fst, (List.getD r0.fst (Int.toNat 0) (0, [], [])).snd.snd)]) * 56 ≤ 140737488355328) then
                          rec1004 (List.take (Int.toNat (IntKind.wrap IntKind.i64 ((↑(List.length open_s) : Int) - 1))) open_s ++ [((List.getD r0.fst (Int.toNat 1) (0, [], [])).fst, (List.getD r0.fst (Int.toNat 1) (0, [], [])).snd.fst, (List.getD r0.fst (Int.toNat 1) (0, [], [])).snd.snd), ((List.getD r0.fst (Int.toNat 0) (0, [], [])).fst, (List.getD r0.fst (Int.toNat 0) (0, [], [])).snd.fst, (List.getD r0.fst (Int.toNat 0) (0, [], [])).snd.snd)]) outs t17 t18 (IntKind.wrap IntKind.i64 (t19 + 1))
                        else
                          none
                      else
                        none
                    else
                      none
                  else
                    none
                else
                  none
          else
            none
        else
          none
      else
        none
    else
      none
  else
    (f70 k outs).bind fun r1 =>
    some ((r1, true))
noncomputable def F41 (k : Nat) (rec1004 : List (Int × List Int × List Int) → List (Int × List Int × List Int) → List (Int × Int) → Int → Int → Option ((List (Int × (List (Int)) × List (Int))) × Bool)) (b : Int × (List (Int)) × List (Int)) (l : List (Int × Int)) : Option ((List (Int × (List (Int)) × List (Int))) × Bool) :=
  rec1004 ([(b.fst, b.snd.fst, b.snd.snd)]) ([]) l ((↑(List.length l) : Int)) (0)
noncomputable def l41 : Nat → (List (Int × List Int × List Int) → List (Int × List Int × List Int) → List (Int × Int) → Int → Int → Option ((List (Int × (List (Int)) × List (Int))) × Bool))
  | 0 => fun _ _ _ _ _ => none
  | k + 1 => F41_1004 k (l41 k)
noncomputable def f41 (k : Nat) (b : Int × (List (Int)) × List (Int)) (l : List (Int × Int)) : Option ((List (Int × (List (Int)) × List (Int))) × Bool) := F41 k (l41 k) b l
noncomputable def s41 : Spec := ⟨false, [(.slice 31 (.pair (.int .i64) (.pair (.slice 3 (.int .i64)) (.slice 3 (.int .i64)))), false), (.bool, false)], true, .pair (.slice 31 (.pair (.int .i64) (.pair (.slice 3 (.int .i64)) (.slice 3 (.int .i64))))) (.bool), fun k xs => match xs with | [.fptr (.pair (.int .i64) (.pair (.slice 3 (.int .i64)) (.slice 3 (.int .i64)))) b, .slc 57 (.pair (.int .i64) (.int .i64)) l] => f41 k b l | _ => none, false, none, true⟩
noncomputable def env38 : List (FuncId × Spec) := (41, s41) :: env37
noncomputable abbrev x41 := exec tiC (envOf env37) 61 h41 (finD tiC Go.Proofs.Try.f41.results.toList [(.slice 31 (.pair (.int .i64) (.pair (.slice 3 (.int .i64)) (.slice 3 (.int .i64)))), false), (.bool, false)] (.pair (.slice 31 (.pair (.int .i64) (.pair (.slice 3 (.int .i64)) (.slice 3 (.int .i64))))) (.bool)))
noncomputable def k41_1004 : List It := stackAt [.r, .r, .r, .l, .r, .b, .lb none] (bodyOf Go.Proofs.Try.f41) []
def t41_1004 (open_s : List (Int × List Int × List Int)) (outs : List (Int × List Int × List Int)) (t17 : List (Int × Int)) (t18 : Int) (t19 : Int) : St := [(12, Cell.val (AVal.ref 33 none)), (33, Cell.row true 31 (Ty.pair (Ty.int IntKind.i64) (Ty.pair (Ty.slice 3 (Ty.int IntKind.i64)) (Ty.slice 3 (Ty.int IntKind.i64)))) open_s), (14, Cell.val (AVal.ref 35 none)), (35, Cell.row true 31 (Ty.pair (Ty.int IntKind.i64) (Ty.pair (Ty.slice 3 (Ty.int IntKind.i64)) (Ty.slice 3 (Ty.int IntKind.i64)))) outs), (34, Cell.val (AVal.slc 57 (Ty.pair (Ty.int IntKind.i64) (Ty.int IntKind.i64)) t17)), (36, Cell.val (AVal.int IntKind.i64 t18)), (38, Cell.val (AVal.int IntKind.i64 t19))]
theorem e41_1004 (k : Nat) (open_s : List (Int × List Int × List Int)) (outs : List (Int × List Int × List Int)) (t17 : List (Int × Int)) (t18 : Int) (t19 : Int) : x41 (k + 1) k41_1004 (t41_1004 open_s outs t17 t18 t19) = F41_1004 k (fun (open_s : List (Int × List Int × List Int)) (outs : List (Int × List Int × List Int)) (t17 : List (Int × Int)) (t18 : Int) (t19 : Int) => x41 k k41_1004 (t41_1004 open_s outs t17 t18 t19)) open_s outs t17 t18 t19 := by kernel_rfl
theorem q41 : ∀ k : Nat, (fun (open_s : List (Int × List Int × List Int)) (outs : List (Int × List Int × List Int)) (t17 : List (Int × Int)) (t18 : Int) (t19 : Int) => x41 k k41_1004 (t41_1004 open_s outs t17 t18 t19)) = l41 k
  | 0 => rfl
  | k + 1 => by
    have h := q41 k
    show _ = F41_1004 k (l41 k)
    rw [← h]
    exact (funext fun open_s => funext fun outs => funext fun t17 => funext fun t18 => funext fun t19 => e41_1004 k open_s outs t17 t18 t19)
theorem w41 (k : Nat) (b : Int × (List (Int)) × List (Int)) (l : List (Int × Int)) : runFn tiC (envOf env37) 61 h41 (finD tiC Go.Proofs.Try.f41.results.toList [(.slice 31 (.pair (.int .i64) (.pair (.slice 3 (.int .i64)) (.slice 3 (.int .i64)))), false), (.bool, false)] (.pair (.slice 31 (.pair (.int .i64) (.pair (.slice 3 (.int .i64)) (.slice 3 (.int .i64))))) (.bool))) k (bodyOf Go.Proofs.Try.f41) (initS 0 [.fptr (.pair (.int .i64) (.pair (.slice 3 (.int .i64)) (.slice 3 (.int .i64)))) b, .slc 57 (.pair (.int .i64) (.int .i64)) l]) = F41 k (fun (open_s : List (Int × List Int × List Int)) (outs : List (Int × List Int × List Int)) (t17 : List (Int × Int)) (t18 : Int) (t19 : Int) => x41 k k41_1004 (t41_1004 open_s outs t17 t18 t19)) b l := by kernel_rfl
theorem v41 (k : Nat) (b : Int × (List (Int)) × List (Int)) (l : List (Int × Int)) : runFn tiC (envOf env37) 61 h41 (finD tiC Go.Proofs.Try.f41.results.toList [(.slice 31 (.pair (.int .i64) (.pair (.slice 3 (.int .i64)) (.slice 3 (.int .i64)))), false), (.bool, false)] (.pair (.slice 31 (.pair (.int .i64) (.pair (.slice 3 (.int .i64)) (.slice 3 (.int .i64))))) (.bool))) k (bodyOf Go.Proofs.Try.f41) (initS 0 [.fptr (.pair (.int .i64) (.pair (.slice 3 (.int .i64)) (.slice 3 (.int .i64)))) b, .slc 57 (.pair (.int .i64) (.int .i64)) l]) = f41 k b l := by
  rw [w41]
  have h := q41 k
  unfold f41
  rw [← h]
theorem m41 : Meets Go.Proofs.Try.prog 41 s41 := meets_deep_of_run tiCOk env37_ok mo Go.Proofs.Try.func41 (body := bodyOf Go.Proofs.Try.f41) (by kernel_rfl) (N := 61) (by kernel_rfl) (hs := h41) (by
  intro k xs r h
  unfold s41 at h
  dsimp only at h
  split at h
  · exact ⟨Nat.le_of_ble_eq_true rfl, (v41 k _ _).trans h⟩
  · cases h)
theorem env38_ok : EnvOk Go.Proofs.Try.prog (envOf env38) := envOf_cons m41 Go.Proofs.Try.func41 (by kernel_rfl) (by kernel_rfl) env37_ok

-- impl.BoxesOf
noncomputable def f12 (k : Nat) (b_K : Int) (b_Low : List (Int)) (b_High : List (Int)) (l : List (Int × Int)) : Option ((List (Int × (List (Int)) × List (Int))) × Bool) :=
  (f39 k (b_K, b_Low, b_High)).bind fun r0 =>
  bif !r0 then
    some (([], false))
  else
    (f40 k l (↑(List.length b_Low) : Int)).bind fun r1 =>
    bif !r1 then
      some (([], false))
    else
      (f41 k (b_K, b_Low, b_High) l).bind fun r2 =>
      some ((r2.fst, r2.snd))
noncomputable def s12 : Spec := ⟨false, [(.slice 31 (.pair (.int .i64) (.pair (.slice 3 (.int .i64)) (.slice 3 (.int .i64)))), false), (.bool, false)], true, .pair (.slice 31 (.pair (.int .i64) (.pair (.slice 3 (.int .i64)) (.slice 3 (.int .i64))))) (.bool), fun k xs => match xs with | [.agg [.int .i64 b_K, .slc 3 (.int .i64) b_Low, .slc 3 (.int .i64) b_High], .slc 57 (.pair (.int .i64) (.int .i64)) l] => f12 k b_K b_Low b_High l | _ => none, false, none, true⟩
noncomputable def env39 : List (FuncId × Spec) := (12, s12) :: env38
theorem v12 (k : Nat) (b_K : Int) (b_Low : List (Int)) (b_High : List (Int)) (l : List (Int × Int)) : runFn ti (envOf env38) 20 [] (finD ti Go.Proofs.Try.f12.results.toList [(.slice 31 (.pair (.int .i64) (.pair (.slice 3 (.int .i64)) (.slice 3 (.int .i64)))), false), (.bool, false)] (.pair (.slice 31 (.pair (.int .i64) (.pair (.slice 3 (.int .i64)) (.slice 3 (.int .i64))))) (.bool))) k (bodyOf Go.Proofs.Try.f12) (initS 0 [.agg [.int .i64 b_K, .slc 3 (.int .i64) b_Low, .slc 3 (.int .i64) b_High], .slc 57 (.pair (.int .i64) (.int .i64)) l]) = f12 k b_K b_Low b_High l := by kernel_rfl
theorem m12 : Meets Go.Proofs.Try.prog 12 s12 := meets_deep_of_run tiOk env38_ok mo Go.Proofs.Try.func12 (body := bodyOf Go.Proofs.Try.f12) (by kernel_rfl) (N := 20) (by kernel_rfl) (hs := []) (by
  intro k xs r h
  unfold s12 at h
  dsimp only at h
  split at h
  · exact ⟨Nat.le_of_ble_eq_true rfl, (v12 k _ _ _ _).trans h⟩
  · cases h)
theorem env39_ok : EnvOk Go.Proofs.Try.prog (envOf env39) := envOf_cons m12 Go.Proofs.Try.func12 (by kernel_rfl) (by kernel_rfl) env38_ok

-- laws.eqIntS
def h56 : Hints := [(1004, .lab [(0, .one (.frz 3 (Ty.int IntKind.i64))), (1, .one (.frz 3 (Ty.int IntKind.i64))), (5, .one (.v))])]
noncomputable def F56_1004 (k : Nat) (rec1004 : List Int → List Int → Int → Option (Bool)) (a : List Int) (b : List Int) (i : Int) : Option (Bool) :=
  bif decide (i < (↑(List.length a) : Int)) then
    bif boundA i (List.length a) then
      bif boundA i (List.length b) then
        bif !decide (List.getD a (Int.toNat i) 0 = List.getD b (Int.toNat i) 0) then
          some false
        else
          rec1004 a b (IntKind.wrap IntKind.i64 (i + 1))
      else
        none
    else
      none
  else
    some true
noncomputable def F56 (k : Nat) (rec1004 : List Int → List Int → Int → Option (Bool)) (a : List (Int)) (b : List (Int)) : Option (Bool) :=
  bif !decide ((↑(List.length a) : Int) = (↑(List.length b) : Int)) then
    some false
  else
    rec1004 a b (0)
noncomputable def l56 : Nat → (List Int → List Int → Int → Option (Bool))
  | 0 => fun _ _ _ => none
  | k + 1 => F56_1004 k (l56 k)
noncomputable def f56 (k : Nat) (a : List (Int)) (b : List (Int)) : Option (Bool) := F56 k (l56 k) a b
noncomputable def s56 : Spec := ⟨false, [(.bool, false)], true, .bool, fun k xs => match xs with | [.slc 3 (.int .i64) a, .slc 3 (.int .i64) b] => f56 k a b | _ => none, false, none, false⟩
noncomputable def env40 : List (FuncId × Spec) := (56, s56) :: env39
noncomputable abbrev x56 := exec ti (envOf env39) 26 h56 (finT ti true Go.Proofs.Try.f56.results.toList [(.bool, false)] (.bool))
noncomputable def k56_1004 : List It := stackAt [.r, .r, .l, .r, .b, .lb none] (bodyOf Go.Proofs.Try.f56) []
def t56_1004 (a : List Int) (b : List Int) (i : Int) : St := [(0, Cell.val (AVal.slc 3 (Ty.int IntKind.i64) a)), (2, Cell.val (AVal.slc 3 (Ty.int IntKind.i64) b)), (10, Cell.val (AVal.int IntKind.i64 i))]
theorem e56_1004 (k : Nat) (a : List Int) (b : List Int) (i : Int) : x56 (k + 1) k56_1004 (t56_1004 a b i) = F56_1004 k (fun (a : List Int) (b : List Int) (i : Int) => x56 k k56_1004 (t56_1004 a b i)) a b i := by kernel_rfl
theorem q56 : ∀ k : Nat, (fun (a : List Int) (b : List Int) (i : Int) => x56 k k56_1004 (t56_1004 a b i)) = l56 k
  | 0 => rfl
  | k + 1 => by
    have h := q56 k
    show _ = F56_1004 k (l56 k)
    rw [← h]
    exact (funext fun a => funext fun b => funext fun i => e56_1004 k a b i)
theorem w56 (k : Nat) (a : List (Int)) (b : List (Int)) : runFn ti (envOf env39) 26 h56 (finT ti true Go.Proofs.Try.f56.results.toList [(.bool, false)] (.bool)) k (bodyOf Go.Proofs.Try.f56) (initS 0 [.slc 3 (.int .i64) a, .slc 3 (.int .i64) b]) = F56 k (fun (a : List Int) (b : List Int) (i : Int) => x56 k k56_1004 (t56_1004 a b i)) a b := by kernel_rfl
theorem v56 (k : Nat) (a : List (Int)) (b : List (Int)) : runFn ti (envOf env39) 26 h56 (finT ti true Go.Proofs.Try.f56.results.toList [(.bool, false)] (.bool)) k (bodyOf Go.Proofs.Try.f56) (initS 0 [.slc 3 (.int .i64) a, .slc 3 (.int .i64) b]) = f56 k a b := by
  rw [w56]
  have h := q56 k
  unfold f56
  rw [← h]
theorem m56 : Meets Go.Proofs.Try.prog 56 s56 := meets_of_run tiOk env39_ok mo Go.Proofs.Try.func56 (body := bodyOf Go.Proofs.Try.f56) (by kernel_rfl) (N := 26) (by kernel_rfl) (hs := h56) (by
  intro k xs r h
  unfold s56 at h
  dsimp only at h
  split at h
  · exact ⟨Nat.le_of_ble_eq_true rfl, (v56 k _ _).trans h⟩
  · cases h)
theorem env40_ok : EnvOk Go.Proofs.Try.prog (envOf env40) := envOf_cons m56 Go.Proofs.Try.func56 (by kernel_rfl) (by kernel_rfl) env39_ok

-- laws.eqBox
noncomputable def f24 (k : Nat) (a_K : Int) (a_Low : List (Int)) (a_High : List (Int)) (b_K : Int) (b_Low : List (Int)) (b_High : List (Int)) : Option (Bool) :=
  bif !decide (a_K = b_K) then
    some false
  else
    (f56 k a_Low b_Low).bind fun r0 =>
    bif !r0 then
      some false
    else
      (f56 k a_High b_High).bind fun r1 =>
      bif !r1 then
        some false
      else
        some true
noncomputable def s24 : Spec := ⟨false, [(.bool, false)], true, .bool, fun k xs => match xs with | [.agg [.int .i64 a_K, .slc 3 (.int .i64) a_Low, .slc 3 (.int .i64) a_High], .agg [.int .i64 b_K, .slc 3 (.int .i64) b_Low, .slc 3 (.int .i64) b_High]] => f24 k a_K a_Low a_High b_K b_Low b_High | _ => none, false, none, false⟩
noncomputable def env41 : List (FuncId × Spec) := (24, s24) :: env40
theorem v24 (k : Nat) (a_K : Int) (a_Low : List (Int)) (a_High : List (Int)) (b_K : Int) (b_Low : List (Int)) (b_High : List (Int)) : runFn ti (envOf env40) 22 [] (finT ti true Go.Proofs.Try.f24.results.toList [(.bool, false)] (.bool)) k (bodyOf Go.Proofs.Try.f24) (initS 0 [.agg [.int .i64 a_K, .slc 3 (.int .i64) a_Low, .slc 3 (.int .i64) a_High], .agg [.int .i64 b_K, .slc 3 (.int .i64) b_Low, .slc 3 (.int .i64) b_High]]) = f24 k a_K a_Low a_High b_K b_Low b_High := by kernel_rfl
theorem m24 : Meets Go.Proofs.Try.prog 24 s24 := meets_of_run tiOk env40_ok mo Go.Proofs.Try.func24 (body := bodyOf Go.Proofs.Try.f24) (by kernel_rfl) (N := 22) (by kernel_rfl) (hs := []) (by
  intro k xs r h
  unfold s24 at h
  dsimp only at h
  split at h
  · exact ⟨Nat.le_of_ble_eq_true rfl, (v24 k _ _ _ _ _ _).trans h⟩
  · cases h)
theorem env41_ok : EnvOk Go.Proofs.Try.prog (envOf env41) := envOf_cons m24 Go.Proofs.Try.func24 (by kernel_rfl) (by kernel_rfl) env40_ok

-- laws.eqBoxS
def h13 : Hints := [(1004, .lab [(0, .one (.frz 31 (Ty.pair (Ty.int IntKind.i64) (Ty.pair (Ty.slice 3 (Ty.int IntKind.i64)) (Ty.slice 3 (Ty.int IntKind.i64)))))), (1, .one (.frz 31 (Ty.pair (Ty.int IntKind.i64) (Ty.pair (Ty.slice 3 (Ty.int IntKind.i64)) (Ty.slice 3 (Ty.int IntKind.i64)))))), (5, .one (.v))])]
noncomputable def F13_1004 (k : Nat) (rec1004 : List (Int × List Int × List Int) → List (Int × List Int × List Int) → Int → Option (Bool)) (a : List (Int × List Int × List Int)) (b : List (Int × List Int × List Int)) (i : Int) : Option (Bool) :=
  bif decide (i < (↑(List.length a) : Int)) then
    bif boundA i (List.length a) then
      bif boundA i (List.length b) then
        (f24 k (List.getD a (Int.toNat i) (0, [], [])).fst (List.getD a (Int.toNat i) (0, [], [])).snd.fst (List.getD a (Int.toNat i) (0, [], [])).snd.snd (List.getD b (Int.toNat i) (0, [], [])).fst (List.getD b (Int.toNat i) (0, [], [])).snd.fst (List.getD b (Int.toNat i) (0, [], [])).snd.snd).bind fun r0 =>
        bif !r0 then
          some false
        else
          rec1004 a b (IntKind.wrap IntKind.i64 (i + 1))
      else
        none
    else
      none
  else
    some true
noncomputable def F13 (k : Nat) (rec1004 : List (Int × List Int × List Int) → List (Int × List Int × List Int) → Int → Option (Bool)) (a : List (Int × (List (Int)) × List (Int))) (b : List (Int × (List (Int)) × List (Int))) : Option (Bool) :=
  bif !decide ((↑(List.length a) : Int) = (↑(List.length b) : Int)) then
    some false
  else
    rec1004 a b (0)
noncomputable def l13 : Nat → (List (Int × List Int × List Int) → List (Int × List Int × List Int) → Int → Option (Bool))
  | 0 => fun _ _ _ => none
  | k + 1 => F13_1004 k (l13 k)
noncomputable def f13 (k : Nat) (a : List (Int × (List (Int)) × List (Int))) (b : List (Int × (List (Int)) × List (Int))) : Option (Bool) := F13 k (l13 k) a b
noncomputable def s13 : Spec := ⟨false, [(.bool, false)], true, .bool, fun k xs => match xs with | [.slc 31 (.pair (.int .i64) (.pair (.slice 3 (.int .i64)) (.slice 3 (.int .i64)))) a, .slc 31 (.pair (.int .i64) (.pair (.slice 3 (.int .i64)) (.slice 3 (.int .i64)))) b] => f13 k a b | _ => none, false, none, false⟩
noncomputable def env42 : List (FuncId × Spec) := (13, s13) :: env41
noncomputable abbrev x13 := exec ti (envOf env41) 27 h13 (finT ti true Go.Proofs.Try.f13.results.toList [(.bool, false)] (.bool))
noncomputable def k13_1004 : List It := stackAt [.r, .r, .l, .r, .b, .lb none] (bodyOf Go.Proofs.Try.f13) []
def t13_1004 (a : List (Int × List Int × List Int)) (b : List (Int × List Int × List Int)) (i : Int) : St := [(0, Cell.val (AVal.slc 31 (Ty.pair (Ty.int IntKind.i64) (Ty.pair (Ty.slice 3 (Ty.int IntKind.i64)) (Ty.slice 3 (Ty.int IntKind.i64)))) a)), (2, Cell.val (AVal.slc 31 (Ty.pair (Ty.int IntKind.i64) (Ty.pair (Ty.slice 3 (Ty.int IntKind.i64)) (Ty.slice 3 (Ty.int IntKind.i64)))) b)), (10, Cell.val (AVal.int IntKind.i64 i))]
theorem e13_1004 (k : Nat) (a : List (Int × List Int × List Int)) (b : List (Int × List Int × List Int)) (i : Int) : x13 (k + 1) k13_1004 (t13_1004 a b i) = F13_1004 k (fun (a : List (Int × List Int × List Int)) (b : List (Int × List Int × List Int)) (i : Int) => x13 k k13_1004 (t13_1004 a b i)) a b i := by kernel_rfl
theorem q13 : ∀ k : Nat, (fun (a : List (Int × List Int × List Int)) (b : List (Int × List Int × List Int)) (i : Int) => x13 k k13_1004 (t13_1004 a b i)) = l13 k
  | 0 => rfl
  | k + 1 => by
    have h := q13 k
    show _ = F13_1004 k (l13 k)
    rw [← h]
    exact (funext fun a => funext fun b => funext fun i => e13_1004 k a b i)
theorem w13 (k : Nat) (a : List (Int × (List (Int)) × List (Int))) (b : List (Int × (List (Int)) × List (Int))) : runFn ti (envOf env41) 27 h13 (finT ti true Go.Proofs.Try.f13.results.toList [(.bool, false)] (.bool)) k (bodyOf Go.Proofs.Try.f13) (initS 0 [.slc 31 (.pair (.int .i64) (.pair (.slice 3 (.int .i64)) (.slice 3 (.int .i64)))) a, .slc 31 (.pair (.int .i64) (.pair (.slice 3 (.int .i64)) (.slice 3 (.int .i64)))) b]) = F13 k (fun (a : List (Int × List Int × List Int)) (b : List (Int × List Int × List Int)) (i : Int) => x13 k k13_1004 (t13_1004 a b i)) a b := by kernel_rfl
theorem v13 (k : Nat) (a : List (Int × (List (Int)) × List (Int))) (b : List (Int × (List (Int)) × List (Int))) : runFn ti (envOf env41) 27 h13 (finT ti true Go.Proofs.Try.f13.results.toList [(.bool, false)] (.bool)) k (bodyOf Go.Proofs.Try.f13) (initS 0 [.slc 31 (.pair (.int .i64) (.pair (.slice 3 (.int .i64)) (.slice 3 (.int .i64)))) a, .slc 31 (.pair (.int .i64) (.pair (.slice 3 (.int .i64)) (.slice 3 (.int .i64)))) b]) = f13 k a b := by
  rw [w13]
  have h := q13 k
  unfold f13
  rw [← h]
theorem m13 : Meets Go.Proofs.Try.prog 13 s13 := meets_of_run tiOk env41_ok mo Go.Proofs.Try.func13 (body := bodyOf Go.Proofs.Try.f13) (by kernel_rfl) (N := 27) (by kernel_rfl) (hs := h13) (by
  intro k xs r h
  unfold s13 at h
  dsimp only at h
  split at h
  · exact ⟨Nat.le_of_ble_eq_true rfl, (v13 k _ _).trans h⟩
  · cases h)
theorem env42_ok : EnvOk Go.Proofs.Try.prog (envOf env42) := envOf_cons m13 Go.Proofs.Try.func13 (by kernel_rfl) (by kernel_rfl) env41_ok

-- laws.intactIntS
noncomputable def f42 (k : Nat) (x : List (Int)) (x_n : Nat) (y : List (Int)) (y_n : Nat) : Option (Bool) :=
  (f36 k (↑y_n : Int)).bind fun r0 =>
  bif decide ((↑x_n : Int) = (↑y_n : Int)) then
    bif boundE (IntKind.wrap IntKind.i64 ((↑y_n : Int) + r0)) (List.length x) then
      bif decide (0 ≤ 0) && decide (0 ≤ IntKind.wrap IntKind.i64 ((↑y_n : Int) + r0)) then
        bif boundE (IntKind.wrap IntKind.i64 ((↑y_n : Int) + r0)) (List.length y) then
          bif decide (0 ≤ 0) && decide (0 ≤ IntKind.wrap IntKind.i64 ((↑y_n : Int) + r0)) then
            (f56 k (List.drop (Int.toNat 0) (List.take (Int.toNat (IntKind.wrap IntKind.i64 ((↑y_n : Int) + r0))) x)) (List.drop (Int.toNat 0) (List.take (Int.toNat (IntKind.wrap IntKind.i64 ((↑y_n : Int) + r0))) y))).bind fun r1 =>
            some r1
          else
            none
        else
          none
      else
        none
    else
      none
  else
    some false
noncomputable def s42 : Spec := ⟨true, [(.bool, false)], true, .bool, fun k xs => match xs with | [.vslc 3 (.int .i64) x x_n, .vslc 3 (.int .i64) y y_n] => f42 k x x_n y y_n | _ => none, false, none, false⟩
noncomputable def env43 : List (FuncId × Spec) := (42, s42) :: env42
theorem v42 (k : Nat) (x : List (Int)) (x_n : Nat) (y : List (Int)) (y_n : Nat) : runFn tiV (envOf env42) 26 [] (finT tiV true Go.Proofs.Try.f42.results.toList [(.bool, false)] (.bool)) k (bodyOf Go.Proofs.Try.f42) (initS 0 [.vslc 3 (.int .i64) x x_n, .vslc 3 (.int .i64) y y_n]) = f42 k x x_n y y_n := by kernel_rfl
theorem m42 : Meets Go.Proofs.Try.prog 42 s42 := meets_of_run tiVOk env42_ok mo Go.Proofs.Try.func42 (body := bodyOf Go.Proofs.Try.f42) (by kernel_rfl) (N := 26) (by kernel_rfl) (hs := []) (by
  intro k xs r h
  unfold s42 at h
  dsimp only at h
  split at h
  · exact ⟨Nat.le_of_ble_eq_true rfl, (v42 k _ _ _ _).trans h⟩
  · cases h)
theorem env43_ok : EnvOk Go.Proofs.Try.prog (envOf env43) := envOf_cons m42 Go.Proofs.Try.func42 (by kernel_rfl) (by kernel_rfl) env42_ok

-- laws.intactBox
noncomputable def f14 (k : Nat) (x_K : Int) (x_Low : List (Int)) (x_Low_n : Nat) (x_High : List (Int)) (x_High_n : Nat) (y_K : Int) (y_Low : List (Int)) (y_Low_n : Nat) (y_High : List (Int)) (y_High_n : Nat) : Option (Bool) :=
  bif !decide (x_K = y_K) then
    some false
  else
    (f42 k x_Low x_Low_n y_Low y_Low_n).bind fun r0 =>
    bif !r0 then
      some false
    else
      (f42 k x_High x_High_n y_High y_High_n).bind fun r1 =>
      bif !r1 then
        some false
      else
        some true
noncomputable def s14 : Spec := ⟨true, [(.bool, false)], true, .bool, fun k xs => match xs with | [.agg [.int .i64 x_K, .vslc 3 (.int .i64) x_Low x_Low_n, .vslc 3 (.int .i64) x_High x_High_n], .agg [.int .i64 y_K, .vslc 3 (.int .i64) y_Low y_Low_n, .vslc 3 (.int .i64) y_High y_High_n]] => f14 k x_K x_Low x_Low_n x_High x_High_n y_K y_Low y_Low_n y_High y_High_n | _ => none, false, none, false⟩
noncomputable def env44 : List (FuncId × Spec) := (14, s14) :: env43
theorem v14 (k : Nat) (x_K : Int) (x_Low : List (Int)) (x_Low_n : Nat) (x_High : List (Int)) (x_High_n : Nat) (y_K : Int) (y_Low : List (Int)) (y_Low_n : Nat) (y_High : List (Int)) (y_High_n : Nat) : runFn tiV (envOf env43) 22 [] (finT tiV true Go.Proofs.Try.f14.results.toList [(.bool, false)] (.bool)) k (bodyOf Go.Proofs.Try.f14) (initS 0 [.agg [.int .i64 x_K, .vslc 3 (.int .i64) x_Low x_Low_n, .vslc 3 (.int .i64) x_High x_High_n], .agg [.int .i64 y_K, .vslc 3 (.int .i64) y_Low y_Low_n, .vslc 3 (.int .i64) y_High y_High_n]]) = f14 k x_K x_Low x_Low_n x_High x_High_n y_K y_Low y_Low_n y_High y_High_n := by kernel_rfl
theorem m14 : Meets Go.Proofs.Try.prog 14 s14 := meets_of_run tiVOk env43_ok mo Go.Proofs.Try.func14 (body := bodyOf Go.Proofs.Try.f14) (by kernel_rfl) (N := 22) (by kernel_rfl) (hs := []) (by
  intro k xs r h
  unfold s14 at h
  dsimp only at h
  split at h
  · exact ⟨Nat.le_of_ble_eq_true rfl, (v14 k _ _ _ _ _ _ _ _ _ _).trans h⟩
  · cases h)
theorem env44_ok : EnvOk Go.Proofs.Try.prog (envOf env44) := envOf_cons m14 Go.Proofs.Try.func14 (by kernel_rfl) (by kernel_rfl) env43_ok

-- laws.eqNode
noncomputable def f71 (k : Nat) (a_Kind : Int) (a_Number : Int) (b_Kind : Int) (b_Number : Int) : Option (Bool) :=
  bif !decide (a_Kind = b_Kind) then
    some false
  else
    bif !decide (a_Number = b_Number) then
      some false
    else
      some true
noncomputable def s71 : Spec := ⟨false, [(.bool, false)], true, .bool, fun k xs => match xs with | [.agg [.int .i64 a_Kind, .int .i64 a_Number], .agg [.int .i64 b_Kind, .int .i64 b_Number]] => f71 k a_Kind a_Number b_Kind b_Number | _ => none, false, none, false⟩
noncomputable def env45 : List (FuncId × Spec) := (71, s71) :: env44
theorem v71 (k : Nat) (a_Kind : Int) (a_Number : Int) (b_Kind : Int) (b_Number : Int) : runFn ti (envOf env44) 15 [] (finT ti true Go.Proofs.Try.f71.results.toList [(.bool, false)] (.bool)) k (bodyOf Go.Proofs.Try.f71) (initS 0 [.agg [.int .i64 a_Kind, .int .i64 a_Number], .agg [.int .i64 b_Kind, .int .i64 b_Number]]) = f71 k a_Kind a_Number b_Kind b_Number := by kernel_rfl
theorem m71 : Meets Go.Proofs.Try.prog 71 s71 := meets_of_run tiOk env44_ok mo Go.Proofs.Try.func71 (body := bodyOf Go.Proofs.Try.f71) (by kernel_rfl) (N := 15) (by kernel_rfl) (hs := []) (by
  intro k xs r h
  unfold s71 at h
  dsimp only at h
  split at h
  · exact ⟨Nat.le_of_ble_eq_true rfl, (v71 k _ _ _ _).trans h⟩
  · cases h)
theorem env45_ok : EnvOk Go.Proofs.Try.prog (envOf env45) := envOf_cons m71 Go.Proofs.Try.func71 (by kernel_rfl) (by kernel_rfl) env44_ok

-- laws.eqNodeS
def h43 : Hints := [(1004, .lab [(0, .one (.frz 57 (Ty.pair (Ty.int IntKind.i64) (Ty.int IntKind.i64)))), (1, .one (.frz 57 (Ty.pair (Ty.int IntKind.i64) (Ty.int IntKind.i64)))), (5, .one (.v))])]
noncomputable def F43_1004 (k : Nat) (rec1004 : List (Int × Int) → List (Int × Int) → Int → Option (Bool)) (a : List (Int × Int)) (b : List (Int × Int)) (i : Int) : Option (Bool) :=
  bif decide (i < (↑(List.length a) : Int)) then
    bif boundA i (List.length a) then
      bif boundA i (List.length b) then
        (f71 k (List.getD a (Int.toNat i) (0, 0)).fst (List.getD a (Int.toNat i) (0, 0)).snd (List.getD b (Int.toNat i) (0, 0)).fst (List.getD b (Int.toNat i) (0, 0)).snd).bind fun r0 =>
        bif !r0 then
          some false
        else
          rec1004 a b (IntKind.wrap IntKind.i64 (i + 1))
      else
        none
    else
      none
  else
    some true
noncomputable def F43 (k : Nat) (rec1004 : List (Int × Int) → List (Int × Int) → Int → Option (Bool)) (a : List (Int × Int)) (b : List (Int × Int)) : Option (Bool) :=
  bif !decide ((↑(List.length a) : Int) = (↑(List.length b) : Int)) then
    some false
  else
    rec1004 a b (0)
noncomputable def l43 : Nat → (List (Int × Int) → List (Int × Int) → Int → Option (Bool))
  | 0 => fun _ _ _ => none
  | k + 1 => F43_1004 k (l43 k)
noncomputable def f43 (k : Nat) (a : List (Int × Int)) (b : List (Int × Int)) : Option (Bool) := F43 k (l43 k) a b
noncomputable def s43 : Spec := ⟨false, [(.bool, false)], true, .bool, fun k xs => match xs with | [.slc 57 (.pair (.int .i64) (.int .i64)) a, .slc 57 (.pair (.int .i64) (.int .i64)) b] => f43 k a b | _ => none, false, none, false⟩
noncomputable def env46 : List (FuncId × Spec) := (43, s43) :: env45
noncomputable abbrev x43 := exec ti (envOf env45) 27 h43 (finT ti true Go.Proofs.Try.f43.results.toList [(.bool, false)] (.bool))
noncomputable def k43_1004 : List It := stackAt [.r, .r, .l, .r, .b, .lb none] (bodyOf Go.Proofs.Try.f43) []
def t43_1004 (a : List (Int × Int)) (b : List (Int × Int)) (i : Int) : St := [(0, Cell.val (AVal.slc 57 (Ty.pair (Ty.int IntKind.i64) (Ty.int IntKind.i64)) a)), (2, Cell.val (AVal.slc 57 (Ty.pair (Ty.int IntKind.i64) (Ty.int IntKind.i64)) b)), (10, Cell.val (AVal.int IntKind.i64 i))]
theorem e43_1004 (k : Nat) (a : List (Int × Int)) (b : List (Int × Int)) (i : Int) : x43 (k + 1) k43_1004 (t43_1004 a b i) = F43_1004 k (fun (a : List (Int × Int)) (b : List (Int × Int)) (i : Int) => x43 k k43_1004 (t43_1004 a b i)) a b i := by kernel_rfl
theorem q43 : ∀ k : Nat, (fun (a : List (Int × Int)) (b : List (Int × Int)) (i : Int) => x43 k k43_1004 (t43_1004 a b i)) = l43 k
  | 0 => rfl
  | k + 1 => by
    have h := q43 k
    show _ = F43_1004 k (l43 k)
    rw [← h]
    exact (funext fun a => funext fun b => funext fun i => e43_1004 k a b i)
theorem w43 (k : Nat) (a : List (Int × Int)) (b : List (Int × Int)) : runFn ti (envOf env45) 27 h43 (finT ti true Go.Proofs.Try.f43.results.toList [(.bool, false)] (.bool)) k (bodyOf Go.Proofs.Try.f43) (initS 0 [.slc 57 (.pair (.int .i64) (.int .i64)) a, .slc 57 (.pair (.int .i64) (.int .i64)) b]) = F43 k (fun (a : List (Int × Int)) (b : List (Int × Int)) (i : Int) => x43 k k43_1004 (t43_1004 a b i)) a b := by kernel_rfl
theorem v43 (k : Nat) (a : List (Int × Int)) (b : List (Int × Int)) : runFn ti (envOf env45) 27 h43 (finT ti true Go.Proofs.Try.f43.results.toList [(.bool, false)] (.bool)) k (bodyOf Go.Proofs.Try.f43) (initS 0 [.slc 57 (.pair (.int .i64) (.int .i64)) a, .slc 57 (.pair (.int .i64) (.int .i64)) b]) = f43 k a b := by
  rw [w43]
  have h := q43 k
  unfold f43
  rw [← h]
theorem m43 : Meets Go.Proofs.Try.prog 43 s43 := meets_of_run tiOk env45_ok mo Go.Proofs.Try.func43 (body := bodyOf Go.Proofs.Try.f43) (by kernel_rfl) (N := 27) (by kernel_rfl) (hs := h43) (by
  intro k xs r h
  unfold s43 at h
  dsimp only at h
  split at h
  · exact ⟨Nat.le_of_ble_eq_true rfl, (v43 k _ _).trans h⟩
  · cases h)
theorem env46_ok : EnvOk Go.Proofs.Try.prog (envOf env46) := envOf_cons m43 Go.Proofs.Try.func43 (by kernel_rfl) (by kernel_rfl) env45_ok

-- laws.intactNodeS
noncomputable def f15 (k : Nat) (x : List (Int × Int)) (x_n : Nat) (y : List (Int × Int)) (y_n : Nat) : Option (Bool) :=
  (f36 k (↑y_n : Int)).bind fun r0 =>
  bif decide ((↑x_n : Int) = (↑y_n : Int)) then
    bif boundE (IntKind.wrap IntKind.i64 ((↑y_n : Int) + r0)) (List.length x) then
      bif decide (0 ≤ 0) && decide (0 ≤ IntKind.wrap IntKind.i64 ((↑y_n : Int) + r0)) then
        bif boundE (IntKind.wrap IntKind.i64 ((↑y_n : Int) + r0)) (List.length y) then
          bif decide (0 ≤ 0) && decide (0 ≤ IntKind.wrap IntKind.i64 ((↑y_n : Int) + r0)) then
            (f43 k (List.drop (Int.toNat 0) (List.take (Int.toNat (IntKind.wrap IntKind.i64 ((↑y_n : Int) + r0))) x)) (List.drop (Int.toNat 0) (List.take (Int.toNat (IntKind.wrap IntKind.i64 ((↑y_n : Int) + r0))) y))).bind fun r1 =>
            some r1
          else
            none
        else
          none
      else
        none
    else
      none
  else
    some false
noncomputable def s15 : Spec := ⟨true, [(.bool, false)], true, .bool, fun k xs => match xs with | [.vslc 57 (.pair (.int .i64) (.int .i64)) x x_n, .vslc 57 (.pair (.int .i64) (.int .i64)) y y_n] => f15 k x x_n y y_n | _ => none, false, none, false⟩
noncomputable def env47 : List (FuncId × Spec) := (15, s15) :: env46
theorem v15 (k : Nat) (x : List (Int × Int)) (x_n : Nat) (y : List (Int × Int)) (y_n : Nat) : runFn tiV (envOf env46) 26 [] (finT tiV true Go.Proofs.Try.f15.results.toList [(.bool, false)] (.bool)) k (bodyOf Go.Proofs.Try.f15) (initS 0 [.vslc 57 (.pair (.int .i64) (.int .i64)) x x_n, .vslc 57 (.pair (.int .i64) (.int .i64)) y y_n]) = f15 k x x_n y y_n := by kernel_rfl
theorem m15 : Meets Go.Proofs.Try.prog 15 s15 := meets_of_run tiVOk env46_ok mo Go.Proofs.Try.func15 (body := bodyOf Go.Proofs.Try.f15) (by kernel_rfl) (N := 26) (by kernel_rfl) (hs := []) (by
  intro k xs r h
  unfold s15 at h
  dsimp only at h
  split at h
  · exact ⟨Nat.le_of_ble_eq_true rfl, (v15 k _ _ _ _).trans h⟩
  · cases h)
theorem env47_ok : EnvOk Go.Proofs.Try.prog (envOf env47) := envOf_cons m15 Go.Proofs.Try.func15 (by kernel_rfl) (by kernel_rfl) env46_ok

def o44 (q : T (.slice 3 (.int .i64))) : St := [(3, .row true 3 (.int .i64) (q))]
def p44 (x : St × T (.int .i64)) : Option (T (.slice 3 (.int .i64)) × T (.int .i64)) := match x with | ([(3, .row true 3 (.int .i64) a)], r) => some (a, r) | _ => none
-- laws.markIntS
def h44 : Hints := [(1002, .lab [(0, .one (.view 3 (Ty.int IntKind.i64))), (1, .one (.v)), (5, .one (.v))])]
noncomputable def F44_1002 (k : Nat) (rec1002 : Nat → Int → Int → List Int → Option (((List (Int))) × Int)) (a_n : Nat) (k_ : Int) (i : Int) (p3 : List Int) : Option (((List (Int))) × Int) :=
  bif decide (i < (↑a_n : Int)) then
    bif boundA i a_n then
      bif Nat.ble a_n (List.length p3) then
        bif Nat.blt (Int.toNat i) (List.length p3) then
          rec1002 a_n (IntKind.wrap IntKind.i64 (k_ + 1)) (IntKind.wrap IntKind.i64 (i + 1)) (List.set p3 (Int.toNat i) k_)
        else
          none
      else
        none
    else
      none
  else
    some ((p3, k_))
noncomputable def F44 (k : Nat) (rec1002 : Nat → Int → Int → List Int → Option (((List (Int))) × Int)) (a : List (Int)) (a_n : Nat) (k_ : Int) : Option (((List (Int))) × Int) :=
  rec1002 a_n k_ (0) a
noncomputable def l44 : Nat → (Nat → Int → Int → List Int → Option (((List (Int))) × Int))
  | 0 => fun _ _ _ _ => none
  | k + 1 => F44_1002 k (l44 k)
noncomputable def f44 (k : Nat) (a : List (Int)) (a_n : Nat) (k_ : Int) : Option (((List (Int))) × Int) := F44 k (l44 k) a a_n k_
-- laws.markIntS
def h44_0 : Hints := [(1002, .lab [(0, .one (.own 3 (Ty.int IntKind.i64))), (1, .one (.v)), (5, .one (.v))])]
noncomputable def F44_0_1002 (k : Nat) (rec1002 : Int → Int → List Int → Option (((List (Int))) × Int)) (k_ : Int) (i : Int) (p3 : List Int) : Option (((List (Int))) × Int) :=
  bif decide (i < (↑(List.length p3) : Int)) then
    bif boundA i (List.length p3) then
      bif Nat.blt (Int.toNat i) (List.length p3) then
        rec1002 (IntKind.wrap IntKind.i64 (k_ + 1)) (IntKind.wrap IntKind.i64 (i + 1)) (List.set p3 (Int.toNat i) k_)
      else
        none
    else
      none
  else
    some ((p3, k_))
noncomputable def F44_0 (k : Nat) (rec1002 : Int → Int → List Int → Option (((List (Int))) × Int)) (a : List (Int)) (k_ : Int) : Option (((List (Int))) × Int) :=
  rec1002 k_ (0) a
noncomputable def l44_0 : Nat → (Int → Int → List Int → Option (((List (Int))) × Int))
  | 0 => fun _ _ _ => none
  | k + 1 => F44_0_1002 k (l44_0 k)
noncomputable def f44_0 (k : Nat) (a : List (Int)) (k_ : Int) : Option (((List (Int))) × Int) := F44_0 k (l44_0 k) a k_
noncomputable def g44 (k : Nat) (os : St) (xs : List AVal) : Option (T (.slice 3 (.int .i64)) × T (.int .i64)) := match os, xs with | [(3, .row true 3 (.int .i64) a)], [.ref 3 (some a_n), .int .i64 k_] => f44 k a a_n k_ | [(3, .row true 3 (.int .i64) a)], [.ref 3 none, .int .i64 k_] => f44_0 k a k_ | _, _ => none
noncomputable def s44 : Spec := ⟨false, [(.int .i64, false)], true, .int .i64, fun _ _ => none, false, some ⟨.slice 3 (.int .i64), g44, o44⟩, false⟩
noncomputable def env48 : List (FuncId × Spec) := (44, s44) :: env47
noncomputable abbrev x44 := exec ti (envOf env47) 19 h44 (finJ ti Go.Proofs.Try.f44.results.toList [(.int .i64, false)] (.int .i64) [3] p44)
noncomputable def k44_1002 : List It := stackAt [.r, .l, .r, .b, .lb none] (bodyOf Go.Proofs.Try.f44) []
def t44_1002 (a_n : Nat) (k_ : Int) (i : Int) (p3 : List Int) : St := [(0, Cell.val (AVal.ref 3 (some a_n))), (2, Cell.val (AVal.int IntKind.i64 k_)), (10, Cell.val (AVal.int IntKind.i64 i)), (3, Cell.row true 3 (Ty.int IntKind.i64) p3)]
theorem e44_1002 (k : Nat) (a_n : Nat) (k_ : Int) (i : Int) (p3 : List Int) : x44 (k + 1) k44_1002 (t44_1002 a_n k_ i p3) = F44_1002 k (fun (a_n : Nat) (k_ : Int) (i : Int) (p3 : List Int) => x44 k k44_1002 (t44_1002 a_n k_ i p3)) a_n k_ i p3 := by kernel_rfl
theorem q44 : ∀ k : Nat, (fun (a_n : Nat) (k_ : Int) (i : Int) (p3 : List Int) => x44 k k44_1002 (t44_1002 a_n k_ i p3)) = l44 k
  | 0 => rfl
  | k + 1 => by
    have h := q44 k
    show _ = F44_1002 k (l44 k)
    rw [← h]
    exact (funext fun a_n => funext fun k_ => funext fun i => funext fun p3 => e44_1002 k a_n k_ i p3)
theorem w44 (k : Nat) (a : List (Int)) (a_n : Nat) (k_ : Int) : runFn ti (envOf env47) 19 h44 (finJ ti Go.Proofs.Try.f44.results.toList [(.int .i64, false)] (.int .i64) [3] p44) k (bodyOf Go.Proofs.Try.f44) ([(3, .row true 3 (.int .i64) a)] ++ initS 0 [.ref 3 (some a_n), .int .i64 k_]) = F44 k (fun (a_n : Nat) (k_ : Int) (i : Int) (p3 : List Int) => x44 k k44_1002 (t44_1002 a_n k_ i p3)) a a_n k_ := by kernel_rfl
theorem v44 (k : Nat) (a : List (Int)) (a_n : Nat) (k_ : Int) : runFn ti (envOf env47) 19 h44 (finJ ti Go.Proofs.Try.f44.results.toList [(.int .i64, false)] (.int .i64) [3] p44) k (bodyOf Go.Proofs.Try.f44) ([(3, .row true 3 (.int .i64) a)] ++ initS 0 [.ref 3 (some a_n), .int .i64 k_]) = f44 k a a_n k_ := by
  rw [w44]
  have h := q44 k
  unfold f44
  rw [← h]
noncomputable abbrev x44_0 := exec ti (envOf env47) 19 h44_0 (finJ ti Go.Proofs.Try.f44.results.toList [(.int .i64, false)] (.int .i64) [3] p44)
noncomputable def k44_0_1002 : List It := stackAt [.r, .l, .r, .b, .lb none] (bodyOf Go.Proofs.Try.f44) []
def t44_0_1002 (k_ : Int) (i : Int) (p3 : List Int) : St := [(0, Cell.val (AVal.ref 3 none)), (2, Cell.val (AVal.int IntKind.i64 k_)), (10, Cell.val (AVal.int IntKind.i64 i)), (3, Cell.row true 3 (Ty.int IntKind.i64) p3)]
theorem e44_0_1002 (k : Nat) (k_ : Int) (i : Int) (p3 : List Int) : x44_0 (k + 1) k44_0_1002 (t44_0_1002 k_ i p3) = F44_0_1002 k (fun (k_ : Int) (i : Int) (p3 : List Int) => x44_0 k k44_0_1002 (t44_0_1002 k_ i p3)) k_ i p3 := by kernel_rfl
theorem q44_0 : ∀ k : Nat, (fun (k_ : Int) (i : Int) (p3 : List Int) => x44_0 k k44_0_1002 (t44_0_1002 k_ i p3)) = l44_0 k
  | 0 => rfl
  | k + 1 => by
    have h := q44_0 k
    show _ = F44_0_1002 k (l44_0 k)
    rw [← h]
    exact (funext fun k_ => funext fun i => funext fun p3 => e44_0_1002 k k_ i p3)
theorem w44_0 (k : Nat) (a : List (Int)) (k_ : Int) : runFn ti (envOf env47) 19 h44_0 (finJ ti Go.Proofs.Try.f44.results.toList [(.int .i64, false)] (.int .i64) [3] p44) k (bodyOf Go.Proofs.Try.f44) ([(3, .row true 3 (.int .i64) a)] ++ initS 0 [.ref 3 none, .int .i64 k_]) = F44_0 k (fun (k_ : Int) (i : Int) (p3 : List Int) => x44_0 k k44_0_1002 (t44_0_1002 k_ i p3)) a k_ := by kernel_rfl
theorem v44_0 (k : Nat) (a : List (Int)) (k_ : Int) : runFn ti (envOf env47) 19 h44_0 (finJ ti Go.Proofs.Try.f44.results.toList [(.int .i64, false)] (.int .i64) [3] p44) k (bodyOf Go.Proofs.Try.f44) ([(3, .row true 3 (.int .i64) a)] ++ initS 0 [.ref 3 none, .int .i64 k_]) = f44_0 k a k_ := by
  rw [w44_0]
  have h := q44_0 k
  unfold f44_0
  rw [← h]
theorem hp44 : ∀ x q, p44 x = some q → (o44 q.1, q.2) = x := by
  intro x q h
  unfold p44 at h
  split at h
  · cases h
    rfl
  · cases h
theorem m44 : MeetsIO Go.Proofs.Try.prog 44 [(.int .i64, false)] (.int .i64) (IO.G ⟨.slice 3 (.int .i64), g44, o44⟩) := meets_io_of_run tiOk env47_ok mo Go.Proofs.Try.func44 (body := bodyOf Go.Proofs.Try.f44) (by kernel_rfl) (N := 19) (by kernel_rfl) (pick := p44) (by kernel_rfl) hp44 (by
  intro k os xs r h
  have h : g44 k os xs = some r := h
  unfold g44 at h
  split at h
  · exact ⟨Nat.le_of_ble_eq_true rfl, by kernel_rfl, h44, (v44 k _ _ _).trans h⟩
  · exact ⟨Nat.le_of_ble_eq_true rfl, by kernel_rfl, h44_0, (v44_0 k _ _).trans h⟩
  · cases h)
theorem env48_ok : EnvOk Go.Proofs.Try.prog (envOf env48) := envOf_io rfl m44 Go.Proofs.Try.func44 (by kernel_rfl) (by kernel_rfl) env47_ok

end Go.Proofs.YtchdegcfohegfaaE
