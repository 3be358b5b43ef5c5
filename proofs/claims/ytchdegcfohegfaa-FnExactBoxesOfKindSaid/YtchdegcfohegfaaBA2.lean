/- Functions, by the engine; printed. -/
import Derived.Test.YtchdegcfohegfaaBA1
set_option maxRecDepth 100000
set_option maxHeartbeats 4000000
set_option linter.unusedVariables false
namespace Go.Proofs.YtchdegcfohegfaaE
-- spec.bxHalves
noncomputable def f64 (k : Nat) (L_K : Int) (L_Low : List (Int)) (L_High : List (Int)) (i : Int) : Option ((List (Int × (List (Int)) × List (Int))) × Bool) :=
  (f85 k L_K L_Low L_High).bind fun r0 =>
  bif boundA i (List.length L_Low) then
    bif boundA i (List.length L_High) then
      (f63 k r0.fst).bind fun r1 =>
      (f63 k r0.snd).bind fun r2 =>
      bif boundA i (List.length r1) then
        bif Nat.blt (Int.toNat i) (List.length r1) then
          bif boundA i (List.length r2) then
            bif Nat.blt (Int.toNat i) (List.length r2) then
              (f86 k (IntKind.wrap IntKind.i64 (L_K + 1)) r0.fst (List.set r2 (Int.toNat i) (IntKind.wrap IntKind.i64 (List.getD L_Low (Int.toNat i) 0 + List.getD L_High (Int.toNat i) 0)))).bind fun r3 =>
              (f86 k (IntKind.wrap IntKind.i64 (L_K + 1)) (List.set r1 (Int.toNat i) (IntKind.wrap IntKind.i64 (List.getD L_Low (Int.toNat i) 0 + List.getD L_High (Int.toNat i) 0))) r0.snd).bind fun r4 =>
              bif !r3.snd then
                some (([], false))
              else
                bif !r4.snd then
                  some (([], false))
                else
                  some (([(r3.fst.fst, r3.fst.snd.fst, r3.fst.snd.snd), (r4.fst.fst, r4.fst.snd.fst, r4.fst.snd.snd)], true))
            else
              none
          else
            none
        else
          none
      else
        none
    else
      none
  else
    none
noncomputable def s64 : Spec := ⟨false, [(.slice 31 (.pair (.int .i64) (.pair (.slice 3 (.int .i64)) (.slice 3 (.int .i64)))), false), (.bool, false)], true, .pair (.slice 31 (.pair (.int .i64) (.pair (.slice 3 (.int .i64)) (.slice 3 (.int .i64))))) (.bool), fun k xs => match xs with | [.agg [.int .i64 L_K, .slc 3 (.int .i64) L_Low, .slc 3 (.int .i64) L_High], .int .i64 i] => f64 k L_K L_Low L_High i | _ => none, false, none, false⟩
noncomputable def env13 : List (FuncId × Spec) := (64, s64) :: env12
theorem v64 (k : Nat) (L_K : Int) (L_Low : List (Int)) (L_High : List (Int)) (i : Int) : runFn ti (envOf env12) 70 [] (finT ti true Go.Proofs.Try.f64.results.toList [(.slice 31 (.pair (.int .i64) (.pair (.slice 3 (.int .i64)) (.slice 3 (.int .i64)))), false), (.bool, false)] (.pair (.slice 31 (.pair (.int .i64) (.pair (.slice 3 (.int .i64)) (.slice 3 (.int .i64))))) (.bool))) k (bodyOf Go.Proofs.Try.f64) (initS 0 [.agg [.int .i64 L_K, .slc 3 (.int .i64) L_Low, .slc 3 (.int .i64) L_High], .int .i64 i]) = f64 k L_K L_Low L_High i := by kernel_rfl
theorem m64 : Meets Go.Proofs.Try.prog 64 s64 := meets_of_run tiOk env12_ok mo Go.Proofs.Try.func64 (body := bodyOf Go.Proofs.Try.f64) (by kernel_rfl) (N := 70) (by kernel_rfl) (hs := []) (by
  intro k xs r h
  unfold s64 at h
  dsimp only at h
  split at h
  · exact ⟨Nat.le_of_ble_eq_true rfl, (v64 k _ _ _ _).trans h⟩
  · cases h)
theorem env13_ok : EnvOk Go.Proofs.Try.prog (envOf env13) := envOf_cons m64 Go.Proofs.Try.func64 (by kernel_rfl) (by kernel_rfl) env12_ok

-- spec.trBoxes
def h34 : Hints := [(1004, .lab [(6, .one (.own 31 (Ty.pair (Ty.int IntKind.i64) (Ty.pair (Ty.slice 3 (Ty.int IntKind.i64)) (Ty.slice 3 (Ty.int IntKind.i64)))))), (7, .one (.own 31 (Ty.pair (Ty.int IntKind.i64) (Ty.pair (Ty.slice 3 (Ty.int IntKind.i64)) (Ty.slice 3 (Ty.int IntKind.i64)))))), (15, .one (.frz 57 (Ty.pair (Ty.int IntKind.i64) (Ty.int IntKind.i64)))), (16, .one (.v)), (17, .one (.v))])]
noncomputable def F34_1004 (k : Nat) (rec1004 : List (Int × List Int × List Int) → List (Int × List Int × List Int) → List (Int × Int) → Int → Int → Option ((List (Int × (List (Int)) × List (Int))) × Bool)) (os : List (Int × List Int × List Int)) (As : List (Int × List Int × List Int)) (t15 : List (Int × Int)) (t16 : Int) (t17 : Int) : Option ((List (Int × (List (Int)) × List (Int))) × Bool) :=
  bif decide (t17 < t16) then
    bif boundA t17 (List.length t15) then
      bif boundA (IntKind.wrap IntKind.i64 ((↑(List.length As) : Int) - 1)) (List.length As) then
        bif Nat.blt (Int.toNat (IntKind.wrap IntKind.i64 ((↑(List.length As) : Int) - 1))) (List.length As) then
          bif boundE (IntKind.wrap IntKind.i64 ((↑(List.length As) : Int) - 1)) (List.length As) then
            bif !decide ((List.getD t15 (Int.toNat t17) (0, 0)).fst = 0) then
              (f63 k (List.getD As (Int.toNat (IntKind.wrap IntKind.i64 ((↑(List.length As) : Int) - 1))) (0, [], [])).snd.fst).bind fun r0 =>
              (f63 k (List.getD As (Int.toNat (IntKind.wrap IntKind.i64 ((↑(List.length As) : Int) - 1))) (0, [], [])).snd.snd).bind fun r1 =>
              bif decide ((List.length os + List.length [((List.getD As (Int.toNat (IntKind.wrap IntKind.i64 ((↑(List.length As) : Int) - 1))) (0, [], [])).fst, r0, r1)]) * 56 ≤ 140737488355328) then
                rec1004 (os ++ [((List.getD As (Int.toNat (IntKind.wrap IntKind.i64 ((↑(List.length As) : Int) - 1))) (0, [], [])).fst, r0, r1)]) (List.take (Int.toNat (IntKind.wrap IntKind.i64 ((↑(List.length As) : Int) - 1))) As) t15 t16 (IntKind.wrap IntKind.i64 (t17 + 1))
              else
                none
            else
              (f64 k (List.getD As (Int.toNat (IntKind.wrap IntKind.i64 ((↑(List.length As) : Int) - 1))) (0, [], [])).fst (List.getD As (Int.toNat (IntKind.wrap IntKind.i64 ((↑(List.length As) : Int) - 1))) (0, [], [])).snd.fst (List.getD As (Int.toNat (IntKind.wrap IntKind.i64 ((↑(List.length As) : Int) - 1))) (0, [], [])).snd.snd (List.getD t15 (Int.toNat t17) (0, 0)).snd).bind fun r2 =>
              bif !r2.snd then
                some (([], false))
              else
                bif boundA 1 (List.length r2.fst) then
                  bif Nat.blt (Int.toNat 1) (List.length r2.fst) then
                    bif boundA 0 (List.length r2.fst) then
                      bif Nat.blt (Int.toNat 0) (List.length r2.fst) then
                        bif decide ((List.length (List.take (Int.toNat (IntKind.wrap IntKind.i64 ((↑(List.length As) : Int) - 1))) As) + List.length [((List.getD r2.fst (Int.toNat 1) (0, [], [])).fst, (List.getD r2.fst (Int.toNat 1) (0, [], [])).snd.fst, (List.getD r2.fst (Int.toNat 1) (0, [], [])).snd.snd), ((List.getD r2.fst (Int.toNat 0) (0, [], [])).fst, (List.getD r2.fst (Int.toNat 0) (0, [], [])).snd.fst, (List.getD r2.fst (Int.toNat 0) (0, [], [])).snd.snd)]) * 56 ≤ 140737488355328) then
                          rec1004 os (List.take (Int.toNat (IntKind.wrap IntKind.i64 ((↑(List.length As) : Int) - 1))) As ++ [((List.getD r2.fst (Int.toNat 1) (0, [], [])).fst, (List.getD r2.fst (Int.toNat 1) (0, [], [])).snd.fst, (List.getD r2.fst (Int.toNat 1) (0, [], [])).snd.snd), ((List.getD r2.fst (Int.toNat 0) (0, [], [])).fst, (List.getD r2.fst (Int.toNat 0) (0, [], [])).snd.fst, (List.getD r2.fst (Int.toNat 0) (0, [], [])).snd.snd)]) t15 t16 (IntKind.wrap IntKind.i64 (t17 + 1))
                        else
                          none
                      else
                        none
                    else
                      none
                  else
                    none
                else
                  none
          else
            none
        else
          none
      else
        none
    else
      none
  else
    some ((os, true))
noncomputable def F34 (k : Nat) (rec1004 : List (Int × List Int × List Int) → List (Int × List Int × List Int) → List (Int × Int) → Int → Int → Option ((List (Int × (List (Int)) × List (Int))) × Bool)) (L_K : Int) (L_Low : List (Int)) (L_High : List (Int)) (i : List (Int × Int)) : Option ((List (Int × (List (Int)) × List (Int))) × Bool) :=
  rec1004 ([]) ([(L_K, L_Low, L_High)]) i ((↑(List.length i) : Int)) (0)
noncomputable def l34 : Nat → (List (Int × List Int × List Int) → List (Int × List Int × List Int) → List (Int × Int) → Int → Int → Option ((List (Int × (List (Int)) × List (Int))) × Bool))
  | 0 => fun _ _ _ _ _ => none
  | k + 1 => F34_1004 k (l34 k)
noncomputable def f34 (k : Nat) (L_K : Int) (L_Low : List (Int)) (L_High : List (Int)) (i : List (Int × Int)) : Option ((List (Int × (List (Int)) × List (Int))) × Bool) := F34 k (l34 k) L_K L_Low L_High i
noncomputable def s34 : Spec := ⟨false, [(.slice 31 (.pair (.int .i64) (.pair (.slice 3 (.int .i64)) (.slice 3 (.int .i64)))), false), (.bool, false)], true, .pair (.slice 31 (.pair (.int .i64) (.pair (.slice 3 (.int .i64)) (.slice 3 (.int .i64))))) (.bool), fun k xs => match xs with | [.agg [.int .i64 L_K, .slc 3 (.int .i64) L_Low, .slc 3 (.int .i64) L_High], .slc 57 (.pair (.int .i64) (.int .i64)) i] => f34 k L_K L_Low L_High i | _ => none, false, none, false⟩
noncomputable def env14 : List (FuncId × Spec) := (34, s34) :: env13
noncomputable abbrev x34 := exec tiC (envOf env13) 67 h34 (finT tiC true Go.Proofs.Try.f34.results.toList [(.slice 31 (.pair (.int .i64) (.pair (.slice 3 (.int .i64)) (.slice 3 (.int .i64)))), false), (.bool, false)] (.pair (.slice 31 (.pair (.int .i64) (.pair (.slice 3 (.int .i64)) (.slice 3 (.int .i64))))) (.bool)))
noncomputable def k34_1004 : List It := stackAt [.r, .r, .r, .l, .r, .b, .lb none] (bodyOf Go.Proofs.Try.f34) []
def t34_1004 (os : List (Int × List Int × List Int)) (As : List (Int × List Int × List Int)) (t15 : List (Int × Int)) (t16 : Int) (t17 : Int) : St := [(12, Cell.val (AVal.ref 33 none)), (33, Cell.row true 31 (Ty.pair (Ty.int IntKind.i64) (Ty.pair (Ty.slice 3 (Ty.int IntKind.i64)) (Ty.slice 3 (Ty.int IntKind.i64)))) os), (14, Cell.val (AVal.ref 35 none)), (35, Cell.row true 31 (Ty.pair (Ty.int IntKind.i64) (Ty.pair (Ty.slice 3 (Ty.int IntKind.i64)) (Ty.slice 3 (Ty.int IntKind.i64)))) As), (30, Cell.val (AVal.slc 57 (Ty.pair (Ty.int IntKind.i64) (Ty.int IntKind.i64)) t15)), (32, Cell.val (AVal.int IntKind.i64 t16)), (34, Cell.val (AVal.int IntKind.i64 t17))]
theorem e34_1004 (k : Nat) (os : List (Int × List Int × List Int)) (As : List (Int × List Int × List Int)) (t15 : List (Int × Int)) (t16 : Int) (t17 : Int) : x34 (k + 1) k34_1004 (t34_1004 os As t15 t16 t17) = F34_1004 k (fun (os : List (Int × List Int × List Int)) (As : List (Int × List Int × List Int)) (t15 : List (Int × Int)) (t16 : Int) (t17 : Int) => x34 k k34_1004 (t34_1004 os As t15 t16 t17)) os As t15 t16 t17 := by kernel_rfl
theorem q34 : ∀ k : Nat, (fun (os : List (Int × List Int × List Int)) (As : List (Int × List Int × List Int)) (t15 : List (Int × Int)) (t16 : Int) (t17 : Int) => x34 k k34_1004 (t34_1004 os As t15 t16 t17)) = l34 k
  | 0 => rfl
  | k + 1 => by
    have h := q34 k
    show _ = F34_1004 k (l34 k)
    rw [← h]
    exact (funext fun os => funext fun As => funext fun t15 => funext fun t16 => funext fun t17 => e34_1004 k os As t15 t16 t17)
theorem w34 (k : Nat) (L_K : Int) (L_Low : List (Int)) (L_High : List (Int)) (i : List (Int × Int)) : runFn tiC (envOf env13) 67 h34 (finT tiC true Go.Proofs.Try.f34.results.toList [(.slice 31 (.pair (.int .i64) (.pair (.slice 3 (.int .i64)) (.slice 3 (.int .i64)))), false), (.bool, false)] (.pair (.slice 31 (.pair (.int .i64) (.pair (.slice 3 (.int .i64)) (.slice 3 (.int .i64))))) (.bool))) k (bodyOf Go.Proofs.Try.f34) (initS 0 [.agg [.int .i64 L_K, .slc 3 (.int .i64) L_Low, .slc 3 (.int .i64) L_High], .slc 57 (.pair (.int .i64) (.int .i64)) i]) = F34 k (fun (os : List (Int × List Int × List Int)) (As : List (Int × List Int × List Int)) (t15 : List (Int × Int)) (t16 : Int) (t17 : Int) => x34 k k34_1004 (t34_1004 os As t15 t16 t17)) L_K L_Low L_High i := by kernel_rfl
theorem v34 (k : Nat) (L_K : Int) (L_Low : List (Int)) (L_High : List (Int)) (i : List (Int × Int)) : runFn tiC (envOf env13) 67 h34 (finT tiC true Go.Proofs.Try.f34.results.toList [(.slice 31 (.pair (.int .i64) (.pair (.slice 3 (.int .i64)) (.slice 3 (.int .i64)))), false), (.bool, false)] (.pair (.slice 31 (.pair (.int .i64) (.pair (.slice 3 (.int .i64)) (.slice 3 (.int .i64))))) (.bool))) k (bodyOf Go.Proofs.Try.f34) (initS 0 [.agg [.int .i64 L_K, .slc 3 (.int .i64) L_Low, .slc 3 (.int .i64) L_High], .slc 57 (.pair (.int .i64) (.int .i64)) i]) = f34 k L_K L_Low L_High i := by
  rw [w34]
  have h := q34 k
  unfold f34
  rw [← h]
theorem m34 : Meets Go.Proofs.Try.prog 34 s34 := meets_of_run tiCOk env13_ok mo Go.Proofs.Try.func34 (body := bodyOf Go.Proofs.Try.f34) (by kernel_rfl) (N := 67) (by kernel_rfl) (hs := h34) (by
  intro k xs r h
  unfold s34 at h
  dsimp only at h
  split at h
  · exact ⟨Nat.le_of_ble_eq_true rfl, (v34 k _ _ _ _).trans h⟩
  · cases h)
theorem env14_ok : EnvOk Go.Proofs.Try.prog (envOf env14) := envOf_cons m34 Go.Proofs.Try.func34 (by kernel_rfl) (by kernel_rfl) env13_ok

-- spec.BoxesOf
noncomputable def f9 (k : Nat) (b_K : Int) (b_Low : List (Int)) (b_High : List (Int)) (l : List (Int × Int)) : Option ((List (Int × (List (Int)) × List (Int))) × Bool) :=
  (f32 k b_K b_Low b_High).bind fun r0 =>
  bif !r0 then
    some (([], false))
  else
    (f33 k l (↑(List.length b_Low) : Int)).bind fun r1 =>
    bif !r1 then
      some (([], false))
    else
      (f34 k b_K b_Low b_High l).bind fun r2 =>
      some ((r2.fst, r2.snd))
noncomputable def s9 : Spec := ⟨false, [(.slice 31 (.pair (.int .i64) (.pair (.slice 3 (.int .i64)) (.slice 3 (.int .i64)))), false), (.bool, false)], true, .pair (.slice 31 (.pair (.int .i64) (.pair (.slice 3 (.int .i64)) (.slice 3 (.int .i64))))) (.bool), fun k xs => match xs with | [.agg [.int .i64 b_K, .slc 3 (.int .i64) b_Low, .slc 3 (.int .i64) b_High], .slc 57 (.pair (.int .i64) (.int .i64)) l] => f9 k b_K b_Low b_High l | _ => none, false, none, false⟩
noncomputable def env15 : List (FuncId × Spec) := (9, s9) :: env14
theorem v9 (k : Nat) (b_K : Int) (b_Low : List (Int)) (b_High : List (Int)) (l : List (Int × Int)) : runFn ti (envOf env14) 22 [] (finT ti true Go.Proofs.Try.f9.results.toList [(.slice 31 (.pair (.int .i64) (.pair (.slice 3 (.int .i64)) (.slice 3 (.int .i64)))), false), (.bool, false)] (.pair (.slice 31 (.pair (.int .i64) (.pair (.slice 3 (.int .i64)) (.slice 3 (.int .i64))))) (.bool))) k (bodyOf Go.Proofs.Try.f9) (initS 0 [.agg [.int .i64 b_K, .slc 3 (.int .i64) b_Low, .slc 3 (.int .i64) b_High], .slc 57 (.pair (.int .i64) (.int .i64)) l]) = f9 k b_K b_Low b_High l := by kernel_rfl
theorem m9 : Meets Go.Proofs.Try.prog 9 s9 := meets_of_run tiOk env14_ok mo Go.Proofs.Try.func9 (body := bodyOf Go.Proofs.Try.f9) (by kernel_rfl) (N := 22) (by kernel_rfl) (hs := []) (by
  intro k xs r h
  unfold s9 at h
  dsimp only at h
  split at h
  · exact ⟨Nat.le_of_ble_eq_true rfl, (v9 k _ _ _ _).trans h⟩
  · cases h)
theorem env15_ok : EnvOk Go.Proofs.Try.prog (envOf env15) := envOf_cons m9 Go.Proofs.Try.func9 (by kernel_rfl) (by kernel_rfl) env14_ok

-- laws.roomBehind
noncomputable def f36 (k : Nat) (n : Int) : Option (Int) :=
  bif decide (Int.tmod n 6 = 5) then
    some (0)
  else
    bif decide (Int.tmod n 3 = 0) then
      some (1)
    else
      some n
noncomputable def s36 : Spec := ⟨false, [(.int .i64, false)], true, .int .i64, fun k xs => match xs with | [.int .i64 n] => f36 k n | _ => none, false, none, false⟩
noncomputable def env16 : List (FuncId × Spec) := (36, s36) :: env15
theorem v36 (k : Nat) (n : Int) : runFn ti (envOf env15) 10 [] (finT ti true Go.Proofs.Try.f36.results.toList [(.int .i64, false)] (.int .i64)) k (bodyOf Go.Proofs.Try.f36) (initS 0 [.int .i64 n]) = f36 k n := by kernel_rfl
theorem m36 : Meets Go.Proofs.Try.prog 36 s36 := meets_of_run tiOk env15_ok mo Go.Proofs.Try.func36 (body := bodyOf Go.Proofs.Try.f36) (by kernel_rfl) (N := 10) (by kernel_rfl) (hs := []) (by
  intro k xs r h
  unfold s36 at h
  dsimp only at h
  split at h
  · exact ⟨Nat.le_of_ble_eq_true rfl, (v36 k _).trans h⟩
  · cases h)
theorem env16_ok : EnvOk Go.Proofs.Try.prog (envOf env16) := envOf_cons m36 Go.Proofs.Try.func36 (by kernel_rfl) (by kernel_rfl) env15_ok

-- laws.toIntS
def h35 : Hints := [(1005, .lab [(0, .one (.frz 3 (Ty.int IntKind.i64))), (5, .one (.own 3 (Ty.int IntKind.i64))), (6, .one (.v))]), (1009, .lab [(0, .one (.frz 3 (Ty.int IntKind.i64))), (5, .one (.own 3 (Ty.int IntKind.i64))), (7, .one (.v))])]
noncomputable def F35_1005 (k : Nat) (rec1005 : List Int → List Int → Int → Option (List (Int) × Nat)) (rec1009 : List Int → List Int → Int → Option (List (Int) × Nat)) (a : List Int) (outs : List Int) (i : Int) : Option (List (Int) × Nat) :=
  bif decide (i < (↑(List.length a) : Int)) then
    bif boundA i (List.length a) then
      bif boundA i (List.length outs) then
        bif Nat.blt (Int.toNat i) (List.length outs) then
          rec1005 a (List.set outs (Int.toNat i) (List.getD a (Int.toNat i) 0)) (IntKind.wrap IntKind.i64 (i + 1))
        else
          none
      else
        none
    else
      none
  else
    rec1009 a outs ((↑(List.length a) : Int))
noncomputable def F35_1009 (k : Nat) (rec1005 : List Int → List Int → Int → Option (List (Int) × Nat)) (rec1009 : List Int → List Int → Int → Option (List (Int) × Nat)) (a : List Int) (outs : List Int) (i : Int) : Option (List (Int) × Nat) :=
  bif decide (i < (↑(List.length outs) : Int)) then
    bif boundA i (List.length outs) then
      bif Nat.blt (Int.toNat i) (List.length outs) then
        rec1009 a (List.set outs (Int.toNat i) (-7000000000000000101)) (IntKind.wrap IntKind.i64 (i + 1))
      else
        none
    else
      none
  else
    bif boundE (↑(List.length a) : Int) (List.length outs) then
      some ((outs, Option.getD (some (Int.toNat (↑(List.length a) : Int))) (List.length outs)))
    else
      none
noncomputable def F35 (k : Nat) (rec1005 : List Int → List Int → Int → Option (List (Int) × Nat)) (rec1009 : List Int → List Int → Int → Option (List (Int) × Nat)) (a : List (Int)) (bare : Bool) : Option (List (Int) × Nat) :=
  bif bare then
    bif decide ((↑(List.length a) : Int) = 0) then
      some (([], 0))
    else
      (f36 k (↑(List.length a) : Int)).bind fun r0 =>
      bif decide (0 ≤ IntKind.wrap IntKind.i64 ((↑(List.length a) : Int) + r0)) then
        bif decide (IntKind.wrap IntKind.i64 ((↑(List.length a) : Int) + r0) ≤ IntKind.wrap IntKind.i64 ((↑(List.length a) : Int) + r0)) then
          bif decide (IntKind.wrap IntKind.i64 ((↑(List.length a) : Int) + r0) * (↑8 : Int) ≤ 140737488355328) then
            rec1005 a (List.replicate (Int.toNat (IntKind.wrap IntKind.i64 ((↑(List.length a) : Int) + r0))) (dflt (Ty.int IntKind.i64))) (0)
          else
            none
        else
          none
      else
        none
  else
    (f36 k (↑(List.length a) : Int)).bind fun r1 =>
    bif decide (0 ≤ IntKind.wrap IntKind.i64 ((↑(List.length a) : Int) + r1)) then
      bif decide (IntKind.wrap IntKind.i64 ((↑(List.length a) : Int) + r1) ≤ IntKind.wrap IntKind.i64 ((↑(List.length a) : Int) + r1)) then
        bif decide (IntKind.wrap IntKind.i64 ((↑(List.length a) : Int) + r1) * (↑8 : Int) ≤ 140737488355328) then
          rec1005 a (List.replicate (Int.toNat (IntKind.wrap IntKind.i64 ((↑(List.length a) : Int) + r1))) (dflt (Ty.int IntKind.i64))) (0)
        else
          none
      else
        none
    else
      none
noncomputable def l35 : Nat → (List Int → List Int → Int → Option (List (Int) × Nat)) × (List Int → List Int → Int → Option (List (Int) × Nat))
  | 0 => (fun _ _ _ => none, fun _ _ _ => none)
  | k + 1 => (F35_1005 k ((l35 k).1) ((l35 k).2), F35_1009 k ((l35 k).1) ((l35 k).2))
noncomputable def f35 (k : Nat) (a : List (Int)) (bare : Bool) : Option (List (Int) × Nat) := F35 k ((l35 k).1) ((l35 k).2) a bare
noncomputable def s35 : Spec := ⟨false, [(.vslice 3 (.int .i64), false)], true, .vslice 3 (.int .i64), fun k xs => match xs with | [.slc 3 (.int .i64) a, .bool bare] => f35 k a bare | _ => none, false, none, false⟩
noncomputable def env17 : List (FuncId × Spec) := (35, s35) :: env16
noncomputable abbrev x35 := exec tiV (envOf env16) 49 h35 (finT tiV true Go.Proofs.Try.f35.results.toList [(.vslice 3 (.int .i64), false)] (.vslice 3 (.int .i64)))
noncomputable def k35_1005 : List It := stackAt [.r, .r, .r, .l, .r, .b, .lb none] (bodyOf Go.Proofs.Try.f35) []
def t35_1005 (a : List Int) (outs : List Int) (i : Int) : St := [(0, Cell.val (AVal.slc 3 (Ty.int IntKind.i64) a)), (10, Cell.val (AVal.ref 33 none)), (33, Cell.row true 3 (Ty.int IntKind.i64) outs), (12, Cell.val (AVal.int IntKind.i64 i))]
noncomputable def k35_1009 : List It := stackAt [.r, .r, .r, .r, .l, .r, .b, .lb none] (bodyOf Go.Proofs.Try.f35) []
def t35_1009 (a : List Int) (outs : List Int) (i : Int) : St := [(0, Cell.val (AVal.slc 3 (Ty.int IntKind.i64) a)), (10, Cell.val (AVal.ref 33 none)), (33, Cell.row true 3 (Ty.int IntKind.i64) outs), (14, Cell.val (AVal.int IntKind.i64 i))]
theorem e35_1005 (k : Nat) (a : List Int) (outs : List Int) (i : Int) : x35 (k + 1) k35_1005 (t35_1005 a outs i) = F35_1005 k (fun (a : List Int) (outs : List Int) (i : Int) => x35 k k35_1005 (t35_1005 a outs i)) (fun (a : List Int) (outs : List Int) (i : Int) => x35 k k35_1009 (t35_1009 a outs i)) a outs i := by kernel_rfl
theorem e35_1009 (k : Nat) (a : List Int) (outs : List Int) (i : Int) : x35 (k + 1) k35_1009 (t35_1009 a outs i) = F35_1009 k (fun (a : List Int) (outs : List Int) (i : Int) => x35 k k35_1005 (t35_1005 a outs i)) (fun (a : List Int) (outs : List Int) (i : Int) => x35 k k35_1009 (t35_1009 a outs i)) a outs i := by kernel_rfl
theorem q35 : ∀ k : Nat, ((fun (a : List Int) (outs : List Int) (i : Int) => x35 k k35_1005 (t35_1005 a outs i)), (fun (a : List Int) (outs : List Int) (i : Int) => x35 k k35_1009 (t35_1009 a outs i))) = l35 k
  | 0 => rfl
  | k + 1 => by
    have h := q35 k
    show _ = (F35_1005 k ((l35 k).1) ((l35 k).2), F35_1009 k ((l35 k).1) ((l35 k).2))
    rw [← h]
    exact (Prod.ext (funext fun a => funext fun outs => funext fun i => e35_1005 k a outs i) (funext fun a => funext fun outs => funext fun i => e35_1009 k a outs i))
theorem w35 (k : Nat) (a : List (Int)) (bare : Bool) : runFn tiV (envOf env16) 49 h35 (finT tiV true Go.Proofs.Try.f35.results.toList [(.vslice 3 (.int .i64), false)] (.vslice 3 (.int .i64))) k (bodyOf Go.Proofs.Try.f35) (initS 0 [.slc 3 (.int .i64) a, .bool bare]) = F35 k (fun (a : List Int) (outs : List Int) (i : Int) => x35 k k35_1005 (t35_1005 a outs i)) (fun (a : List Int) (outs : List Int) (i : Int) => x35 k k35_1009 (t35_1009 a outs i)) a bare := by kernel_rfl
theorem v35 (k : Nat) (a : List (Int)) (bare : Bool) : runFn tiV (envOf env16) 49 h35 (finT tiV true Go.Proofs.Try.f35.results.toList [(.vslice 3 (.int .i64), false)] (.vslice 3 (.int .i64))) k (bodyOf Go.Proofs.Try.f35) (initS 0 [.slc 3 (.int .i64) a, .bool bare]) = f35 k a bare := by
  rw [w35]
  have h := q35 k
  unfold f35
  rw [← h]
theorem m35 : Meets Go.Proofs.Try.prog 35 s35 := meets_of_run tiVOk env16_ok mo Go.Proofs.Try.func35 (body := bodyOf Go.Proofs.Try.f35) (by kernel_rfl) (N := 49) (by kernel_rfl) (hs := h35) (by
  intro k xs r h
  unfold s35 at h
  dsimp only at h
  split at h
  · exact ⟨Nat.le_of_ble_eq_true rfl, (v35 k _ _).trans h⟩
  · cases h)
theorem env17_ok : EnvOk Go.Proofs.Try.prog (envOf env17) := envOf_cons m35 Go.Proofs.Try.func35 (by kernel_rfl) (by kernel_rfl) env16_ok

-- laws.toBox
noncomputable def f10 (k : Nat) (a_K : Int) (a_Low : List (Int)) (a_High : List (Int)) (bare : Bool) : Option (Int × (List (Int) × Nat) × List (Int) × Nat) :=
  (f35 k a_Low bare).bind fun r0 =>
  (f35 k a_High bare).bind fun r1 =>
  some ((a_K, (r0.fst, Option.getD (some r0.snd) (List.length r0.fst)), r1.fst, Option.getD (some r1.snd) (List.length r1.fst)))
noncomputable def s10 : Spec := ⟨false, [(.pair (.int .i64) (.pair (.vslice 3 (.int .i64)) (.vslice 3 (.int .i64))), true)], true, .pair (.int .i64) (.pair (.vslice 3 (.int .i64)) (.vslice 3 (.int .i64))), fun k xs => match xs with | [.agg [.int .i64 a_K, .slc 3 (.int .i64) a_Low, .slc 3 (.int .i64) a_High], .bool bare] => f10 k a_K a_Low a_High bare | _ => none, false, none, false⟩
noncomputable def env18 : List (FuncId × Spec) := (10, s10) :: env17
theorem v10 (k : Nat) (a_K : Int) (a_Low : List (Int)) (a_High : List (Int)) (bare : Bool) : runFn tiV (envOf env17) 20 [] (finT tiV true Go.Proofs.Try.f10.results.toList [(.pair (.int .i64) (.pair (.vslice 3 (.int .i64)) (.vslice 3 (.int .i64))), true)] (.pair (.int .i64) (.pair (.vslice 3 (.int .i64)) (.vslice 3 (.int .i64))))) k (bodyOf Go.Proofs.Try.f10) (initS 0 [.agg [.int .i64 a_K, .slc 3 (.int .i64) a_Low, .slc 3 (.int .i64) a_High], .bool bare]) = f10 k a_K a_Low a_High bare := by kernel_rfl
theorem m10 : Meets Go.Proofs.Try.prog 10 s10 := meets_of_run tiVOk env17_ok mo Go.Proofs.Try.func10 (body := bodyOf Go.Proofs.Try.f10) (by kernel_rfl) (N := 20) (by kernel_rfl) (hs := []) (by
  intro k xs r h
  unfold s10 at h
  dsimp only at h
  split at h
  · exact ⟨Nat.le_of_ble_eq_true rfl, (v10 k _ _ _ _).trans h⟩
  · cases h)
theorem env18_ok : EnvOk Go.Proofs.Try.prog (envOf env18) := envOf_cons m10 Go.Proofs.Try.func10 (by kernel_rfl) (by kernel_rfl) env17_ok

-- laws.toNode
noncomputable def f37 (k : Nat) (a_Kind : Int) (a_Number : Int) : Option (Int × Int) :=
  some ((a_Kind, a_Number))
noncomputable def s37 : Spec := ⟨false, [(.pair (.int .i64) (.int .i64), true)], true, .pair (.int .i64) (.int .i64), fun k xs => match xs with | [.agg [.int .i64 a_Kind, .int .i64 a_Number]] => f37 k a_Kind a_Number | _ => none, false, none, false⟩
noncomputable def env19 : List (FuncId × Spec) := (37, s37) :: env18
theorem v37 (k : Nat) (a_Kind : Int) (a_Number : Int) : runFn tiV (envOf env18) 11 [] (finT tiV true Go.Proofs.Try.f37.results.toList [(.pair (.int .i64) (.int .i64), true)] (.pair (.int .i64) (.int .i64))) k (bodyOf Go.Proofs.Try.f37) (initS 0 [.agg [.int .i64 a_Kind, .int .i64 a_Number]]) = f37 k a_Kind a_Number := by kernel_rfl
theorem m37 : Meets Go.Proofs.Try.prog 37 s37 := meets_of_run tiVOk env18_ok mo Go.Proofs.Try.func37 (body := bodyOf Go.Proofs.Try.f37) (by kernel_rfl) (N := 11) (by kernel_rfl) (hs := []) (by
  intro k xs r h
  unfold s37 at h
  dsimp only at h
  split at h
  · exact ⟨Nat.le_of_ble_eq_true rfl, (v37 k _ _).trans h⟩
  · cases h)
theorem env19_ok : EnvOk Go.Proofs.Try.prog (envOf env19) := envOf_cons m37 Go.Proofs.Try.func37 (by kernel_rfl) (by kernel_rfl) env18_ok

-- laws.fillerNode
noncomputable def f38 (k : Nat)  : Option (Int × Int) :=
  some ((-7000000000000000101, -7000000000000000101))
noncomputable def s38 : Spec := ⟨false, [(.pair (.int .i64) (.int .i64), true)], true, .pair (.int .i64) (.int .i64), fun k xs => match xs with | [] => f38 k  | _ => none, false, none, false⟩
noncomputable def env20 : List (FuncId × Spec) := (38, s38) :: env19
theorem v38 (k : Nat)  : runFn tiV (envOf env19) 2 [] (finT tiV true Go.Proofs.Try.f38.results.toList [(.pair (.int .i64) (.int .i64), true)] (.pair (.int .i64) (.int .i64))) k (bodyOf Go.Proofs.Try.f38) (initS 0 []) = f38 k  := by kernel_rfl
theorem m38 : Meets Go.Proofs.Try.prog 38 s38 := meets_of_run tiVOk env19_ok mo Go.Proofs.Try.func38 (body := bodyOf Go.Proofs.Try.f38) (by kernel_rfl) (N := 2) (by kernel_rfl) (hs := []) (by
  intro k xs r h
  unfold s38 at h
  dsimp only at h
  split at h
  · exact ⟨Nat.le_of_ble_eq_true rfl, (v38 k).trans h⟩
  · cases h)
theorem env20_ok : EnvOk Go.Proofs.Try.prog (envOf env20) := envOf_cons m38 Go.Proofs.Try.func38 (by kernel_rfl) (by kernel_rfl) env19_ok

-- laws.toNodeS
def h11 : Hints := [(1005, .lab [(0, .one (.frz 59 (Ty.pair (Ty.int IntKind.i64) (Ty.int IntKind.i64)))), (5, .one (.own 57 (Ty.pair (Ty.int IntKind.i64) (Ty.int IntKind.i64)))), (6, .one (.v))]), (1009, .lab [(0, .one (.frz 59 (Ty.pair (Ty.int IntKind.i64) (Ty.int IntKind.i64)))), (5, .one (.own 57 (Ty.pair (Ty.int IntKind.i64) (Ty.int IntKind.i64)))), (7, .one (.v))])]
noncomputable def F11_1005 (k : Nat) (rec1005 : List (Int × Int) → List (Int × Int) → Int → Option (List (Int × Int) × Nat)) (rec1009 : List (Int × Int) → List (Int × Int) → Int → Option (List (Int × Int) × Nat)) (a : List (Int × Int)) (outs : List (Int × Int)) (i : Int) : Option (List (Int × Int) × Nat) :=
  bif decide (i < (↑(List.length a) : Int)) then
    bif boundA i (List.length a) then
      bif boundA i (List.length outs) then
        bif Nat.blt (Int.toNat i) (List.length outs) then
          rec1005 a (List.set outs (Int.toNat i) ((List.getD a (Int.toNat i) (0, 0)).fst, (List.getD a (Int.toNat i) (0, 0)).snd)) (IntKind.wrap IntKind.i64 (i + 1))
        else
          none
      else
        none
    else
      none
  else
    rec1009 a outs ((↑(List.length a) : Int))
noncomputable def F11_1009 (k : Nat) (rec1005 : List (Int × Int) → List (Int × Int) → Int → Option (List (Int × Int) × Nat)) (rec1009 : List (Int × Int) → List (Int × Int) → Int → Option (List (Int × Int) × Nat)) (a : List (Int × Int)) (outs : List (Int × Int)) (i : Int) : Option (List (Int × Int) × Nat) :=
  bif decide (i < (↑(List.length outs) : Int)) then
    bif boundA i (List.length outs) then
      bif Nat.blt (Int.toNat i) (List.length outs) then
        rec1009 a (List.set outs (Int.toNat i) (-7000000000000000101, -7000000000000000101)) (IntKind.wrap IntKind.i64 (i + 1))
      else
        none
    else
      none
  else
    bif boundE (↑(List.length a) : Int) (List.length outs) then
      some ((outs, Option.getD (some (Int.toNat (↑(List.length a) : Int))) (List.length outs)))
    else
      none
noncomputable def F11 (k : Nat) (rec1005 : List (Int × Int) → List (Int × Int) → Int → Option (List (Int × Int) × Nat)) (rec1009 : List (Int × Int) → List (Int × Int) → Int → Option (List (Int × Int) × Nat)) (a : List (Int × Int)) (bare : Bool) : Option (List (Int × Int) × Nat) :=
  bif bare then
    bif decide ((↑(List.length a) : Int) = 0) then
      some (([], 0))
    else
      (f36 k (↑(List.length a) : Int)).bind fun r0 =>
      bif decide (0 ≤ IntKind.wrap IntKind.i64 ((↑(List.length a) : Int) + r0)) then
        bif decide (IntKind.wrap IntKind.i64 ((↑(List.length a) : Int) + r0) ≤ IntKind.wrap IntKind.i64 ((↑(List.length a) : Int) + r0)) then
          bif decide (IntKind.wrap IntKind.i64 ((↑(List.length a) : Int) + r0) * (↑16 : Int) ≤ 140737488355328) then
            rec1005 a (List.replicate (Int.toNat (IntKind.wrap IntKind.i64 ((↑(List.length a) : Int) + r0))) (dflt (Ty.pair (Ty.int IntKind.i64) (Ty.int IntKind.i64)))) (0)
          else
            none
        else
          none
      else
        none
  else
    (f36 k (↑(List.length a) : Int)).bind fun r1 =>
    bif decide (0 ≤ IntKind.wrap IntKind.i64 ((↑(List.length a) : Int) + r1)) then
      bif decide (IntKind.wrap IntKind.i64 ((↑(List.length a) : Int) + r1) ≤ IntKind.wrap IntKind.i64 ((↑(List.length a) : Int) + r1)) then
        bif decide (IntKind.wrap IntKind.i64 ((↑(List.length a) : Int) + r1) * (↑16 : Int) ≤ 140737488355328) then
          rec1005 a (List.replicate (Int.toNat (IntKind.wrap IntKind.i64 ((↑(List.length a) : Int) + r1))) (dflt (Ty.pair (Ty.int IntKind.i64) (Ty.int IntKind.i64)))) (0)
        else
          none
      else
        none
    else
      none
noncomputable def l11 : Nat → (List (Int × Int) → List (Int × Int) → Int → Option (List (Int × Int) × Nat)) × (List (Int × Int) → List (Int × Int) → Int → Option (List (Int × Int) × Nat))
  | 0 => (fun _ _ _ => none, fun _ _ _ => none)
  | k + 1 => (F11_1005 k ((l11 k).1) ((l11 k).2), F11_1009 k ((l11 k).1) ((l11 k).2))
noncomputable def f11 (k : Nat) (a : List (Int × Int)) (bare : Bool) : Option (List (Int × Int) × Nat) := F11 k ((l11 k).1) ((l11 k).2) a bare
noncomputable def s11 : Spec := ⟨false, [(.vslice 57 (.pair (.int .i64) (.int .i64)), false)], true, .vslice 57 (.pair (.int .i64) (.int .i64)), fun k xs => match xs with | [.slc 59 (.pair (.int .i64) (.int .i64)) a, .bool bare] => f11 k a bare | _ => none, false, none, false⟩
noncomputable def env21 : List (FuncId × Spec) := (11, s11) :: env20
noncomputable abbrev x11 := exec tiV (envOf env20) 51 h11 (finT tiV true Go.Proofs.Try.f11.results.toList [(.vslice 57 (.pair (.int .i64) (.int .i64)), false)] (.vslice 57 (.pair (.int .i64) (.int .i64))))
noncomputable def k11_1005 : List It := stackAt [.r, .r, .r, .l, .r, .b, .lb none] (bodyOf Go.Proofs.Try.f11) []
def t11_1005 (a : List (Int × Int)) (outs : List (Int × Int)) (i : Int) : St := [(0, Cell.val (AVal.slc 59 (Ty.pair (Ty.int IntKind.i64) (Ty.int IntKind.i64)) a)), (10, Cell.val (AVal.ref 33 none)), (33, Cell.row true 57 (Ty.pair (Ty.int IntKind.i64) (Ty.int IntKind.i64)) outs), (12, Cell.val (AVal.int IntKind.i64 i))]
noncomputable def k11_1009 : List It := stackAt [.r, .r, .r, .r, .l, .r, .b, .lb none] (bodyOf Go.Proofs.Try.f11) []
def t11_1009 (a : List (Int × Int)) (outs : List (Int × Int)) (i : Int) : St := [(0, Cell.val (AVal.slc 59 (Ty.pair (Ty.int IntKind.i64) (Ty.int IntKind.i64)) a)), (10, Cell.val (AVal.ref 33 none)), (33, Cell.row true 57 (Ty.pair (Ty.int IntKind.i64) (Ty.int IntKind.i64)) outs), (14, Cell.val (AVal.int IntKind.i64 i))]
theorem e11_1005 (k : Nat) (a : List (Int × Int)) (outs : List (Int × Int)) (i : Int) : x11 (k + 1) k11_1005 (t11_1005 a outs i) = F11_1005 k (fun (a : List (Int × Int)) (outs : List (Int × Int)) (i : Int) => x11 k k11_1005 (t11_1005 a outs i)) (fun (a : List (Int × Int)) (outs : List (Int × Int)) (i : Int) => x11 k k11_1009 (t11_1009 a outs i)) a outs i := by kernel_rfl
theorem e11_1009 (k : Nat) (a : List (Int × Int)) (outs : List (Int × Int)) (i : Int) : x11 (k + 1) k11_1009 (t11_1009 a outs i) = F11_1009 k (fun (a : List (Int × Int)) (outs : List (Int × Int)) (i : Int) => x11 k k11_1005 (t11_1005 a outs i)) (fun (a : List (Int × Int)) (outs : List (Int × Int)) (i : Int) => x11 k k11_1009 (t11_1009 a outs i)) a outs i := by kernel_rfl
theorem q11 : ∀ k : Nat, ((fun (a : List (Int × Int)) (outs : List (Int × Int)) (i : Int) => x11 k k11_1005 (t11_1005 a outs i)), (fun (a : List (Int × Int)) (outs : List (Int × Int)) (i : Int) => x11 k k11_1009 (t11_1009 a outs i))) = l11 k
  | 0 => rfl
  | k + 1 => by
    have h := q11 k
    show _ = (F11_1005 k ((l11 k).1) ((l11 k).2), F11_1009 k ((l11 k).1) ((l11 k).2))
    rw [← h]
    exact (Prod.ext (funext fun a => funext fun outs => funext fun i => e11_1005 k a outs i) (funext fun a => funext fun outs => funext fun i => e11_1009 k a outs i))
theorem w11 (k : Nat) (a : List (Int × Int)) (bare : Bool) : runFn tiV (envOf env20) 51 h11 (finT tiV true Go.Proofs.Try.f11.results.toList [(.vslice 57 (.pair (.int .i64) (.int .i64)), false)] (.vslice 57 (.pair (.int .i64) (.int .i64)))) k (bodyOf Go.Proofs.Try.f11) (initS 0 [.slc 59 (.pair (.int .i64) (.int .i64)) a, .bool bare]) = F11 k (fun (a : List (Int × Int)) (outs : List (Int × Int)) (i : Int) => x11 k k11_1005 (t11_1005 a outs i)) (fun (a : List (Int × Int)) (outs : List (Int × Int)) (i : Int) => x11 k k11_1009 (t11_1009 a outs i)) a bare := by kernel_rfl
theorem v11 (k : Nat) (a : List (Int × Int)) (bare : Bool) : runFn tiV (envOf env20) 51 h11 (finT tiV true Go.Proofs.Try.f11.results.toList [(.vslice 57 (.pair (.int .i64) (.int .i64)), false)] (.vslice 57 (.pair (.int .i64) (.int .i64)))) k (bodyOf Go.Proofs.Try.f11) (initS 0 [.slc 59 (.pair (.int .i64) (.int .i64)) a, .bool bare]) = f11 k a bare := by
  rw [w11]
  have h := q11 k
  unfold f11
  rw [← h]
theorem m11 : Meets Go.Proofs.Try.prog 11 s11 := meets_of_run tiVOk env20_ok mo Go.Proofs.Try.func11 (body := bodyOf Go.Proofs.Try.f11) (by kernel_rfl) (N := 51) (by kernel_rfl) (hs := h11) (by
  intro k xs r h
  unfold s11 at h
  dsimp only at h
  split at h
  · exact ⟨Nat.le_of_ble_eq_true rfl, (v11 k _ _).trans h⟩
  · cases h)
theorem env21_ok : EnvOk Go.Proofs.Try.prog (envOf env21) := envOf_cons m11 Go.Proofs.Try.func11 (by kernel_rfl) (by kernel_rfl) env20_ok

-- impl.inside
noncomputable def f65 (k : Nat) (n : Int) (low : Int) (high : Int) : Option (Bool) :=
  bif decide (low ≤ n) then
    some (decide (n ≤ high))
  else
    some false
noncomputable def s65 : Spec := ⟨false, [(.bool, false)], true, .bool, fun k xs => match xs with | [.int .i64 n, .int .i64 low, .int .i64 high] => f65 k n low high | _ => none, false, none, false⟩
noncomputable def env22 : List (FuncId × Spec) := (65, s65) :: env21
theorem v65 (k : Nat) (n : Int) (low : Int) (high : Int) : runFn ti (envOf env21) 15 [] (finT ti true Go.Proofs.Try.f65.results.toList [(.bool, false)] (.bool)) k (bodyOf Go.Proofs.Try.f65) (initS 0 [.int .i64 n, .int .i64 low, .int .i64 high]) = f65 k n low high := by kernel_rfl
theorem m65 : Meets Go.Proofs.Try.prog 65 s65 := meets_of_run tiOk env21_ok mo Go.Proofs.Try.func65 (body := bodyOf Go.Proofs.Try.f65) (by kernel_rfl) (N := 15) (by kernel_rfl) (hs := []) (by
  intro k xs r h
  unfold s65 at h
  dsimp only at h
  split at h
  · exact ⟨Nat.le_of_ble_eq_true rfl, (v65 k _ _ _).trans h⟩
  · cases h)
theorem env22_ok : EnvOk Go.Proofs.Try.prog (envOf env22) := envOf_cons m65 Go.Proofs.Try.func65 (by kernel_rfl) (by kernel_rfl) env21_ok

-- impl.isBox
def h39 : Hints := [(1005, .lab [(0, .one (.v)), (3, .one (.v)), (4, .one (.v)), (48, .one (.frz 3 (Ty.int IntKind.i64))), (49, .one (.v)), (50, .one (.v))])]
noncomputable def F39_1005 (k : Nat) (rec1005 : Int × List Int × List Int → Int → Bool → List Int → Int → Int → Option (Bool)) (L : Int × List Int × List Int) (t : Int) (t4 : Bool) (t48 : List Int) (t49 : Int) (t50 : Int) : Option (Bool) :=
  bif decide (t50 < t49) then
    bif boundA t50 (List.length t48) then
      (f65 k (List.getD t48 (Int.toNat t50) 0) (IntKind.wrap IntKind.i64 (0 - t)) t).bind fun r0 =>
      bif !r0 then
        some false
      else
        bif boundA t50 (List.length L.snd.snd) then
          (f65 k (List.getD L.snd.snd (Int.toNat t50) 0) (IntKind.wrap IntKind.i64 (List.getD t48 (Int.toNat t50) 0 + 1)) t).bind fun r1 =>
          bif !r1 then
            some false
          else
            bif t4 then
              rec1005 L t true t48 t49 (IntKind.wrap IntKind.i64 (t50 + 1))
            else
              bif !decide (Int.tmod (List.getD t48 (Int.toNat t50) 0) 2 = 0) then
                rec1005 L t true t48 t49 (IntKind.wrap IntKind.i64 (t50 + 1))
              else
                bif boundA t50 (List.length L.snd.snd) then
                  rec1005 L t (!decide (Int.tmod (List.getD L.snd.snd (Int.toNat t50) 0) 2 = 0)) t48 t49 (IntKind.wrap IntKind.i64 (t50 + 1))
                else
                  none
        else
          none
    else
      none
  else
    some t4
noncomputable def F39 (k : Nat) (rec1005 : Int × List Int × List Int → Int → Bool → List Int → Int → Int → Option (Bool)) (L : Int × (List (Int)) × List (Int)) : Option (Bool) :=
  (f65 k L.fst 0 8).bind fun r0 =>
  bif !r0 then
    some false
  else
    (f65 k (↑(List.length L.snd.fst) : Int) 1 3).bind fun r1 =>
    bif !r1 then
      some false
    else
      bif !decide ((↑(List.length L.snd.snd) : Int) = (↑(List.length L.snd.fst) : Int)) then
        some false
      else
        bif !decide (L.fst < 0) then
          rec1005 L (IntKind.wrap IntKind.i64 (8 * 2 ^ min (Int.toNat L.fst) (IntKind.bits IntKind.i64))) (decide (L.fst = 0)) (L.snd.fst) ((↑(List.length L.snd.fst) : Int)) (0)
        else
          none
noncomputable def l39 : Nat → (Int × List Int × List Int → Int → Bool → List Int → Int → Int → Option (Bool))
  | 0 => fun _ _ _ _ _ _ => none
  | k + 1 => F39_1005 k (l39 k)
noncomputable def f39 (k : Nat) (L : Int × (List (Int)) × List (Int)) : Option (Bool) := F39 k (l39 k) L
noncomputable def s39 : Spec := ⟨false, [(.bool, false)], true, .bool, fun k xs => match xs with | [.fptr (.pair (.int .i64) (.pair (.slice 3 (.int .i64)) (.slice 3 (.int .i64)))) L] => f39 k L | _ => none, false, none, false⟩
noncomputable def env23 : List (FuncId × Spec) := (39, s39) :: env22
noncomputable abbrev x39 := exec ti (envOf env22) 94 h39 (finT ti true Go.Proofs.Try.f39.results.toList [(.bool, false)] (.bool))
noncomputable def k39_1005 : List It := stackAt [.r, .r, .r, .l, .r, .b, .lb none] (bodyOf Go.Proofs.Try.f39) []
def t39_1005 (L : Int × List Int × List Int) (t : Int) (t4 : Bool) (t48 : List Int) (t49 : Int) (t50 : Int) : St := [(0, Cell.val (AVal.fptr (Ty.pair (Ty.int IntKind.i64) (Ty.pair (Ty.slice 3 (Ty.int IntKind.i64)) (Ty.slice 3 (Ty.int IntKind.i64)))) L)), (6, Cell.val (AVal.int IntKind.i64 t)), (8, Cell.val (AVal.bool t4)), (96, Cell.val (AVal.slc 3 (Ty.int IntKind.i64) t48)), (98, Cell.val (AVal.int IntKind.i64 t49)), (100, Cell.val (AVal.int IntKind.i64 t50))]
theorem e39_1005 (k : Nat) (L : Int × List Int × List Int) (t : Int) (t4 : Bool) (t48 : List Int) (t49 : Int) (t50 : Int) : x39 (k + 1) k39_1005 (t39_1005 L t t4 t48 t49 t50) = F39_1005 k (fun (L : Int × List Int × List Int) (t : Int) (t4 : Bool) (t48 : List Int) (t49 : Int) (t50 : Int) => x39 k k39_1005 (t39_1005 L t t4 t48 t49 t50)) L t t4 t48 t49 t50 := by kernel_rfl
theorem q39 : ∀ k : Nat, (fun (L : Int × List Int × List Int) (t : Int) (t4 : Bool) (t48 : List Int) (t49 : Int) (t50 : Int) => x39 k k39_1005 (t39_1005 L t t4 t48 t49 t50)) = l39 k
  | 0 => rfl
  | k + 1 => by
    have h := q39 k
    show _ = F39_1005 k (l39 k)
    rw [← h]
    exact (funext fun L => funext fun t => funext fun t4 => funext fun t48 => funext fun t49 => funext fun t50 => e39_1005 k L t t4 t48 t49 t50)
theorem w39 (k : Nat) (L : Int × (List (Int)) × List (Int)) : runFn ti (envOf env22) 94 h39 (finT ti true Go.Proofs.Try.f39.results.toList [(.bool, false)] (.bool)) k (bodyOf Go.Proofs.Try.f39) (initS 0 [.fptr (.pair (.int .i64) (.pair (.slice 3 (.int .i64)) (.slice 3 (.int .i64)))) L]) = F39 k (fun (L : Int × List Int × List Int) (t : Int) (t4 : Bool) (t48 : List Int) (t49 : Int) (t50 : Int) => x39 k k39_1005 (t39_1005 L t t4 t48 t49 t50)) L := by kernel_rfl
theorem v39 (k : Nat) (L : Int × (List (Int)) × List (Int)) : runFn ti (envOf env22) 94 h39 (finT ti true Go.Proofs.Try.f39.results.toList [(.bool, false)] (.bool)) k (bodyOf Go.Proofs.Try.f39) (initS 0 [.fptr (.pair (.int .i64) (.pair (.slice 3 (.int .i64)) (.slice 3 (.int .i64)))) L]) = f39 k L := by
  rw [w39]
  have h := q39 k
  unfold f39
  rw [← h]
theorem m39 : Meets Go.Proofs.Try.prog 39 s39 := meets_of_run tiOk env22_ok mo Go.Proofs.Try.func39 (body := bodyOf Go.Proofs.Try.f39) (by kernel_rfl) (N := 94) (by kernel_rfl) (hs := h39) (by
  intro k xs r h
  unfold s39 at h
  dsimp only at h
  split at h
  · exact ⟨Nat.le_of_ble_eq_true rfl, (v39 k _).trans h⟩
  · cases h)
theorem env23_ok : EnvOk Go.Proofs.Try.prog (envOf env23) := envOf_cons m39 Go.Proofs.Try.func39 (by kernel_rfl) (by kernel_rfl) env22_ok

-- impl.treeEnd
def h66 : Hints := [(1002, .lab [(0, .one (.frz 57 (Ty.pair (Ty.int IntKind.i64) (Ty.int IntKind.i64)))), (1, .one (.v)), (5, .one (.v))])]
noncomputable def F66_1002 (k : Nat) (rec1002 : List (Int × Int) → Int → Int → Option (Int)) (l : List (Int × Int)) (place : Int) (open_ : Int) : Option (Int) :=
  bif decide (0 < open_) then
    bif decide (place = (↑(List.length l) : Int)) then
      some (-1)
    else
      bif boundA place (List.length l) then
        bif decide ((List.getD l (Int.toNat place) (0, 0)).fst = 0) then
          rec1002 l (IntKind.wrap IntKind.i64 (place + 1)) (IntKind.wrap IntKind.i64 (open_ + 1))
        else
          rec1002 l (IntKind.wrap IntKind.i64 (place + 1)) (IntKind.wrap IntKind.i64 (open_ - 1))
      else
        none
  else
    some place
noncomputable def F66 (k : Nat) (rec1002 : List (Int × Int) → Int → Int → Option (Int)) (l : List (Int × Int)) (place : Int) : Option (Int) :=
  rec1002 l place (1)
noncomputable def l66 : Nat → (List (Int × Int) → Int → Int → Option (Int))
  | 0 => fun _ _ _ => none
  | k + 1 => F66_1002 k (l66 k)
noncomputable def f66 (k : Nat) (l : List (Int × Int)) (place : Int) : Option (Int) := F66 k (l66 k) l place
noncomputable def s66 : Spec := ⟨false, [(.int .i64, false)], true, .int .i64, fun k xs => match xs with | [.slc 57 (.pair (.int .i64) (.int .i64)) l, .int .i64 place] => f66 k l place | _ => none, false, none, false⟩
noncomputable def env24 : List (FuncId × Spec) := (66, s66) :: env23
noncomputable abbrev x66 := exec ti (envOf env23) 25 h66 (finT ti true Go.Proofs.Try.f66.results.toList [(.int .i64, false)] (.int .i64))
noncomputable def k66_1002 : List It := stackAt [.r, .l, .r, .b, .lb none] (bodyOf Go.Proofs.Try.f66) []
def t66_1002 (l : List (Int × Int)) (place : Int) (open_ : Int) : St := [(0, Cell.val (AVal.slc 57 (Ty.pair (Ty.int IntKind.i64) (Ty.int IntKind.i64)) l)), (2, Cell.val (AVal.int IntKind.i64 place)), (10, Cell.val (AVal.int IntKind.i64 open_))]
theorem e66_1002 (k : Nat) (l : List (Int × Int)) (place : Int) (open_ : Int) : x66 (k + 1) k66_1002 (t66_1002 l place open_) = F66_1002 k (fun (l : List (Int × Int)) (place : Int) (open_ : Int) => x66 k k66_1002 (t66_1002 l place open_)) l place open_ := by kernel_rfl
theorem q66 : ∀ k : Nat, (fun (l : List (Int × Int)) (place : Int) (open_ : Int) => x66 k k66_1002 (t66_1002 l place open_)) = l66 k
  | 0 => rfl
  | k + 1 => by
    have h := q66 k
    show _ = F66_1002 k (l66 k)
    rw [← h]
    exact (funext fun l => funext fun place => funext fun open_ => e66_1002 k l place open_)
theorem w66 (k : Nat) (l : List (Int × Int)) (place : Int) : runFn ti (envOf env23) 25 h66 (finT ti true Go.Proofs.Try.f66.results.toList [(.int .i64, false)] (.int .i64)) k (bodyOf Go.Proofs.Try.f66) (initS 0 [.slc 57 (.pair (.int .i64) (.int .i64)) l, .int .i64 place]) = F66 k (fun (l : List (Int × Int)) (place : Int) (open_ : Int) => x66 k k66_1002 (t66_1002 l place open_)) l place := by kernel_rfl
theorem v66 (k : Nat) (l : List (Int × Int)) (place : Int) : runFn ti (envOf env23) 25 h66 (finT ti true Go.Proofs.Try.f66.results.toList [(.int .i64, false)] (.int .i64)) k (bodyOf Go.Proofs.Try.f66) (initS 0 [.slc 57 (.pair (.int .i64) (.int .i64)) l, .int .i64 place]) = f66 k l place := by
  rw [w66]
  have h := q66 k
  unfold f66
  rw [← h]
theorem m66 : Meets Go.Proofs.Try.prog 66 s66 := meets_of_run tiOk env23_ok mo Go.Proofs.Try.func66 (body := bodyOf Go.Proofs.Try.f66) (by kernel_rfl) (N := 25) (by kernel_rfl) (hs := h66) (by
  intro k xs r h
  unfold s66 at h
  dsimp only at h
  split at h
  · exact ⟨Nat.le_of_ble_eq_true rfl, (v66 k _ _).trans h⟩
  · cases h)
theorem env24_ok : EnvOk Go.Proofs.Try.prog (envOf env24) := envOf_cons m66 Go.Proofs.Try.func66 (by kernel_rfl) (by kernel_rfl) env23_ok

end Go.Proofs.YtchdegcfohegfaaE
