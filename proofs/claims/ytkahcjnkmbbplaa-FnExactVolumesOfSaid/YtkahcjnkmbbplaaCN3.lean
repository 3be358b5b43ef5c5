/- Functions, by the engine; printed. -/
import Derived.Test.YtkahcjnkmbbplaaCN2
set_option maxRecDepth 100000
set_option maxHeartbeats 4000000
set_option linter.unusedVariables false
namespace Go.Proofs.YtkahcjnkmbbplaaE
-- spec.bxHalves
noncomputable def f102 (k : Nat) (L_K : Int) (L_Low : List (Int)) (L_High : List (Int)) (i : Int) : Option ((List (Int × (List (Int)) × List (Int))) × Bool) :=
  (f119 k L_K L_Low L_High).bind fun r0 =>
  bif boundA i (List.length L_Low) then
    bif boundA i (List.length L_High) then
      (f101 k r0.fst).bind fun r1 =>
      (f101 k r0.snd).bind fun r2 =>
      bif boundA i (List.length r1) then
        bif Nat.blt (Int.toNat i) (List.length r1) then
          bif boundA i (List.length r2) then
            bif Nat.blt (Int.toNat i) (List.length r2) then
              (f120 k (IntKind.wrap IntKind.i64 (L_K + 1)) r0.fst (List.set r2 (Int.toNat i) (IntKind.wrap IntKind.i64 (List.getD L_Low (Int.toNat i) 0 + List.getD L_High (Int.toNat i) 0)))).bind fun r3 =>
              (f120 k (IntKind.wrap IntKind.i64 (L_K + 1)) (List.set r1 (Int.toNat i) (IntKind.wrap IntKind.i64 (List.getD L_Low (Int.toNat i) 0 + List.getD L_High (Int.toNat i) 0))) r0.snd).bind fun r4 =>
              bif !r3.snd then
                some (([], false))
              else
                bif !r4.snd then
                  some (([], false))
                else
                  some (([(r3.fst.fst, r3.fst.snd.fst, r3.fst.snd.snd), (r4.fst.fst, r4.fst.snd.fst, r4.fst.snd.snd)], true))
            else
              none
          else
            none
        else
          none
      else
        none
    else
      none
  else
    none
noncomputable def s102 : Spec := ⟨false, [(.slice 32 (.pair (.int .i64) (.pair (.slice 3 (.int .i64)) (.slice 3 (.int .i64)))), false), (.bool, false)], true, .pair (.slice 32 (.pair (.int .i64) (.pair (.slice 3 (.int .i64)) (.slice 3 (.int .i64))))) (.bool), fun k xs => match xs with | [.agg [.int .i64 L_K, .slc 3 (.int .i64) L_Low, .slc 3 (.int .i64) L_High], .int .i64 i] => f102 k L_K L_Low L_High i | _ => none, false, none⟩
noncomputable def env25 : List (FuncId × Spec) := (102, s102) :: env24
theorem v102 (k : Nat) (L_K : Int) (L_Low : List (Int)) (L_High : List (Int)) (i : Int) : runFn ti (envOf env24) 70 [] (finT ti true Go.Proofs.Try.f102.results.toList [(.slice 32 (.pair (.int .i64) (.pair (.slice 3 (.int .i64)) (.slice 3 (.int .i64)))), false), (.bool, false)] (.pair (.slice 32 (.pair (.int .i64) (.pair (.slice 3 (.int .i64)) (.slice 3 (.int .i64))))) (.bool))) k (bodyOf Go.Proofs.Try.f102) (initS 0 [.agg [.int .i64 L_K, .slc 3 (.int .i64) L_Low, .slc 3 (.int .i64) L_High], .int .i64 i]) = f102 k L_K L_Low L_High i := by kernel_rfl
theorem m102 : Meets Go.Proofs.Try.prog 102 s102 := meets_of_run tiOk env24_ok mo Go.Proofs.Try.func102 (body := bodyOf Go.Proofs.Try.f102) (by kernel_rfl) (N := 70) (by kernel_rfl) (hs := []) (by
  intro k xs r h
  unfold s102 at h
  dsimp only at h
  split at h
  · exact ⟨Nat.le_of_ble_eq_true rfl, (v102 k _ _ _ _).trans h⟩
  · cases h)
theorem env25_ok : EnvOk Go.Proofs.Try.prog (envOf env25) := envOf_cons m102 Go.Proofs.Try.func102 (by kernel_rfl) (by kernel_rfl) env24_ok

-- spec.trBoxes
def h69 : Hints := [(1004, .lab [(6, .one (.own 32 (Ty.pair (Ty.int IntKind.i64) (Ty.pair (Ty.slice 3 (Ty.int IntKind.i64)) (Ty.slice 3 (Ty.int IntKind.i64)))))), (7, .one (.own 32 (Ty.pair (Ty.int IntKind.i64) (Ty.pair (Ty.slice 3 (Ty.int IntKind.i64)) (Ty.slice 3 (Ty.int IntKind.i64)))))), (15, .one (.frz 63 (Ty.pair (Ty.int IntKind.i64) (Ty.int IntKind.i64)))), (16, .one (.v)), (17, .one (.v))])]
noncomputable def F69_1004 (k : Nat) (rec1004 : List (Int × List Int × List Int) → List (Int × List Int × List Int) → List (Int × Int) → Int → Int → Option ((List (Int × (List (Int)) × List (Int))) × Bool)) (os : List (Int × List Int × List Int)) (As : List (Int × List Int × List Int)) (t15 : List (Int × Int)) (t16 : Int) (t17 : Int) : Option ((List (Int × (List (Int)) × List (Int))) × Bool) :=
  bif decide (t17 < t16) then
    bif boundA t17 (List.length t15) then
      bif boundA (IntKind.wrap IntKind.i64 ((↑(List.length As) : Int) - 1)) (List.length As) then
        bif Nat.blt (Int.toNat (IntKind.wrap IntKind.i64 ((↑(List.length As) : Int) - 1))) (List.length As) then
          bif boundE (IntKind.wrap IntKind.i64 ((↑(List.length As) : Int) - 1)) (List.length As) then
            bif !decide ((List.getD t15 (Int.toNat t17) (0, 0)).fst = 0) then
              (f101 k (List.getD As (Int.toNat (IntKind.wrap IntKind.i64 ((↑(List.length As) : Int) - 1))) (0, [], [])).snd.fst).bind fun r0 =>
              (f101 k (List.getD As (Int.toNat (IntKind.wrap IntKind.i64 ((↑(List.length As) : Int) - 1))) (0, [], [])).snd.snd).bind fun r1 =>
              bif decide ((List.length os + List.length [((List.getD As (Int.toNat (IntKind.wrap IntKind.i64 ((↑(List.length As) : Int) - 1))) (0, [], [])).fst, r0, r1)]) * 56 ≤ 140737488355328) then
                rec1004 (os ++ [((List.getD As (Int.toNat (IntKind.wrap IntKind.i64 ((↑(List.length As) : Int) - 1))) (0, [], [])).fst, r0, r1)]) (List.take (Int.toNat (IntKind.wrap IntKind.i64 ((↑(List.length As) : Int) - 1))) As) t15 t16 (IntKind.wrap IntKind.i64 (t17 + 1))
              else
                none
            else
              (f102 k (List.getD As (Int.toNat (IntKind.wrap IntKind.i64 ((↑(List.length As) : Int) - 1))) (0, [], [])).fst (List.getD As (Int.toNat (IntKind.wrap IntKind.i64 ((↑(List.length As) : Int) - 1))) (0, [], [])).snd.fst (List.getD As (Int.toNat (IntKind.wrap IntKind.i64 ((↑(List.length As) : Int) - 1))) (0, [], [])).snd.snd (List.getD t15 (Int.toNat t17) (0, 0)).snd).bind fun r2 =>
              bif !r2.snd then
                some (([], false))
              else
                bif boundA 1 (List.length r2.fst) then
                  bif Nat.blt (Int.toNat 1) (List.length r2.fst) then
                    bif boundA 0 (List.length r2.fst) then
                      bif Nat.blt (Int.toNat 0) (List.length r2.fst) then
                        bif decide ((List.length (List.take (Int.toNat (IntKind.wrap IntKind.i64 ((↑(List.length As) : Int) - 1))) As) + List.length [((List.getD r2.fst (Int.toNat 1) (0, [], [])).fst, (List.getD r2.fst (Int.toNat 1) (0, [], [])).snd.fst, (List.getD r2.fst (Int.toNat 1) (0, [], [])).snd.snd), ((List.getD r2.fst (Int.toNat 0) (0, [], [])).fst, (List.getD r2.fst (Int.toNat 0) (0, [], [])).snd.fst, (List.getD r2.fst (Int.toNat 0) (0, [], [])).snd.snd)]) * 56 ≤ 140737488355328) then
                          rec1004 os (List.take (Int.toNat (IntKind.wrap IntKind.i64 ((↑(List.length As) : Int) - 1))) As ++ [((List.getD r2.fst (Int.toNat 1) (0, [], [])).fst, (List.getD r2.fst (Int.toNat 1) (0, [], [])).snd.fst, (List.getD r2.fst (Int.toNat 1) (0, [], [])).snd.snd), ((List.getD r2.fst (Int.toNat 0) (0, [], [])).fst, (List.getD r2.fst (Int.toNat 0) (0, [], [])).snd.fst, (List.getD r2.fst (Int.toNat 0) (0, [], [])).snd.snd)]) t15 t16 (IntKind.wrap IntKind.i64 (t17 + 1))
                        else
                          none
                      else
                        none
                    else
                      none
                  else
                    none
                else
                  none
          else
            none
        else
          none
      else
        none
    else
      none
  else
    some ((os, true))
noncomputable def F69 (k : Nat) (rec1004 : List (Int × List Int × List Int) → List (Int × List Int × List Int) → List (Int × Int) → Int → Int → Option ((List (Int × (List (Int)) × List (Int))) × Bool)) (L_K : Int) (L_Low : List (Int)) (L_High : List (Int)) (i : List (Int × Int)) : Option ((List (Int × (List (Int)) × List (Int))) × Bool) :=
  rec1004 ([]) ([(L_K, L_Low, L_High)]) i ((↑(List.length i) : Int)) (0)
noncomputable def l69 : Nat → (List (Int × List Int × List Int) → List (Int × List Int × List Int) → List (Int × Int) → Int → Int → Option ((List (Int × (List (Int)) × List (Int))) × Bool))
  | 0 => fun _ _ _ _ _ => none
  | k + 1 => F69_1004 k (l69 k)
noncomputable def f69 (k : Nat) (L_K : Int) (L_Low : List (Int)) (L_High : List (Int)) (i : List (Int × Int)) : Option ((List (Int × (List (Int)) × List (Int))) × Bool) := F69 k (l69 k) L_K L_Low L_High i
noncomputable def s69 : Spec := ⟨false, [(.slice 32 (.pair (.int .i64) (.pair (.slice 3 (.int .i64)) (.slice 3 (.int .i64)))), false), (.bool, false)], true, .pair (.slice 32 (.pair (.int .i64) (.pair (.slice 3 (.int .i64)) (.slice 3 (.int .i64))))) (.bool), fun k xs => match xs with | [.agg [.int .i64 L_K, .slc 3 (.int .i64) L_Low, .slc 3 (.int .i64) L_High], .slc 63 (.pair (.int .i64) (.int .i64)) i] => f69 k L_K L_Low L_High i | _ => none, false, none⟩
noncomputable def env26 : List (FuncId × Spec) := (69, s69) :: env25
noncomputable abbrev x69 := exec tiC (envOf env25) 67 h69 (finT tiC true Go.Proofs.Try.f69.results.toList [(.slice 32 (.pair (.int .i64) (.pair (.slice 3 (.int .i64)) (.slice 3 (.int .i64)))), false), (.bool, false)] (.pair (.slice 32 (.pair (.int .i64) (.pair (.slice 3 (.int .i64)) (.slice 3 (.int .i64))))) (.bool)))
noncomputable def k69_1004 : List It := stackAt [.r, .r, .r, .l, .r, .b, .lb none] (bodyOf Go.Proofs.Try.f69) []
def t69_1004 (os : List (Int × List Int × List Int)) (As : List (Int × List Int × List Int)) (t15 : List (Int × Int)) (t16 : Int) (t17 : Int) : St := [(12, Cell.val (AVal.ref 33 none)), (33, Cell.row true 32 (Ty.pair (Ty.int IntKind.i64) (Ty.pair (Ty.slice 3 (Ty.int IntKind.i64)) (Ty.slice 3 (Ty.int IntKind.i64)))) os), (14, Cell.val (AVal.ref 35 none)), (35, Cell.row true 32 (Ty.pair (Ty.int IntKind.i64) (Ty.pair (Ty.slice 3 (Ty.int IntKind.i64)) (Ty.slice 3 (Ty.int IntKind.i64)))) As), (30, Cell.val (AVal.slc 63 (Ty.pair (Ty.int IntKind.i64) (Ty.int IntKind.i64)) t15)), (32, Cell.val (AVal.int IntKind.i64 t16)), (34, Cell.val (AVal.int IntKind.i64 t17))]
theorem e69_1004 (k : Nat) (os : List (Int × List Int × List Int)) (As : List (Int × List Int × List Int)) (t15 : List (Int × Int)) (t16 : Int) (t17 : Int) : x69 (k + 1) k69_1004 (t69_1004 os As t15 t16 t17) = F69_1004 k (fun (os : List (Int × List Int × List Int)) (As : List (Int × List Int × List Int)) (t15 : List (Int × Int)) (t16 : Int) (t17 : Int) => x69 k k69_1004 (t69_1004 os As t15 t16 t17)) os As t15 t16 t17 := by kernel_rfl
theorem q69 : ∀ k : Nat, (fun (os : List (Int × List Int × List Int)) (As : List (Int × List Int × List Int)) (t15 : List (Int × Int)) (t16 : Int) (t17 : Int) => x69 k k69_1004 (t69_1004 os As t15 t16 t17)) = l69 k
  | 0 => rfl
  | k + 1 => by
    have h := q69 k
    show _ = F69_1004 k (l69 k)
    rw [← h]
    exact (funext fun os => funext fun As => funext fun t15 => funext fun t16 => funext fun t17 => e69_1004 k os As t15 t16 t17)
theorem w69 (k : Nat) (L_K : Int) (L_Low : List (Int)) (L_High : List (Int)) (i : List (Int × Int)) : runFn tiC (envOf env25) 67 h69 (finT tiC true Go.Proofs.Try.f69.results.toList [(.slice 32 (.pair (.int .i64) (.pair (.slice 3 (.int .i64)) (.slice 3 (.int .i64)))), false), (.bool, false)] (.pair (.slice 32 (.pair (.int .i64) (.pair (.slice 3 (.int .i64)) (.slice 3 (.int .i64))))) (.bool))) k (bodyOf Go.Proofs.Try.f69) (initS 0 [.agg [.int .i64 L_K, .slc 3 (.int .i64) L_Low, .slc 3 (.int .i64) L_High], .slc 63 (.pair (.int .i64) (.int .i64)) i]) = F69 k (fun (os : List (Int × List Int × List Int)) (As : List (Int × List Int × List Int)) (t15 : List (Int × Int)) (t16 : Int) (t17 : Int) => x69 k k69_1004 (t69_1004 os As t15 t16 t17)) L_K L_Low L_High i := by kernel_rfl
theorem v69 (k : Nat) (L_K : Int) (L_Low : List (Int)) (L_High : List (Int)) (i : List (Int × Int)) : runFn tiC (envOf env25) 67 h69 (finT tiC true Go.Proofs.Try.f69.results.toList [(.slice 32 (.pair (.int .i64) (.pair (.slice 3 (.int .i64)) (.slice 3 (.int .i64)))), false), (.bool, false)] (.pair (.slice 32 (.pair (.int .i64) (.pair (.slice 3 (.int .i64)) (.slice 3 (.int .i64))))) (.bool))) k (bodyOf Go.Proofs.Try.f69) (initS 0 [.agg [.int .i64 L_K, .slc 3 (.int .i64) L_Low, .slc 3 (.int .i64) L_High], .slc 63 (.pair (.int .i64) (.int .i64)) i]) = f69 k L_K L_Low L_High i := by
  rw [w69]
  have h := q69 k
  unfold f69
  rw [← h]
theorem m69 : Meets Go.Proofs.Try.prog 69 s69 := meets_of_run tiCOk env25_ok mo Go.Proofs.Try.func69 (body := bodyOf Go.Proofs.Try.f69) (by kernel_rfl) (N := 67) (by kernel_rfl) (hs := h69) (by
  intro k xs r h
  unfold s69 at h
  dsimp only at h
  split at h
  · exact ⟨Nat.le_of_ble_eq_true rfl, (v69 k _ _ _ _).trans h⟩
  · cases h)
theorem env26_ok : EnvOk Go.Proofs.Try.prog (envOf env26) := envOf_cons m69 Go.Proofs.Try.func69 (by kernel_rfl) (by kernel_rfl) env25_ok

-- spec.rpAsked
noncomputable def f35 (k : Nat) (b_K : Int) (b_Low : List (Int)) (b_High : List (Int)) (l : List (Int × Int)) : Option ((List (Int × (List (Int)) × List (Int))) × Bool) :=
  (f67 k b_K b_Low b_High).bind fun r0 =>
  bif !r0 then
    some (([], false))
  else
    (f68 k l (↑(List.length b_Low) : Int)).bind fun r1 =>
    bif !r1 then
      some (([], false))
    else
      (f69 k b_K b_Low b_High l).bind fun r2 =>
      some ((r2.fst, r2.snd))
noncomputable def s35 : Spec := ⟨false, [(.slice 32 (.pair (.int .i64) (.pair (.slice 3 (.int .i64)) (.slice 3 (.int .i64)))), false), (.bool, false)], true, .pair (.slice 32 (.pair (.int .i64) (.pair (.slice 3 (.int .i64)) (.slice 3 (.int .i64))))) (.bool), fun k xs => match xs with | [.agg [.int .i64 b_K, .slc 3 (.int .i64) b_Low, .slc 3 (.int .i64) b_High], .slc 63 (.pair (.int .i64) (.int .i64)) l] => f35 k b_K b_Low b_High l | _ => none, false, none⟩
noncomputable def env27 : List (FuncId × Spec) := (35, s35) :: env26
theorem v35 (k : Nat) (b_K : Int) (b_Low : List (Int)) (b_High : List (Int)) (l : List (Int × Int)) : runFn ti (envOf env26) 22 [] (finT ti true Go.Proofs.Try.f35.results.toList [(.slice 32 (.pair (.int .i64) (.pair (.slice 3 (.int .i64)) (.slice 3 (.int .i64)))), false), (.bool, false)] (.pair (.slice 32 (.pair (.int .i64) (.pair (.slice 3 (.int .i64)) (.slice 3 (.int .i64))))) (.bool))) k (bodyOf Go.Proofs.Try.f35) (initS 0 [.agg [.int .i64 b_K, .slc 3 (.int .i64) b_Low, .slc 3 (.int .i64) b_High], .slc 63 (.pair (.int .i64) (.int .i64)) l]) = f35 k b_K b_Low b_High l := by kernel_rfl
theorem m35 : Meets Go.Proofs.Try.prog 35 s35 := meets_of_run tiOk env26_ok mo Go.Proofs.Try.func35 (body := bodyOf Go.Proofs.Try.f35) (by kernel_rfl) (N := 22) (by kernel_rfl) (hs := []) (by
  intro k xs r h
  unfold s35 at h
  dsimp only at h
  split at h
  · exact ⟨Nat.le_of_ble_eq_true rfl, (v35 k _ _ _ _).trans h⟩
  · cases h)
theorem env27_ok : EnvOk Go.Proofs.Try.prog (envOf env27) := envOf_cons m35 Go.Proofs.Try.func35 (by kernel_rfl) (by kernel_rfl) env26_ok

-- spec.dyAt
def h64 : Hints := [(1004, .lab [(1, .one (.v)), (2, .box 68 [.v, .v]), (6, .one (.v))])]
noncomputable def F64_1004 (k : Nat) (rec1004 : Int → Int → Int → Int → Option (Int × Bool)) (k_ : Int) (as_0 : Int) (as_1 : Int) (i : Int) : Option (Int × Bool) :=
  bif decide (i < k_) then
    (f95 k as_0 (IntKind.wrap IntKind.i64 (0 - IntKind.wrap IntKind.i64 (1 * 2 ^ min (Int.toNat (IntKind.wrap IntKind.u64 60)) (IntKind.bits IntKind.i64)))) (IntKind.wrap IntKind.i64 (1 * 2 ^ min (Int.toNat (IntKind.wrap IntKind.u64 60)) (IntKind.bits IntKind.i64)))).bind fun r0 =>
    bif !r0 then
      some ((0, false))
    else
      rec1004 k_ (IntKind.wrap IntKind.i64 (as_0 * 2)) as_1 (IntKind.wrap IntKind.i64 (i + 1))
  else
    some ((as_0, true))
noncomputable def F64 (k : Nat) (rec1004 : Int → Int → Int → Int → Option (Int × Bool)) (a_N : Int) (a_K : Int) (k_ : Int) : Option (Int × Bool) :=
  bif decide (a_N = 0) then
    some ((0, true))
  else
    rec1004 k_ a_N a_K a_K
noncomputable def l64 : Nat → (Int → Int → Int → Int → Option (Int × Bool))
  | 0 => fun _ _ _ _ => none
  | k + 1 => F64_1004 k (l64 k)
noncomputable def f64 (k : Nat) (a_N : Int) (a_K : Int) (k_ : Int) : Option (Int × Bool) := F64 k (l64 k) a_N a_K k_
noncomputable def s64 : Spec := ⟨false, [(.int .i64, false), (.bool, false)], true, .pair (.int .i64) (.bool), fun k xs => match xs with | [.agg [.int .i64 a_N, .int .i64 a_K], .int .i64 k_] => f64 k a_N a_K k_ | _ => none, false, none⟩
noncomputable def env28 : List (FuncId × Spec) := (64, s64) :: env27
noncomputable abbrev x64 := exec ti (envOf env27) 30 h64 (finT ti true Go.Proofs.Try.f64.results.toList [(.int .i64, false), (.bool, false)] (.pair (.int .i64) (.bool)))
noncomputable def k64_1004 : List It := stackAt [.r, .r, .l, .r, .b, .lb none] (bodyOf Go.Proofs.Try.f64) []
def t64_1004 (k_ : Int) (as_0 : Int) (as_1 : Int) (i : Int) : St := [(2, Cell.val (AVal.int IntKind.i64 k_)), (4, Cell.val (AVal.ptr 33 0)), (33, Cell.mem true 68 [AVal.int IntKind.i64 as_0, AVal.int IntKind.i64 as_1]), (12, Cell.val (AVal.int IntKind.i64 i))]
theorem e64_1004 (k : Nat) (k_ : Int) (as_0 : Int) (as_1 : Int) (i : Int) : x64 (k + 1) k64_1004 (t64_1004 k_ as_0 as_1 i) = F64_1004 k (fun (k_ : Int) (as_0 : Int) (as_1 : Int) (i : Int) => x64 k k64_1004 (t64_1004 k_ as_0 as_1 i)) k_ as_0 as_1 i := by kernel_rfl
theorem q64 : ∀ k : Nat, (fun (k_ : Int) (as_0 : Int) (as_1 : Int) (i : Int) => x64 k k64_1004 (t64_1004 k_ as_0 as_1 i)) = l64 k
  | 0 => rfl
  | k + 1 => by
    have h := q64 k
    show _ = F64_1004 k (l64 k)
    rw [← h]
    exact (funext fun k_ => funext fun as_0 => funext fun as_1 => funext fun i => e64_1004 k k_ as_0 as_1 i)
theorem w64 (k : Nat) (a_N : Int) (a_K : Int) (k_ : Int) : runFn ti (envOf env27) 30 h64 (finT ti true Go.Proofs.Try.f64.results.toList [(.int .i64, false), (.bool, false)] (.pair (.int .i64) (.bool))) k (bodyOf Go.Proofs.Try.f64) (initS 0 [.agg [.int .i64 a_N, .int .i64 a_K], .int .i64 k_]) = F64 k (fun (k_ : Int) (as_0 : Int) (as_1 : Int) (i : Int) => x64 k k64_1004 (t64_1004 k_ as_0 as_1 i)) a_N a_K k_ := by kernel_rfl
theorem v64 (k : Nat) (a_N : Int) (a_K : Int) (k_ : Int) : runFn ti (envOf env27) 30 h64 (finT ti true Go.Proofs.Try.f64.results.toList [(.int .i64, false), (.bool, false)] (.pair (.int .i64) (.bool))) k (bodyOf Go.Proofs.Try.f64) (initS 0 [.agg [.int .i64 a_N, .int .i64 a_K], .int .i64 k_]) = f64 k a_N a_K k_ := by
  rw [w64]
  have h := q64 k
  unfold f64
  rw [← h]
theorem m64 : Meets Go.Proofs.Try.prog 64 s64 := meets_of_run tiOk env27_ok mo Go.Proofs.Try.func64 (body := bodyOf Go.Proofs.Try.f64) (by kernel_rfl) (N := 30) (by kernel_rfl) (hs := h64) (by
  intro k xs r h
  unfold s64 at h
  dsimp only at h
  split at h
  · exact ⟨Nat.le_of_ble_eq_true rfl, (v64 k _ _ _).trans h⟩
  · cases h)
theorem env28_ok : EnvOk Go.Proofs.Try.prog (envOf env28) := envOf_cons m64 Go.Proofs.Try.func64 (by kernel_rfl) (by kernel_rfl) env27_ok

-- spec.dyDown
noncomputable def f110 (k : Nat) (a : Int) (b : Int) : Option (Int) :=
  bif !decide (b = 0) then
    bif !decide (b = 0) then
      bif decide (Int.tmod a b < 0) then
        some (IntKind.wrap IntKind.i64 (IntKind.wrap IntKind.i64 (Int.tdiv a b) - 1))
      else
        some (IntKind.wrap IntKind.i64 (Int.tdiv a b))
    else
      none
  else
    none
noncomputable def s110 : Spec := ⟨false, [(.int .i64, false)], true, .int .i64, fun k xs => match xs with | [.int .i64 a, .int .i64 b] => f110 k a b | _ => none, false, none⟩
noncomputable def env29 : List (FuncId × Spec) := (110, s110) :: env28
theorem v110 (k : Nat) (a : Int) (b : Int) : runFn ti (envOf env28) 16 [] (finT ti true Go.Proofs.Try.f110.results.toList [(.int .i64, false)] (.int .i64)) k (bodyOf Go.Proofs.Try.f110) (initS 0 [.int .i64 a, .int .i64 b]) = f110 k a b := by kernel_rfl
theorem m110 : Meets Go.Proofs.Try.prog 110 s110 := meets_of_run tiOk env28_ok mo Go.Proofs.Try.func110 (body := bodyOf Go.Proofs.Try.f110) (by kernel_rfl) (N := 16) (by kernel_rfl) (hs := []) (by
  intro k xs r h
  unfold s110 at h
  dsimp only at h
  split at h
  · exact ⟨Nat.le_of_ble_eq_true rfl, (v110 k _ _).trans h⟩
  · cases h)
theorem env29_ok : EnvOk Go.Proofs.Try.prog (envOf env29) := envOf_cons m110 Go.Proofs.Try.func110 (by kernel_rfl) (by kernel_rfl) env28_ok

-- spec.dyFloor
noncomputable def f79 (k : Nat) (a_N : Int) (a_K : Int) : Option (Int) :=
  (f81 k a_K).bind fun r0 =>
  (f110 k a_N r0).bind fun r1 =>
  some r1
noncomputable def s79 : Spec := ⟨false, [(.int .i64, false)], true, .int .i64, fun k xs => match xs with | [.agg [.int .i64 a_N, .int .i64 a_K]] => f79 k a_N a_K | _ => none, false, none⟩
noncomputable def env30 : List (FuncId × Spec) := (79, s79) :: env29
theorem v79 (k : Nat) (a_N : Int) (a_K : Int) : runFn ti (envOf env29) 9 [] (finT ti true Go.Proofs.Try.f79.results.toList [(.int .i64, false)] (.int .i64)) k (bodyOf Go.Proofs.Try.f79) (initS 0 [.agg [.int .i64 a_N, .int .i64 a_K]]) = f79 k a_N a_K := by kernel_rfl
theorem m79 : Meets Go.Proofs.Try.prog 79 s79 := meets_of_run tiOk env29_ok mo Go.Proofs.Try.func79 (body := bodyOf Go.Proofs.Try.f79) (by kernel_rfl) (N := 9) (by kernel_rfl) (hs := []) (by
  intro k xs r h
  unfold s79 at h
  dsimp only at h
  split at h
  · exact ⟨Nat.le_of_ble_eq_true rfl, (v79 k _ _).trans h⟩
  · cases h)
theorem env30_ok : EnvOk Go.Proofs.Try.prog (envOf env30) := envOf_cons m79 Go.Proofs.Try.func79 (by kernel_rfl) (by kernel_rfl) env29_ok

-- spec.l1Sign
noncomputable def f80 (k : Nat) (n : Int) : Option (Int) :=
  bif decide (0 < n) then
    some (1)
  else
    bif decide (n < 0) then
      some (-1)
    else
      some (0)
noncomputable def s80 : Spec := ⟨false, [(.int .i64, false)], true, .int .i64, fun k xs => match xs with | [.int .i64 n] => f80 k n | _ => none, false, none⟩
noncomputable def env31 : List (FuncId × Spec) := (80, s80) :: env30
theorem v80 (k : Nat) (n : Int) : runFn ti (envOf env30) 9 [] (finT ti true Go.Proofs.Try.f80.results.toList [(.int .i64, false)] (.int .i64)) k (bodyOf Go.Proofs.Try.f80) (initS 0 [.int .i64 n]) = f80 k n := by kernel_rfl
theorem m80 : Meets Go.Proofs.Try.prog 80 s80 := meets_of_run tiOk env30_ok mo Go.Proofs.Try.func80 (body := bodyOf Go.Proofs.Try.f80) (by kernel_rfl) (N := 9) (by kernel_rfl) (hs := []) (by
  intro k xs r h
  unfold s80 at h
  dsimp only at h
  split at h
  · exact ⟨Nat.le_of_ble_eq_true rfl, (v80 k _).trans h⟩
  · cases h)
theorem env31_ok : EnvOk Go.Proofs.Try.prog (envOf env31) := envOf_cons m80 Go.Proofs.Try.func80 (by kernel_rfl) (by kernel_rfl) env30_ok

-- spec.dyCmp
noncomputable def f49 (k : Nat) (a_N : Int) (a_K : Int) (b_N : Int) (b_K : Int) : Option (Int) :=
  (f79 k a_N a_K).bind fun r0 =>
  (f79 k b_N b_K).bind fun r1 =>
  bif !decide (r0 = r1) then
    (f80 k (IntKind.wrap IntKind.i64 (r0 - r1))).bind fun r2 =>
    some r2
  else
    (f81 k a_K).bind fun r3 =>
    (f64 k (IntKind.wrap IntKind.i64 (a_N - IntKind.wrap IntKind.i64 (r0 * r3))) a_K 24).bind fun r4 =>
    (f81 k b_K).bind fun r5 =>
    (f64 k (IntKind.wrap IntKind.i64 (b_N - IntKind.wrap IntKind.i64 (r1 * r5))) b_K 24).bind fun r6 =>
    (f80 k (IntKind.wrap IntKind.i64 (r4.fst - r6.fst))).bind fun r7 =>
    some r7
noncomputable def s49 : Spec := ⟨false, [(.int .i64, false)], true, .int .i64, fun k xs => match xs with | [.agg [.int .i64 a_N, .int .i64 a_K], .agg [.int .i64 b_N, .int .i64 b_K]] => f49 k a_N a_K b_N b_K | _ => none, false, none⟩
noncomputable def env32 : List (FuncId × Spec) := (49, s49) :: env31
theorem v49 (k : Nat) (a_N : Int) (a_K : Int) (b_N : Int) (b_K : Int) : runFn ti (envOf env31) 56 [] (finT ti true Go.Proofs.Try.f49.results.toList [(.int .i64, false)] (.int .i64)) k (bodyOf Go.Proofs.Try.f49) (initS 0 [.agg [.int .i64 a_N, .int .i64 a_K], .agg [.int .i64 b_N, .int .i64 b_K]]) = f49 k a_N a_K b_N b_K := by kernel_rfl
theorem m49 : Meets Go.Proofs.Try.prog 49 s49 := meets_of_run tiOk env31_ok mo Go.Proofs.Try.func49 (body := bodyOf Go.Proofs.Try.f49) (by kernel_rfl) (N := 56) (by kernel_rfl) (hs := []) (by
  intro k xs r h
  unfold s49 at h
  dsimp only at h
  split at h
  · exact ⟨Nat.le_of_ble_eq_true rfl, (v49 k _ _ _ _).trans h⟩
  · cases h)
theorem env32_ok : EnvOk Go.Proofs.Try.prog (envOf env32) := envOf_cons m49 Go.Proofs.Try.func49 (by kernel_rfl) (by kernel_rfl) env31_ok

-- spec.rpLeaves
def h53 : Hints := [(1003, .lab [(3, .one (.own 63 (Ty.pair (Ty.int IntKind.i64) (Ty.int IntKind.i64)))), (6, .one (.frz 63 (Ty.pair (Ty.int IntKind.i64) (Ty.int IntKind.i64)))), (7, .one (.v)), (8, .one (.v))])]
noncomputable def F53_1003 (k : Nat) (rec1003 : List (Int × Int) → List (Int × Int) → Int → Int → Option (List (Int × Int))) (outs : List (Int × Int)) (t6 : List (Int × Int)) (t7 : Int) (t8 : Int) : Option (List (Int × Int)) :=
  bif decide (t8 < t7) then
    bif boundA t8 (List.length t6) then
      bif !decide ((List.getD t6 (Int.toNat t8) (0, 0)).fst = 0) then
        bif decide ((List.length outs + List.length [((List.getD t6 (Int.toNat t8) (0, 0)).fst, (List.getD t6 (Int.toNat t8) (0, 0)).snd)]) * 16 ≤ 140737488355328) then
          rec1003 (outs ++ [((List.getD t6 (Int.toNat t8) (0, 0)).fst, (List.getD t6 (Int.toNat t8) (0, 0)).snd)]) t6 t7 (IntKind.wrap IntKind.i64 (t8 + 1))
        else
          none
      else
        rec1003 outs t6 t7 (IntKind.wrap IntKind.i64 (t8 + 1))
    else
      none
  else
    some outs
noncomputable def F53 (k : Nat) (rec1003 : List (Int × Int) → List (Int × Int) → Int → Int → Option (List (Int × Int))) (l : List (Int × Int)) : Option (List (Int × Int)) :=
  rec1003 ([]) l ((↑(List.length l) : Int)) (0)
noncomputable def l53 : Nat → (List (Int × Int) → List (Int × Int) → Int → Int → Option (List (Int × Int)))
  | 0 => fun _ _ _ _ => none
  | k + 1 => F53_1003 k (l53 k)
noncomputable def f53 (k : Nat) (l : List (Int × Int)) : Option (List (Int × Int)) := F53 k (l53 k) l
noncomputable def s53 : Spec := ⟨false, [(.slice 63 (.pair (.int .i64) (.int .i64)), false)], true, .slice 63 (.pair (.int .i64) (.int .i64)), fun k xs => match xs with | [.slc 63 (.pair (.int .i64) (.int .i64)) l] => f53 k l | _ => none, false, none⟩
noncomputable def env33 : List (FuncId × Spec) := (53, s53) :: env32
noncomputable abbrev x53 := exec ti (envOf env32) 21 h53 (finT ti true Go.Proofs.Try.f53.results.toList [(.slice 63 (.pair (.int .i64) (.int .i64)), false)] (.slice 63 (.pair (.int .i64) (.int .i64))))
noncomputable def k53_1003 : List It := stackAt [.r, .r, .l, .r, .b, .lb none] (bodyOf Go.Proofs.Try.f53) []
def t53_1003 (outs : List (Int × Int)) (t6 : List (Int × Int)) (t7 : Int) (t8 : Int) : St := [(6, Cell.val (AVal.ref 33 none)), (33, Cell.row true 63 (Ty.pair (Ty.int IntKind.i64) (Ty.int IntKind.i64)) outs), (12, Cell.val (AVal.slc 63 (Ty.pair (Ty.int IntKind.i64) (Ty.int IntKind.i64)) t6)), (14, Cell.val (AVal.int IntKind.i64 t7)), (16, Cell.val (AVal.int IntKind.i64 t8))]
theorem e53_1003 (k : Nat) (outs : List (Int × Int)) (t6 : List (Int × Int)) (t7 : Int) (t8 : Int) : x53 (k + 1) k53_1003 (t53_1003 outs t6 t7 t8) = F53_1003 k (fun (outs : List (Int × Int)) (t6 : List (Int × Int)) (t7 : Int) (t8 : Int) => x53 k k53_1003 (t53_1003 outs t6 t7 t8)) outs t6 t7 t8 := by kernel_rfl
theorem q53 : ∀ k : Nat, (fun (outs : List (Int × Int)) (t6 : List (Int × Int)) (t7 : Int) (t8 : Int) => x53 k k53_1003 (t53_1003 outs t6 t7 t8)) = l53 k
  | 0 => rfl
  | k + 1 => by
    have h := q53 k
    show _ = F53_1003 k (l53 k)
    rw [← h]
    exact (funext fun outs => funext fun t6 => funext fun t7 => funext fun t8 => e53_1003 k outs t6 t7 t8)
theorem w53 (k : Nat) (l : List (Int × Int)) : runFn ti (envOf env32) 21 h53 (finT ti true Go.Proofs.Try.f53.results.toList [(.slice 63 (.pair (.int .i64) (.int .i64)), false)] (.slice 63 (.pair (.int .i64) (.int .i64)))) k (bodyOf Go.Proofs.Try.f53) (initS 0 [.slc 63 (.pair (.int .i64) (.int .i64)) l]) = F53 k (fun (outs : List (Int × Int)) (t6 : List (Int × Int)) (t7 : Int) (t8 : Int) => x53 k k53_1003 (t53_1003 outs t6 t7 t8)) l := by kernel_rfl
theorem v53 (k : Nat) (l : List (Int × Int)) : runFn ti (envOf env32) 21 h53 (finT ti true Go.Proofs.Try.f53.results.toList [(.slice 63 (.pair (.int .i64) (.int .i64)), false)] (.slice 63 (.pair (.int .i64) (.int .i64)))) k (bodyOf Go.Proofs.Try.f53) (initS 0 [.slc 63 (.pair (.int .i64) (.int .i64)) l]) = f53 k l := by
  rw [w53]
  have h := q53 k
  unfold f53
  rw [← h]
theorem m53 : Meets Go.Proofs.Try.prog 53 s53 := meets_of_run tiOk env32_ok mo Go.Proofs.Try.func53 (body := bodyOf Go.Proofs.Try.f53) (by kernel_rfl) (N := 21) (by kernel_rfl) (hs := h53) (by
  intro k xs r h
  unfold s53 at h
  dsimp only at h
  split at h
  · exact ⟨Nat.le_of_ble_eq_true rfl, (v53 k _).trans h⟩
  · cases h)
theorem env33_ok : EnvOk Go.Proofs.Try.prog (envOf env33) := envOf_cons m53 Go.Proofs.Try.func53 (by kernel_rfl) (by kernel_rfl) env32_ok

-- spec.dyGood
noncomputable def f70 (k : Nat) (a_N : Int) (a_K : Int) : Option (Bool) :=
  (f95 k a_K 0 24).bind fun r0 =>
  bif r0 then
    (f95 k a_N (-1099511627776) 1099511627776).bind fun r1 =>
    bif r1 then
      bif decide (a_K = 0) then
        some true
      else
        some (!decide (Int.tmod a_N 2 = 0))
    else
      some false
  else
    some false
noncomputable def s70 : Spec := ⟨false, [(.bool, false)], true, .bool, fun k xs => match xs with | [.agg [.int .i64 a_N, .int .i64 a_K]] => f70 k a_N a_K | _ => none, false, none⟩
noncomputable def env34 : List (FuncId × Spec) := (70, s70) :: env33
theorem v70 (k : Nat) (a_N : Int) (a_K : Int) : runFn ti (envOf env33) 22 [] (finT ti true Go.Proofs.Try.f70.results.toList [(.bool, false)] (.bool)) k (bodyOf Go.Proofs.Try.f70) (initS 0 [.agg [.int .i64 a_N, .int .i64 a_K]]) = f70 k a_N a_K := by kernel_rfl
theorem m70 : Meets Go.Proofs.Try.prog 70 s70 := meets_of_run tiOk env33_ok mo Go.Proofs.Try.func70 (body := bodyOf Go.Proofs.Try.f70) (by kernel_rfl) (N := 22) (by kernel_rfl) (hs := []) (by
  intro k xs r h
  unfold s70 at h
  dsimp only at h
  split at h
  · exact ⟨Nat.le_of_ble_eq_true rfl, (v70 k _ _).trans h⟩
  · cases h)
theorem env34_ok : EnvOk Go.Proofs.Try.prog (envOf env34) := envOf_cons m70 Go.Proofs.Try.func70 (by kernel_rfl) (by kernel_rfl) env33_ok

-- spec.dyMake
def h103 : Hints := [(1003, .lab [(0, .one (.v)), (1, .one (.v)), (4, .box 68 [.v, .v])])]
noncomputable def F103_1003 (k : Nat) (rec1003 : Int → Int → Int → Int → Option ((Int × Int) × Bool)) (n : Int) (k_ : Int) (t4s_0 : Int) (t4s_1 : Int) : Option ((Int × Int) × Bool) :=
  bif decide (0 < k_) then
    bif decide (Int.tmod n 2 = 0) then
      rec1003 (IntKind.wrap IntKind.i64 (Int.tdiv n 2)) (IntKind.wrap IntKind.i64 (k_ - 1)) t4s_0 t4s_1
    else
      (f70 k n k_).bind fun r0 =>
      bif !r0 then
        some (((0, 0), false))
      else
        some (((n, k_), true))
  else
    (f70 k n k_).bind fun r1 =>
    bif !r1 then
      some (((0, 0), false))
    else
      some (((n, k_), true))
noncomputable def F103 (k : Nat) (rec1003 : Int → Int → Int → Int → Option ((Int × Int) × Bool)) (n : Int) (k_ : Int) : Option ((Int × Int) × Bool) :=
  bif decide (n = 0) then
    bif decide (0 < k_) then
      rec1003 n (0) (0) (0)
    else
      rec1003 n k_ (0) (0)
  else
    rec1003 n k_ (0) (0)
noncomputable def l103 : Nat → (Int → Int → Int → Int → Option ((Int × Int) × Bool))
  | 0 => fun _ _ _ _ => none
  | k + 1 => F103_1003 k (l103 k)
noncomputable def f103 (k : Nat) (n : Int) (k_ : Int) : Option ((Int × Int) × Bool) := F103 k (l103 k) n k_
noncomputable def s103 : Spec := ⟨false, [(.pair (.int .i64) (.int .i64), true), (.bool, false)], true, .pair (.pair (.int .i64) (.int .i64)) (.bool), fun k xs => match xs with | [.int .i64 n, .int .i64 k_] => f103 k n k_ | _ => none, false, none⟩
noncomputable def env35 : List (FuncId × Spec) := (103, s103) :: env34
noncomputable abbrev x103 := exec ti (envOf env34) 32 h103 (finT ti true Go.Proofs.Try.f103.results.toList [(.pair (.int .i64) (.int .i64), true), (.bool, false)] (.pair (.pair (.int .i64) (.int .i64)) (.bool)))
noncomputable def k103_1003 : List It := stackAt [.r, .r, .l, .b, .lb none] (bodyOf Go.Proofs.Try.f103) []
def t103_1003 (n : Int) (k_ : Int) (t4s_0 : Int) (t4s_1 : Int) : St := [(0, Cell.val (AVal.int IntKind.i64 n)), (2, Cell.val (AVal.int IntKind.i64 k_)), (8, Cell.val (AVal.ptr 33 0)), (33, Cell.mem true 68 [AVal.int IntKind.i64 t4s_0, AVal.int IntKind.i64 t4s_1])]
theorem e103_1003 (k : Nat) (n : Int) (k_ : Int) (t4s_0 : Int) (t4s_1 : Int) : x103 (k + 1) k103_1003 (t103_1003 n k_ t4s_0 t4s_1) = F103_1003 k (fun (n : Int) (k_ : Int) (t4s_0 : Int) (t4s_1 : Int) => x103 k k103_1003 (t103_1003 n k_ t4s_0 t4s_1)) n k_ t4s_0 t4s_1 := by kernel_rfl
theorem q103 : ∀ k : Nat, (fun (n : Int) (k_ : Int) (t4s_0 : Int) (t4s_1 : Int) => x103 k k103_1003 (t103_1003 n k_ t4s_0 t4s_1)) = l103 k
  | 0 => rfl
  | k + 1 => by
    have h := q103 k
    show _ = F103_1003 k (l103 k)
    rw [← h]
    exact (funext fun n => funext fun k_ => funext fun t4s_0 => funext fun t4s_1 => e103_1003 k n k_ t4s_0 t4s_1)
theorem w103 (k : Nat) (n : Int) (k_ : Int) : runFn ti (envOf env34) 32 h103 (finT ti true Go.Proofs.Try.f103.results.toList [(.pair (.int .i64) (.int .i64), true), (.bool, false)] (.pair (.pair (.int .i64) (.int .i64)) (.bool))) k (bodyOf Go.Proofs.Try.f103) (initS 0 [.int .i64 n, .int .i64 k_]) = F103 k (fun (n : Int) (k_ : Int) (t4s_0 : Int) (t4s_1 : Int) => x103 k k103_1003 (t103_1003 n k_ t4s_0 t4s_1)) n k_ := by kernel_rfl
theorem v103 (k : Nat) (n : Int) (k_ : Int) : runFn ti (envOf env34) 32 h103 (finT ti true Go.Proofs.Try.f103.results.toList [(.pair (.int .i64) (.int .i64), true), (.bool, false)] (.pair (.pair (.int .i64) (.int .i64)) (.bool))) k (bodyOf Go.Proofs.Try.f103) (initS 0 [.int .i64 n, .int .i64 k_]) = f103 k n k_ := by
  rw [w103]
  have h := q103 k
  unfold f103
  rw [← h]
theorem m103 : Meets Go.Proofs.Try.prog 103 s103 := meets_of_run tiOk env34_ok mo Go.Proofs.Try.func103 (body := bodyOf Go.Proofs.Try.f103) (by kernel_rfl) (N := 32) (by kernel_rfl) (hs := h103) (by
  intro k xs r h
  unfold s103 at h
  dsimp only at h
  split at h
  · exact ⟨Nat.le_of_ble_eq_true rfl, (v103 k _ _).trans h⟩
  · cases h)
theorem env35_ok : EnvOk Go.Proofs.Try.prog (envOf env35) := envOf_cons m103 Go.Proofs.Try.func103 (by kernel_rfl) (by kernel_rfl) env34_ok

-- spec.bxNumber
noncomputable def f71 (k : Nat) (n : Int) (k_ : Int) : Option (Int × Int) :=
  (f103 k n k_).bind fun r0 =>
  some ((r0.fst.fst, r0.fst.snd))
noncomputable def s71 : Spec := ⟨false, [(.pair (.int .i64) (.int .i64), true)], true, .pair (.int .i64) (.int .i64), fun k xs => match xs with | [.int .i64 n, .int .i64 k_] => f71 k n k_ | _ => none, false, none⟩
noncomputable def env36 : List (FuncId × Spec) := (71, s71) :: env35
theorem v71 (k : Nat) (n : Int) (k_ : Int) : runFn ti (envOf env35) 14 [] (finT ti true Go.Proofs.Try.f71.results.toList [(.pair (.int .i64) (.int .i64), true)] (.pair (.int .i64) (.int .i64))) k (bodyOf Go.Proofs.Try.f71) (initS 0 [.int .i64 n, .int .i64 k_]) = f71 k n k_ := by kernel_rfl
theorem m71 : Meets Go.Proofs.Try.prog 71 s71 := meets_of_run tiOk env35_ok mo Go.Proofs.Try.func71 (body := bodyOf Go.Proofs.Try.f71) (by kernel_rfl) (N := 14) (by kernel_rfl) (hs := []) (by
  intro k xs r h
  unfold s71 at h
  dsimp only at h
  split at h
  · exact ⟨Nat.le_of_ble_eq_true rfl, (v71 k _ _).trans h⟩
  · cases h)
theorem env36_ok : EnvOk Go.Proofs.Try.prog (envOf env36) := envOf_cons m71 Go.Proofs.Try.func71 (by kernel_rfl) (by kernel_rfl) env35_ok

end Go.Proofs.YtkahcjnkmbbplaaE
