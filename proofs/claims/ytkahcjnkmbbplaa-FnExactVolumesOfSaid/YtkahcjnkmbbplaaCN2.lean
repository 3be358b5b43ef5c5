/- Functions, by the engine; printed. -/
import Derived.Test.YtkahcjnkmbbplaaCN1
set_option maxRecDepth 100000
set_option maxHeartbeats 4000000
set_option linter.unusedVariables false
namespace Go.Proofs.YtkahcjnkmbbplaaE
-- laws.eqNode
noncomputable def f78 (k : Nat) (a_Kind : Int) (a_Number : Int) (b_Kind : Int) (b_Number : Int) : Option (Bool) :=
  bif !decide (a_Kind = b_Kind) then
    some false
  else
    bif !decide (a_Number = b_Number) then
      some false
    else
      some true
noncomputable def s78 : Spec := ⟨false, [(.bool, false)], true, .bool, fun k xs => match xs with | [.agg [.int .i64 a_Kind, .int .i64 a_Number], .agg [.int .i64 b_Kind, .int .i64 b_Number]] => f78 k a_Kind a_Number b_Kind b_Number | _ => none, false, none⟩
noncomputable def env13 : List (FuncId × Spec) := (78, s78) :: env12
theorem v78 (k : Nat) (a_Kind : Int) (a_Number : Int) (b_Kind : Int) (b_Number : Int) : runFn ti (envOf env12) 15 [] (finT ti true Go.Proofs.Try.f78.results.toList [(.bool, false)] (.bool)) k (bodyOf Go.Proofs.Try.f78) (initS 0 [.agg [.int .i64 a_Kind, .int .i64 a_Number], .agg [.int .i64 b_Kind, .int .i64 b_Number]]) = f78 k a_Kind a_Number b_Kind b_Number := by kernel_rfl
theorem m78 : Meets Go.Proofs.Try.prog 78 s78 := meets_of_run tiOk env12_ok mo Go.Proofs.Try.func78 (body := bodyOf Go.Proofs.Try.f78) (by kernel_rfl) (N := 15) (by kernel_rfl) (hs := []) (by
  intro k xs r h
  unfold s78 at h
  dsimp only at h
  split at h
  · exact ⟨Nat.le_of_ble_eq_true rfl, (v78 k _ _ _ _).trans h⟩
  · cases h)
theorem env13_ok : EnvOk Go.Proofs.Try.prog (envOf env13) := envOf_cons m78 Go.Proofs.Try.func78 (by kernel_rfl) (by kernel_rfl) env12_ok

-- laws.eqNodeS
def h48 : Hints := [(1004, .lab [(0, .one (.frz 63 (Ty.pair (Ty.int IntKind.i64) (Ty.int IntKind.i64)))), (1, .one (.frz 63 (Ty.pair (Ty.int IntKind.i64) (Ty.int IntKind.i64)))), (5, .one (.v))])]
noncomputable def F48_1004 (k : Nat) (rec1004 : List (Int × Int) → List (Int × Int) → Int → Option (Bool)) (a : List (Int × Int)) (b : List (Int × Int)) (i : Int) : Option (Bool) :=
  bif decide (i < (↑(List.length a) : Int)) then
    bif boundA i (List.length a) then
      bif boundA i (List.length b) then
        (f78 k (List.getD a (Int.toNat i) (0, 0)).fst (List.getD a (Int.toNat i) (0, 0)).snd (List.getD b (Int.toNat i) (0, 0)).fst (List.getD b (Int.toNat i) (0, 0)).snd).bind fun r0 =>
        bif !r0 then
          some false
        else
          rec1004 a b (IntKind.wrap IntKind.i64 (i + 1))
      else
        none
    else
      none
  else
    some true
noncomputable def F48 (k : Nat) (rec1004 : List (Int × Int) → List (Int × Int) → Int → Option (Bool)) (a : List (Int × Int)) (b : List (Int × Int)) : Option (Bool) :=
  bif !decide ((↑(List.length a) : Int) = (↑(List.length b) : Int)) then
    some false
  else
    rec1004 a b (0)
noncomputable def l48 : Nat → (List (Int × Int) → List (Int × Int) → Int → Option (Bool))
  | 0 => fun _ _ _ => none
  | k + 1 => F48_1004 k (l48 k)
noncomputable def f48 (k : Nat) (a : List (Int × Int)) (b : List (Int × Int)) : Option (Bool) := F48 k (l48 k) a b
noncomputable def s48 : Spec := ⟨false, [(.bool, false)], true, .bool, fun k xs => match xs with | [.slc 63 (.pair (.int .i64) (.int .i64)) a, .slc 63 (.pair (.int .i64) (.int .i64)) b] => f48 k a b | _ => none, false, none⟩
noncomputable def env14 : List (FuncId × Spec) := (48, s48) :: env13
noncomputable abbrev x48 := exec ti (envOf env13) 27 h48 (finT ti true Go.Proofs.Try.f48.results.toList [(.bool, false)] (.bool))
noncomputable def k48_1004 : List It := stackAt [.r, .r, .l, .r, .b, .lb none] (bodyOf Go.Proofs.Try.f48) []
def t48_1004 (a : List (Int × Int)) (b : List (Int × Int)) (i : Int) : St := [(0, Cell.val (AVal.slc 63 (Ty.pair (Ty.int IntKind.i64) (Ty.int IntKind.i64)) a)), (2, Cell.val (AVal.slc 63 (Ty.pair (Ty.int IntKind.i64) (Ty.int IntKind.i64)) b)), (10, Cell.val (AVal.int IntKind.i64 i))]
theorem e48_1004 (k : Nat) (a : List (Int × Int)) (b : List (Int × Int)) (i : Int) : x48 (k + 1) k48_1004 (t48_1004 a b i) = F48_1004 k (fun (a : List (Int × Int)) (b : List (Int × Int)) (i : Int) => x48 k k48_1004 (t48_1004 a b i)) a b i := by kernel_rfl
theorem q48 : ∀ k : Nat, (fun (a : List (Int × Int)) (b : List (Int × Int)) (i : Int) => x48 k k48_1004 (t48_1004 a b i)) = l48 k
  | 0 => rfl
  | k + 1 => by
    have h := q48 k
    show _ = F48_1004 k (l48 k)
    rw [← h]
    exact (funext fun a => funext fun b => funext fun i => e48_1004 k a b i)
theorem w48 (k : Nat) (a : List (Int × Int)) (b : List (Int × Int)) : runFn ti (envOf env13) 27 h48 (finT ti true Go.Proofs.Try.f48.results.toList [(.bool, false)] (.bool)) k (bodyOf Go.Proofs.Try.f48) (initS 0 [.slc 63 (.pair (.int .i64) (.int .i64)) a, .slc 63 (.pair (.int .i64) (.int .i64)) b]) = F48 k (fun (a : List (Int × Int)) (b : List (Int × Int)) (i : Int) => x48 k k48_1004 (t48_1004 a b i)) a b := by kernel_rfl
theorem v48 (k : Nat) (a : List (Int × Int)) (b : List (Int × Int)) : runFn ti (envOf env13) 27 h48 (finT ti true Go.Proofs.Try.f48.results.toList [(.bool, false)] (.bool)) k (bodyOf Go.Proofs.Try.f48) (initS 0 [.slc 63 (.pair (.int .i64) (.int .i64)) a, .slc 63 (.pair (.int .i64) (.int .i64)) b]) = f48 k a b := by
  rw [w48]
  have h := q48 k
  unfold f48
  rw [← h]
theorem m48 : Meets Go.Proofs.Try.prog 48 s48 := meets_of_run tiOk env13_ok mo Go.Proofs.Try.func48 (body := bodyOf Go.Proofs.Try.f48) (by kernel_rfl) (N := 27) (by kernel_rfl) (hs := h48) (by
  intro k xs r h
  unfold s48 at h
  dsimp only at h
  split at h
  · exact ⟨Nat.le_of_ble_eq_true rfl, (v48 k _ _).trans h⟩
  · cases h)
theorem env14_ok : EnvOk Go.Proofs.Try.prog (envOf env14) := envOf_cons m48 Go.Proofs.Try.func48 (by kernel_rfl) (by kernel_rfl) env13_ok

-- laws.intactNodeS
noncomputable def f17 (k : Nat) (x : List (Int × Int)) (x_n : Nat) (y : List (Int × Int)) (y_n : Nat) : Option (Bool) :=
  (f39 k (↑y_n : Int)).bind fun r0 =>
  bif decide ((↑x_n : Int) = (↑y_n : Int)) then
    bif boundE (IntKind.wrap IntKind.i64 ((↑y_n : Int) + r0)) (List.length x) then
      bif decide (0 ≤ 0) && decide (0 ≤ IntKind.wrap IntKind.i64 ((↑y_n : Int) + r0)) then
        bif boundE (IntKind.wrap IntKind.i64 ((↑y_n : Int) + r0)) (List.length y) then
          bif decide (0 ≤ 0) && decide (0 ≤ IntKind.wrap IntKind.i64 ((↑y_n : Int) + r0)) then
            (f48 k (List.drop (Int.toNat 0) (List.take (Int.toNat (IntKind.wrap IntKind.i64 ((↑y_n : Int) + r0))) x)) (List.drop (Int.toNat 0) (List.take (Int.toNat (IntKind.wrap IntKind.i64 ((↑y_n : Int) + r0))) y))).bind fun r1 =>
            some r1
          else
            none
        else
          none
      else
        none
    else
      none
  else
    some false
noncomputable def s17 : Spec := ⟨true, [(.bool, false)], true, .bool, fun k xs => match xs with | [.vslc 63 (.pair (.int .i64) (.int .i64)) x x_n, .vslc 63 (.pair (.int .i64) (.int .i64)) y y_n] => f17 k x x_n y y_n | _ => none, false, none⟩
noncomputable def env15 : List (FuncId × Spec) := (17, s17) :: env14
theorem v17 (k : Nat) (x : List (Int × Int)) (x_n : Nat) (y : List (Int × Int)) (y_n : Nat) : runFn tiV (envOf env14) 26 [] (finT tiV true Go.Proofs.Try.f17.results.toList [(.bool, false)] (.bool)) k (bodyOf Go.Proofs.Try.f17) (initS 0 [.vslc 63 (.pair (.int .i64) (.int .i64)) x x_n, .vslc 63 (.pair (.int .i64) (.int .i64)) y y_n]) = f17 k x x_n y y_n := by kernel_rfl
theorem m17 : Meets Go.Proofs.Try.prog 17 s17 := meets_of_run tiVOk env14_ok mo Go.Proofs.Try.func17 (body := bodyOf Go.Proofs.Try.f17) (by kernel_rfl) (N := 26) (by kernel_rfl) (hs := []) (by
  intro k xs r h
  unfold s17 at h
  dsimp only at h
  split at h
  · exact ⟨Nat.le_of_ble_eq_true rfl, (v17 k _ _ _ _).trans h⟩
  · cases h)
theorem env15_ok : EnvOk Go.Proofs.Try.prog (envOf env15) := envOf_cons m17 Go.Proofs.Try.func17 (by kernel_rfl) (by kernel_rfl) env14_ok

-- spec.dyPower
noncomputable def f81 (k : Nat) (k_ : Int) : Option (Int) :=
  bif !decide (IntKind.wrap IntKind.u64 k_ < 0) then
    some (IntKind.wrap IntKind.i64 (1 * 2 ^ min (Int.toNat (IntKind.wrap IntKind.u64 k_)) (IntKind.bits IntKind.i64)))
  else
    none
noncomputable def s81 : Spec := ⟨false, [(.int .i64, false)], true, .int .i64, fun k xs => match xs with | [.int .i64 k_] => f81 k k_ | _ => none, false, none⟩
noncomputable def env16 : List (FuncId × Spec) := (81, s81) :: env15
theorem v81 (k : Nat) (k_ : Int) : runFn ti (envOf env15) 6 [] (finT ti true Go.Proofs.Try.f81.results.toList [(.int .i64, false)] (.int .i64)) k (bodyOf Go.Proofs.Try.f81) (initS 0 [.int .i64 k_]) = f81 k k_ := by kernel_rfl
theorem m81 : Meets Go.Proofs.Try.prog 81 s81 := meets_of_run tiOk env15_ok mo Go.Proofs.Try.func81 (body := bodyOf Go.Proofs.Try.f81) (by kernel_rfl) (N := 6) (by kernel_rfl) (hs := []) (by
  intro k xs r h
  unfold s81 at h
  dsimp only at h
  split at h
  · exact ⟨Nat.le_of_ble_eq_true rfl, (v81 k _).trans h⟩
  · cases h)
theorem env16_ok : EnvOk Go.Proofs.Try.prog (envOf env16) := envOf_cons m81 Go.Proofs.Try.func81 (by kernel_rfl) (by kernel_rfl) env15_ok

-- spec.l1In
noncomputable def f95 (k : Nat) (n : Int) (lo : Int) (hi : Int) : Option (Bool) :=
  bif decide (lo ≤ n) then
    some (decide (n ≤ hi))
  else
    some false
noncomputable def s95 : Spec := ⟨false, [(.bool, false)], true, .bool, fun k xs => match xs with | [.int .i64 n, .int .i64 lo, .int .i64 hi] => f95 k n lo hi | _ => none, false, none⟩
noncomputable def env17 : List (FuncId × Spec) := (95, s95) :: env16
theorem v95 (k : Nat) (n : Int) (lo : Int) (hi : Int) : runFn ti (envOf env16) 15 [] (finT ti true Go.Proofs.Try.f95.results.toList [(.bool, false)] (.bool)) k (bodyOf Go.Proofs.Try.f95) (initS 0 [.int .i64 n, .int .i64 lo, .int .i64 hi]) = f95 k n lo hi := by kernel_rfl
theorem m95 : Meets Go.Proofs.Try.prog 95 s95 := meets_of_run tiOk env16_ok mo Go.Proofs.Try.func95 (body := bodyOf Go.Proofs.Try.f95) (by kernel_rfl) (N := 15) (by kernel_rfl) (hs := []) (by
  intro k xs r h
  unfold s95 at h
  dsimp only at h
  split at h
  · exact ⟨Nat.le_of_ble_eq_true rfl, (v95 k _ _ _).trans h⟩
  · cases h)
theorem env17_ok : EnvOk Go.Proofs.Try.prog (envOf env17) := envOf_cons m95 Go.Proofs.Try.func95 (by kernel_rfl) (by kernel_rfl) env16_ok

-- spec.bxGood
def h67 : Hints := [(1006, .lab [(1, .box 32 [.v, .frz 3 (Ty.int IntKind.i64), .frz 3 (Ty.int IntKind.i64)]), (3, .one (.v)), (4, .one (.v)), (36, .one (.frz 3 (Ty.int IntKind.i64))), (37, .one (.v)), (38, .one (.v))])]
noncomputable def F67_1006 (k : Nat) (rec1006 : Int → List Int → List Int → Int → Bool → List Int → Int → Int → Option (Bool)) (is_0 : Int) (is_1 : List Int) (is_2 : List Int) (t : Int) (t4 : Bool) (t36 : List Int) (t37 : Int) (t38 : Int) : Option (Bool) :=
  bif decide (t38 < t37) then
    bif boundA t38 (List.length t36) then
      bif boundA t38 (List.length is_2) then
        (f95 k (List.getD t36 (Int.toNat t38) 0) (IntKind.wrap IntKind.i64 (0 - t)) t).bind fun r0 =>
        bif !r0 then
          some false
        else
          (f95 k (List.getD is_2 (Int.toNat t38) 0) (IntKind.wrap IntKind.i64 (0 - t)) t).bind fun r1 =>
          bif !r1 then
            some false
          else
            bif decide (List.getD is_2 (Int.toNat t38) 0 ≤ List.getD t36 (Int.toNat t38) 0) then
              some false
            else
              bif t4 then
                rec1006 is_0 is_1 is_2 t true t36 t37 (IntKind.wrap IntKind.i64 (t38 + 1))
              else
                bif !decide (Int.tmod (List.getD t36 (Int.toNat t38) 0) 2 = 0) then
                  rec1006 is_0 is_1 is_2 t true t36 t37 (IntKind.wrap IntKind.i64 (t38 + 1))
                else
                  rec1006 is_0 is_1 is_2 t (!decide (Int.tmod (List.getD is_2 (Int.toNat t38) 0) 2 = 0)) t36 t37 (IntKind.wrap IntKind.i64 (t38 + 1))
      else
        none
    else
      none
  else
    some t4
noncomputable def F67 (k : Nat) (rec1006 : Int → List Int → List Int → Int → Bool → List Int → Int → Int → Option (Bool)) (L_K : Int) (L_Low : List (Int)) (L_High : List (Int)) : Option (Bool) :=
  (f95 k L_K 0 8).bind fun r0 =>
  bif !r0 then
    some false
  else
    (f95 k (↑(List.length L_Low) : Int) 1 3).bind fun r1 =>
    bif !r1 then
      some false
    else
      bif !decide ((↑(List.length L_High) : Int) = (↑(List.length L_Low) : Int)) then
        some false
      else
        (f81 k L_K).bind fun r2 =>
        rec1006 L_K L_Low L_High (IntKind.wrap IntKind.i64 (8 * r2)) (decide (L_K = 0)) L_Low ((↑(List.length L_Low) : Int)) (0)
noncomputable def l67 : Nat → (Int → List Int → List Int → Int → Bool → List Int → Int → Int → Option (Bool))
  | 0 => fun _ _ _ _ _ _ _ _ => none
  | k + 1 => F67_1006 k (l67 k)
noncomputable def f67 (k : Nat) (L_K : Int) (L_Low : List (Int)) (L_High : List (Int)) : Option (Bool) := F67 k (l67 k) L_K L_Low L_High
noncomputable def s67 : Spec := ⟨false, [(.bool, false)], true, .bool, fun k xs => match xs with | [.agg [.int .i64 L_K, .slc 3 (.int .i64) L_Low, .slc 3 (.int .i64) L_High]] => f67 k L_K L_Low L_High | _ => none, false, none⟩
noncomputable def env18 : List (FuncId × Spec) := (67, s67) :: env17
noncomputable abbrev x67 := exec ti (envOf env17) 80 h67 (finT ti true Go.Proofs.Try.f67.results.toList [(.bool, false)] (.bool))
noncomputable def k67_1006 : List It := stackAt [.r, .r, .r, .r, .l, .r, .b, .lb none] (bodyOf Go.Proofs.Try.f67) []
def t67_1006 (is_0 : Int) (is_1 : List Int) (is_2 : List Int) (t : Int) (t4 : Bool) (t36 : List Int) (t37 : Int) (t38 : Int) : St := [(2, Cell.val (AVal.ptr 33 0)), (33, Cell.mem true 32 [AVal.int IntKind.i64 is_0, AVal.slc 3 (Ty.int IntKind.i64) is_1, AVal.slc 3 (Ty.int IntKind.i64) is_2]), (6, Cell.val (AVal.int IntKind.i64 t)), (8, Cell.val (AVal.bool t4)), (72, Cell.val (AVal.slc 3 (Ty.int IntKind.i64) t36)), (74, Cell.val (AVal.int IntKind.i64 t37)), (76, Cell.val (AVal.int IntKind.i64 t38))]
theorem e67_1006 (k : Nat) (is_0 : Int) (is_1 : List Int) (is_2 : List Int) (t : Int) (t4 : Bool) (t36 : List Int) (t37 : Int) (t38 : Int) : x67 (k + 1) k67_1006 (t67_1006 is_0 is_1 is_2 t t4 t36 t37 t38) = F67_1006 k (fun (is_0 : Int) (is_1 : List Int) (is_2 : List Int) (t : Int) (t4 : Bool) (t36 : List Int) (t37 : Int) (t38 : Int) => x67 k k67_1006 (t67_1006 is_0 is_1 is_2 t t4 t36 t37 t38)) is_0 is_1 is_2 t t4 t36 t37 t38 := by kernel_rfl
theorem q67 : ∀ k : Nat, (fun (is_0 : Int) (is_1 : List Int) (is_2 : List Int) (t : Int) (t4 : Bool) (t36 : List Int) (t37 : Int) (t38 : Int) => x67 k k67_1006 (t67_1006 is_0 is_1 is_2 t t4 t36 t37 t38)) = l67 k
  | 0 => rfl
  | k + 1 => by
    have h := q67 k
    show _ = F67_1006 k (l67 k)
    rw [← h]
    exact (funext fun is_0 => funext fun is_1 => funext fun is_2 => funext fun t => funext fun t4 => funext fun t36 => funext fun t37 => funext fun t38 => e67_1006 k is_0 is_1 is_2 t t4 t36 t37 t38)
theorem w67 (k : Nat) (L_K : Int) (L_Low : List (Int)) (L_High : List (Int)) : runFn ti (envOf env17) 80 h67 (finT ti true Go.Proofs.Try.f67.results.toList [(.bool, false)] (.bool)) k (bodyOf Go.Proofs.Try.f67) (initS 0 [.agg [.int .i64 L_K, .slc 3 (.int .i64) L_Low, .slc 3 (.int .i64) L_High]]) = F67 k (fun (is_0 : Int) (is_1 : List Int) (is_2 : List Int) (t : Int) (t4 : Bool) (t36 : List Int) (t37 : Int) (t38 : Int) => x67 k k67_1006 (t67_1006 is_0 is_1 is_2 t t4 t36 t37 t38)) L_K L_Low L_High := by kernel_rfl
theorem v67 (k : Nat) (L_K : Int) (L_Low : List (Int)) (L_High : List (Int)) : runFn ti (envOf env17) 80 h67 (finT ti true Go.Proofs.Try.f67.results.toList [(.bool, false)] (.bool)) k (bodyOf Go.Proofs.Try.f67) (initS 0 [.agg [.int .i64 L_K, .slc 3 (.int .i64) L_Low, .slc 3 (.int .i64) L_High]]) = f67 k L_K L_Low L_High := by
  rw [w67]
  have h := q67 k
  unfold f67
  rw [← h]
theorem m67 : Meets Go.Proofs.Try.prog 67 s67 := meets_of_run tiOk env17_ok mo Go.Proofs.Try.func67 (body := bodyOf Go.Proofs.Try.f67) (by kernel_rfl) (N := 80) (by kernel_rfl) (hs := h67) (by
  intro k xs r h
  unfold s67 at h
  dsimp only at h
  split at h
  · exact ⟨Nat.le_of_ble_eq_true rfl, (v67 k _ _ _).trans h⟩
  · cases h)
theorem env18_ok : EnvOk Go.Proofs.Try.prog (envOf env18) := envOf_cons m67 Go.Proofs.Try.func67 (by kernel_rfl) (by kernel_rfl) env17_ok

-- spec.trEnd
noncomputable def F100_0 (k : Nat) (rec0 : List (Int × Int) → Int → Int → Int → Option (Int)) (l : List (Int × Int)) (sides : Int) (at_ : Int) (depth : Int) : Option (Int) :=
  bif decide ((↑(List.length l) : Int) ≤ at_) then
    some (-1)
  else
    bif decide (20 < depth) then
      some (-1)
    else
      bif boundA at_ (List.length l) then
        bif decide ((List.getD l (Int.toNat at_) (0, 0)).fst = 0) then
          (f95 k (List.getD l (Int.toNat at_) (0, 0)).snd 0 (IntKind.wrap IntKind.i64 (sides - 1))).bind fun r0 =>
          bif !r0 then
            some (-1)
          else
            (rec0 l sides (IntKind.wrap IntKind.i64 (at_ + 1)) (IntKind.wrap IntKind.i64 (depth + 1))).bind fun r1 =>
            bif decide (r1 < 0) then
              some (-1)
            else
              (rec0 l sides r1 (IntKind.wrap IntKind.i64 (depth + 1))).bind fun r2 =>
              some r2
        else
          bif decide ((List.getD l (Int.toNat at_) (0, 0)).fst = 1) then
            bif decide ((List.getD l (Int.toNat at_) (0, 0)).fst = 1) then
              (f95 k (List.getD l (Int.toNat at_) (0, 0)).snd 0 99).bind fun r3 =>
              bif !r3 then
                some (-1)
              else
                some (IntKind.wrap IntKind.i64 (at_ + 1))
            else
              bif decide ((List.getD l (Int.toNat at_) (0, 0)).fst = 3) then
                bif !decide ((List.getD l (Int.toNat at_) (0, 0)).snd = 0) then
                  some (-1)
                else
                  some (IntKind.wrap IntKind.i64 (at_ + 1))
              else
                some (-1)
          else
            bif decide ((List.getD l (Int.toNat at_) (0, 0)).fst = 2) then
              (f95 k (List.getD l (Int.toNat at_) (0, 0)).snd 0 99).bind fun r4 =>
              bif !r4 then
                some (-1)
              else
                some (IntKind.wrap IntKind.i64 (at_ + 1))
            else
              bif decide ((List.getD l (Int.toNat at_) (0, 0)).fst = 3) then
                bif !decide ((List.getD l (Int.toNat at_) (0, 0)).snd = 0) then
                  some (-1)
                else
                  some (IntKind.wrap IntKind.i64 (at_ + 1))
              else
                some (-1)
      else
        none
noncomputable def F100 (k : Nat) (rec0 : List (Int × Int) → Int → Int → Int → Option (Int)) (l : List (Int × Int)) (sides : Int) (at_ : Int) (depth : Int) : Option (Int) :=
  rec0 l sides at_ depth
noncomputable def l100 : Nat → (List (Int × Int) → Int → Int → Int → Option (Int))
  | 0 => fun _ _ _ _ => none
  | k + 1 => F100_0 k (l100 k)
noncomputable def f100 (k : Nat) (l : List (Int × Int)) (sides : Int) (at_ : Int) (depth : Int) : Option (Int) := F100 k (l100 k) l sides at_ depth
noncomputable def g100 (k : Nat) (xs : List AVal) : Option (T (.int .i64)) := match xs with | [.slc 63 (.pair (.int .i64) (.int .i64)) l, .int .i64 sides, .int .i64 at_, .int .i64 depth] => f100 k l sides at_ depth | _ => none
noncomputable def s100 : Spec := ⟨false, [(.int .i64, false)], true, .int .i64, g100, false, none⟩
noncomputable def env19 : List (FuncId × Spec) := (100, s100) :: env18
theorem v100 (j : Nat) (l : List (Int × Int)) (sides : Int) (at_ : Int) (depth : Int) : runFn ti (envOf ((100, ⟨false, [(.int .i64, false)], true, .int .i64, fun _ xs => g100 j xs, false, none⟩) :: env18)) 64 [] (finT ti true Go.Proofs.Try.f100.results.toList [(.int .i64, false)] (.int .i64)) j (bodyOf Go.Proofs.Try.f100) (initS 0 [.slc 63 (.pair (.int .i64) (.int .i64)) l, .int .i64 sides, .int .i64 at_, .int .i64 depth]) = f100 (j + 1) l sides at_ depth := by kernel_rfl
theorem m100 : Meets Go.Proofs.Try.prog 100 s100 := meets_rec (fun xs => by unfold g100; split <;> rfl) fun j hj => meets_of_run tiOk (envOf_cons hj Go.Proofs.Try.func100 (by kernel_rfl) (by kernel_rfl) env18_ok) mo Go.Proofs.Try.func100 (body := bodyOf Go.Proofs.Try.f100) (by kernel_rfl) (N := 64) (by kernel_rfl) (hs := []) (by
  intro k xs r h
  dsimp only at h
  cases hk : Nat.beq k j with
  | false => rw [hk] at h; cases h
  | true =>
    rw [hk] at h
    obtain rfl := Nat.eq_of_beq_eq_true hk
    have h : g100 (k + 1) xs = some r := h
    unfold g100 at h
    split at h
    · exact ⟨Nat.le_of_ble_eq_true rfl, (v100 k _ _ _ _).trans h⟩
    · cases h)
theorem env19_ok : EnvOk Go.Proofs.Try.prog (envOf env19) := envOf_cons m100 Go.Proofs.Try.func100 (by kernel_rfl) (by kernel_rfl) env18_ok

-- spec.trGood
noncomputable def f68 (k : Nat) (l : List (Int × Int)) (sides : Int) : Option (Bool) :=
  (f95 k sides 1 3).bind fun r0 =>
  bif r0 then
    (f95 k (↑(List.length l) : Int) 1 200).bind fun r1 =>
    bif r1 then
      (f100 k l sides 0 0).bind fun r2 =>
      some (decide (r2 = (↑(List.length l) : Int)))
    else
      some false
  else
    some false
noncomputable def s68 : Spec := ⟨false, [(.bool, false)], true, .bool, fun k xs => match xs with | [.slc 63 (.pair (.int .i64) (.int .i64)) l, .int .i64 sides] => f68 k l sides | _ => none, false, none⟩
noncomputable def env20 : List (FuncId × Spec) := (68, s68) :: env19
theorem v68 (k : Nat) (l : List (Int × Int)) (sides : Int) : runFn ti (envOf env19) 20 [] (finT ti true Go.Proofs.Try.f68.results.toList [(.bool, false)] (.bool)) k (bodyOf Go.Proofs.Try.f68) (initS 0 [.slc 63 (.pair (.int .i64) (.int .i64)) l, .int .i64 sides]) = f68 k l sides := by kernel_rfl
theorem m68 : Meets Go.Proofs.Try.prog 68 s68 := meets_of_run tiOk env19_ok mo Go.Proofs.Try.func68 (body := bodyOf Go.Proofs.Try.f68) (by kernel_rfl) (N := 20) (by kernel_rfl) (hs := []) (by
  intro k xs r h
  unfold s68 at h
  dsimp only at h
  split at h
  · exact ⟨Nat.le_of_ble_eq_true rfl, (v68 k _ _).trans h⟩
  · cases h)
theorem env20_ok : EnvOk Go.Proofs.Try.prog (envOf env20) := envOf_cons m68 Go.Proofs.Try.func68 (by kernel_rfl) (by kernel_rfl) env19_ok

-- spec.l1Own
noncomputable def f101 (k : Nat) (l : List (Int)) : Option (List (Int)) :=
  bif decide (((0 : Nat) + List.length l) * 8 ≤ 140737488355328) then
    some ([] ++ l)
  else
    none
noncomputable def s101 : Spec := ⟨false, [(.slice 3 (.int .i64), false)], true, .slice 3 (.int .i64), fun k xs => match xs with | [.slc 3 (.int .i64) l] => f101 k l | _ => none, false, none⟩
noncomputable def env21 : List (FuncId × Spec) := (101, s101) :: env20
theorem v101 (k : Nat) (l : List (Int)) : runFn ti (envOf env20) 6 [] (finT ti true Go.Proofs.Try.f101.results.toList [(.slice 3 (.int .i64), false)] (.slice 3 (.int .i64))) k (bodyOf Go.Proofs.Try.f101) (initS 0 [.slc 3 (.int .i64) l]) = f101 k l := by kernel_rfl
theorem m101 : Meets Go.Proofs.Try.prog 101 s101 := meets_of_run tiOk env20_ok mo Go.Proofs.Try.func101 (body := bodyOf Go.Proofs.Try.f101) (by kernel_rfl) (N := 6) (by kernel_rfl) (hs := []) (by
  intro k xs r h
  unfold s101 at h
  dsimp only at h
  split at h
  · exact ⟨Nat.le_of_ble_eq_true rfl, (v101 k _).trans h⟩
  · cases h)
theorem env21_ok : EnvOk Go.Proofs.Try.prog (envOf env21) := envOf_cons m101 Go.Proofs.Try.func101 (by kernel_rfl) (by kernel_rfl) env20_ok

-- spec.bxFine
def h119 : Hints := [(1003, .lab [(1, .box 32 [.v, .frz 3 (Ty.int IntKind.i64), .frz 3 (Ty.int IntKind.i64)]), (4, .one (.own 3 (Ty.int IntKind.i64))), (5, .one (.own 3 (Ty.int IntKind.i64))), (9, .one (.frz 3 (Ty.int IntKind.i64))), (10, .one (.v)), (11, .one (.v))])]
noncomputable def F119_1003 (k : Nat) (rec1003 : Int → List Int → List Int → List Int → List Int → List Int → Int → Int → Option ((List (Int)) × List (Int))) (bs_0 : Int) (bs_1 : List Int) (bs_2 : List Int) (lows : List Int) (highs : List Int) (t9 : List Int) (t10 : Int) (t11 : Int) : Option ((List (Int)) × List (Int)) :=
  bif decide (t11 < t10) then
    bif boundA t11 (List.length t9) then
      bif decide ((List.length lows + List.length [IntKind.wrap IntKind.i64 (2 * List.getD t9 (Int.toNat t11) 0)]) * 8 ≤ 140737488355328) then
        bif boundA t11 (List.length bs_2) then
          bif decide ((List.length highs + List.length [IntKind.wrap IntKind.i64 (2 * List.getD bs_2 (Int.toNat t11) 0)]) * 8 ≤ 140737488355328) then
            rec1003 bs_0 bs_1 bs_2 (lows ++ [IntKind.wrap IntKind.i64 (2 * List.getD t9 (Int.toNat t11) 0)]) (highs ++ [IntKind.wrap IntKind.i64 (2 * List.getD bs_2 (Int.toNat t11) 0)]) t9 t10 (IntKind.wrap IntKind.i64 (t11 + 1))
          else
            none
        else
          none
      else
        none
    else
      none
  else
    some ((lows, highs))
noncomputable def F119 (k : Nat) (rec1003 : Int → List Int → List Int → List Int → List Int → List Int → Int → Int → Option ((List (Int)) × List (Int))) (b_K : Int) (b_Low : List (Int)) (b_High : List (Int)) : Option ((List (Int)) × List (Int)) :=
  rec1003 b_K b_Low b_High ([]) ([]) b_Low ((↑(List.length b_Low) : Int)) (0)
noncomputable def l119 : Nat → (Int → List Int → List Int → List Int → List Int → List Int → Int → Int → Option ((List (Int)) × List (Int)))
  | 0 => fun _ _ _ _ _ _ _ _ => none
  | k + 1 => F119_1003 k (l119 k)
noncomputable def f119 (k : Nat) (b_K : Int) (b_Low : List (Int)) (b_High : List (Int)) : Option ((List (Int)) × List (Int)) := F119 k (l119 k) b_K b_Low b_High
noncomputable def s119 : Spec := ⟨false, [(.slice 3 (.int .i64), false), (.slice 3 (.int .i64), false)], true, .pair (.slice 3 (.int .i64)) (.slice 3 (.int .i64)), fun k xs => match xs with | [.agg [.int .i64 b_K, .slc 3 (.int .i64) b_Low, .slc 3 (.int .i64) b_High]] => f119 k b_K b_Low b_High | _ => none, false, none⟩
noncomputable def env22 : List (FuncId × Spec) := (119, s119) :: env21
noncomputable abbrev x119 := exec ti (envOf env21) 33 h119 (finT ti true Go.Proofs.Try.f119.results.toList [(.slice 3 (.int .i64), false), (.slice 3 (.int .i64), false)] (.pair (.slice 3 (.int .i64)) (.slice 3 (.int .i64))))
noncomputable def k119_1003 : List It := stackAt [.r, .r, .l, .r, .b, .lb none] (bodyOf Go.Proofs.Try.f119) []
def t119_1003 (bs_0 : Int) (bs_1 : List Int) (bs_2 : List Int) (lows : List Int) (highs : List Int) (t9 : List Int) (t10 : Int) (t11 : Int) : St := [(2, Cell.val (AVal.ptr 33 0)), (33, Cell.mem true 32 [AVal.int IntKind.i64 bs_0, AVal.slc 3 (Ty.int IntKind.i64) bs_1, AVal.slc 3 (Ty.int IntKind.i64) bs_2]), (8, Cell.val (AVal.ref 35 none)), (35, Cell.row true 3 (Ty.int IntKind.i64) lows), (10, Cell.val (AVal.ref 37 none)), (37, Cell.row true 3 (Ty.int IntKind.i64) highs), (18, Cell.val (AVal.slc 3 (Ty.int IntKind.i64) t9)), (20, Cell.val (AVal.int IntKind.i64 t10)), (22, Cell.val (AVal.int IntKind.i64 t11))]
theorem e119_1003 (k : Nat) (bs_0 : Int) (bs_1 : List Int) (bs_2 : List Int) (lows : List Int) (highs : List Int) (t9 : List Int) (t10 : Int) (t11 : Int) : x119 (k + 1) k119_1003 (t119_1003 bs_0 bs_1 bs_2 lows highs t9 t10 t11) = F119_1003 k (fun (bs_0 : Int) (bs_1 : List Int) (bs_2 : List Int) (lows : List Int) (highs : List Int) (t9 : List Int) (t10 : Int) (t11 : Int) => x119 k k119_1003 (t119_1003 bs_0 bs_1 bs_2 lows highs t9 t10 t11)) bs_0 bs_1 bs_2 lows highs t9 t10 t11 := by kernel_rfl
theorem q119 : ∀ k : Nat, (fun (bs_0 : Int) (bs_1 : List Int) (bs_2 : List Int) (lows : List Int) (highs : List Int) (t9 : List Int) (t10 : Int) (t11 : Int) => x119 k k119_1003 (t119_1003 bs_0 bs_1 bs_2 lows highs t9 t10 t11)) = l119 k
  | 0 => rfl
  | k + 1 => by
    have h := q119 k
    show _ = F119_1003 k (l119 k)
    rw [← h]
    exact (funext fun bs_0 => funext fun bs_1 => funext fun bs_2 => funext fun lows => funext fun highs => funext fun t9 => funext fun t10 => funext fun t11 => e119_1003 k bs_0 bs_1 bs_2 lows highs t9 t10 t11)
theorem w119 (k : Nat) (b_K : Int) (b_Low : List (Int)) (b_High : List (Int)) : runFn ti (envOf env21) 33 h119 (finT ti true Go.Proofs.Try.f119.results.toList [(.slice 3 (.int .i64), false), (.slice 3 (.int .i64), false)] (.pair (.slice 3 (.int .i64)) (.slice 3 (.int .i64)))) k (bodyOf Go.Proofs.Try.f119) (initS 0 [.agg [.int .i64 b_K, .slc 3 (.int .i64) b_Low, .slc 3 (.int .i64) b_High]]) = F119 k (fun (bs_0 : Int) (bs_1 : List Int) (bs_2 : List Int) (lows : List Int) (highs : List Int) (t9 : List Int) (t10 : Int) (t11 : Int) => x119 k k119_1003 (t119_1003 bs_0 bs_1 bs_2 lows highs t9 t10 t11)) b_K b_Low b_High := by kernel_rfl
theorem v119 (k : Nat) (b_K : Int) (b_Low : List (Int)) (b_High : List (Int)) : runFn ti (envOf env21) 33 h119 (finT ti true Go.Proofs.Try.f119.results.toList [(.slice 3 (.int .i64), false), (.slice 3 (.int .i64), false)] (.pair (.slice 3 (.int .i64)) (.slice 3 (.int .i64)))) k (bodyOf Go.Proofs.Try.f119) (initS 0 [.agg [.int .i64 b_K, .slc 3 (.int .i64) b_Low, .slc 3 (.int .i64) b_High]]) = f119 k b_K b_Low b_High := by
  rw [w119]
  have h := q119 k
  unfold f119
  rw [← h]
theorem m119 : Meets Go.Proofs.Try.prog 119 s119 := meets_of_run tiOk env21_ok mo Go.Proofs.Try.func119 (body := bodyOf Go.Proofs.Try.f119) (by kernel_rfl) (N := 33) (by kernel_rfl) (hs := h119) (by
  intro k xs r h
  unfold s119 at h
  dsimp only at h
  split at h
  · exact ⟨Nat.le_of_ble_eq_true rfl, (v119 k _ _ _).trans h⟩
  · cases h)
theorem env22_ok : EnvOk Go.Proofs.Try.prog (envOf env22) := envOf_cons m119 Go.Proofs.Try.func119 (by kernel_rfl) (by kernel_rfl) env21_ok

-- spec.bxEven
def h126 : Hints := [(1002, .lab [(1, .box 32 [.v, .frz 3 (Ty.int IntKind.i64), .frz 3 (Ty.int IntKind.i64)]), (6, .one (.frz 3 (Ty.int IntKind.i64))), (7, .one (.v)), (8, .one (.v))])]
noncomputable def F126_1002 (k : Nat) (rec1002 : Int → List Int → List Int → List Int → Int → Int → Option (Bool)) (bs_0 : Int) (bs_1 : List Int) (bs_2 : List Int) (t6 : List Int) (t7 : Int) (t8 : Int) : Option (Bool) :=
  bif decide (t8 < t7) then
    bif boundA t8 (List.length t6) then
      bif !decide (Int.tmod (List.getD t6 (Int.toNat t8) 0) 2 = 0) then
        some false
      else
        bif boundA t8 (List.length bs_2) then
          bif !decide (Int.tmod (List.getD bs_2 (Int.toNat t8) 0) 2 = 0) then
            some false
          else
            rec1002 bs_0 bs_1 bs_2 t6 t7 (IntKind.wrap IntKind.i64 (t8 + 1))
        else
          none
    else
      none
  else
    some true
noncomputable def F126 (k : Nat) (rec1002 : Int → List Int → List Int → List Int → Int → Int → Option (Bool)) (b_K : Int) (b_Low : List (Int)) (b_High : List (Int)) : Option (Bool) :=
  rec1002 b_K b_Low b_High b_Low ((↑(List.length b_Low) : Int)) (0)
noncomputable def l126 : Nat → (Int → List Int → List Int → List Int → Int → Int → Option (Bool))
  | 0 => fun _ _ _ _ _ _ => none
  | k + 1 => F126_1002 k (l126 k)
noncomputable def f126 (k : Nat) (b_K : Int) (b_Low : List (Int)) (b_High : List (Int)) : Option (Bool) := F126 k (l126 k) b_K b_Low b_High
noncomputable def s126 : Spec := ⟨false, [(.bool, false)], true, .bool, fun k xs => match xs with | [.agg [.int .i64 b_K, .slc 3 (.int .i64) b_Low, .slc 3 (.int .i64) b_High]] => f126 k b_K b_Low b_High | _ => none, false, none⟩
noncomputable def env23 : List (FuncId × Spec) := (126, s126) :: env22
noncomputable abbrev x126 := exec ti (envOf env22) 26 h126 (finT ti true Go.Proofs.Try.f126.results.toList [(.bool, false)] (.bool))
noncomputable def k126_1002 : List It := stackAt [.r, .l, .r, .b, .lb none] (bodyOf Go.Proofs.Try.f126) []
def t126_1002 (bs_0 : Int) (bs_1 : List Int) (bs_2 : List Int) (t6 : List Int) (t7 : Int) (t8 : Int) : St := [(2, Cell.val (AVal.ptr 33 0)), (33, Cell.mem true 32 [AVal.int IntKind.i64 bs_0, AVal.slc 3 (Ty.int IntKind.i64) bs_1, AVal.slc 3 (Ty.int IntKind.i64) bs_2]), (12, Cell.val (AVal.slc 3 (Ty.int IntKind.i64) t6)), (14, Cell.val (AVal.int IntKind.i64 t7)), (16, Cell.val (AVal.int IntKind.i64 t8))]
theorem e126_1002 (k : Nat) (bs_0 : Int) (bs_1 : List Int) (bs_2 : List Int) (t6 : List Int) (t7 : Int) (t8 : Int) : x126 (k + 1) k126_1002 (t126_1002 bs_0 bs_1 bs_2 t6 t7 t8) = F126_1002 k (fun (bs_0 : Int) (bs_1 : List Int) (bs_2 : List Int) (t6 : List Int) (t7 : Int) (t8 : Int) => x126 k k126_1002 (t126_1002 bs_0 bs_1 bs_2 t6 t7 t8)) bs_0 bs_1 bs_2 t6 t7 t8 := by kernel_rfl
theorem q126 : ∀ k : Nat, (fun (bs_0 : Int) (bs_1 : List Int) (bs_2 : List Int) (t6 : List Int) (t7 : Int) (t8 : Int) => x126 k k126_1002 (t126_1002 bs_0 bs_1 bs_2 t6 t7 t8)) = l126 k
  | 0 => rfl
  | k + 1 => by
    have h := q126 k
    show _ = F126_1002 k (l126 k)
    rw [← h]
    exact (funext fun bs_0 => funext fun bs_1 => funext fun bs_2 => funext fun t6 => funext fun t7 => funext fun t8 => e126_1002 k bs_0 bs_1 bs_2 t6 t7 t8)
theorem w126 (k : Nat) (b_K : Int) (b_Low : List (Int)) (b_High : List (Int)) : runFn ti (envOf env22) 26 h126 (finT ti true Go.Proofs.Try.f126.results.toList [(.bool, false)] (.bool)) k (bodyOf Go.Proofs.Try.f126) (initS 0 [.agg [.int .i64 b_K, .slc 3 (.int .i64) b_Low, .slc 3 (.int .i64) b_High]]) = F126 k (fun (bs_0 : Int) (bs_1 : List Int) (bs_2 : List Int) (t6 : List Int) (t7 : Int) (t8 : Int) => x126 k k126_1002 (t126_1002 bs_0 bs_1 bs_2 t6 t7 t8)) b_K b_Low b_High := by kernel_rfl
theorem v126 (k : Nat) (b_K : Int) (b_Low : List (Int)) (b_High : List (Int)) : runFn ti (envOf env22) 26 h126 (finT ti true Go.Proofs.Try.f126.results.toList [(.bool, false)] (.bool)) k (bodyOf Go.Proofs.Try.f126) (initS 0 [.agg [.int .i64 b_K, .slc 3 (.int .i64) b_Low, .slc 3 (.int .i64) b_High]]) = f126 k b_K b_Low b_High := by
  rw [w126]
  have h := q126 k
  unfold f126
  rw [← h]
theorem m126 : Meets Go.Proofs.Try.prog 126 s126 := meets_of_run tiOk env22_ok mo Go.Proofs.Try.func126 (body := bodyOf Go.Proofs.Try.f126) (by kernel_rfl) (N := 26) (by kernel_rfl) (hs := h126) (by
  intro k xs r h
  unfold s126 at h
  dsimp only at h
  split at h
  · exact ⟨Nat.le_of_ble_eq_true rfl, (v126 k _ _ _).trans h⟩
  · cases h)
theorem env23_ok : EnvOk Go.Proofs.Try.prog (envOf env23) := envOf_cons m126 Go.Proofs.Try.func126 (by kernel_rfl) (by kernel_rfl) env22_ok

-- spec.bxMake
def h120 : Hints := [(1002, .lab [(6, .box 32 [.v, .v, .v]), (8, .box 32 [.v, .own 3 (Ty.int IntKind.i64), .own 3 (Ty.int IntKind.i64)])]), (1005, .lab [(6, .box 32 [.v, .v, .v]), (8, .box 32 [.v, .own 3 (Ty.int IntKind.i64), .own 3 (Ty.int IntKind.i64)]), (29, .one (.v)), (30, .one (.v))])]
noncomputable def F120_1002 (k : Nat) (rec1002 : Int → Int → List Int → List Int → Option ((Int × (List (Int)) × List (Int)) × Bool)) (rec1005 : Int → Int → List Int → List Int → Int → Int → Option ((Int × (List (Int)) × List (Int)) × Bool)) (t6s_0 : Int) (outs_0 : Int) (outs : List Int) (outs' : List Int) : Option ((Int × (List (Int)) × List (Int)) × Bool) :=
  bif decide (0 < outs_0) then
    (f126 k outs_0 outs outs').bind fun r0 =>
    bif r0 then
      rec1005 t6s_0 (IntKind.wrap IntKind.i64 (outs_0 - 1)) outs outs' ((↑(List.length outs) : Int)) (0)
    else
      (f67 k outs_0 outs outs').bind fun r1 =>
      bif !r1 then
        some (((0, [], []), false))
      else
        some (((outs_0, outs, outs'), true))
  else
    (f67 k outs_0 outs outs').bind fun r2 =>
    bif !r2 then
      some (((0, [], []), false))
    else
      some (((outs_0, outs, outs'), true))
noncomputable def F120_1005 (k : Nat) (rec1002 : Int → Int → List Int → List Int → Option ((Int × (List (Int)) × List (Int)) × Bool)) (rec1005 : Int → Int → List Int → List Int → Int → Int → Option ((Int × (List (Int)) × List (Int)) × Bool)) (t6s_0 : Int) (outs_0 : Int) (outs : List Int) (outs' : List Int) (t29 : Int) (t30 : Int) : Option ((Int × (List (Int)) × List (Int)) × Bool) :=
  bif decide (t30 < t29) then
    bif boundA t30 (List.length outs) then
      bif Nat.blt (Int.toNat t30) (List.length outs) then
        bif boundA t30 (List.length outs) then
          bif Nat.blt (Int.toNat t30) (List.length outs) then
            bif boundA t30 (List.length outs') then
              bif Nat.blt (Int.toNat t30) (List.length outs') then
                bif boundA t30 (List.length outs') then
                  bif Nat.blt (Int.toNat t30) (List.length outs') then
                    rec1005 t6s_0 outs_0 (List.set outs (Int.toNat t30) (IntKind.wrap IntKind.i64 (Int.tdiv (List.getD outs (Int.toNat t30) 0) 2))) (List.set outs' (Int.toNat t30) (IntKind.wrap IntKind.i64 (Int.tdiv (List.getD outs' (Int.toNat t30) 0) 2))) t29 (IntKind.wrap IntKind.i64 (t30 + 1))
                  else
                    none
                else
                  none
              else
                none
            else
              none
          else
            none
        else
          none
      else
        none
    else
      none
  else
    rec1002 t6s_0 outs_0 outs outs'
noncomputable def F120 (k : Nat) (rec1002 : Int → Int → List Int → List Int → Option ((Int × (List (Int)) × List (Int)) × Bool)) (rec1005 : Int → Int → List Int → List Int → Int → Int → Option ((Int × (List (Int)) × List (Int)) × Bool)) (k_ : Int) (low : List (Int)) (high : List (Int)) : Option ((Int × (List (Int)) × List (Int)) × Bool) :=
  (f101 k low).bind fun r0 =>
  (f101 k high).bind fun r1 =>
  rec1002 (0) k_ r0 r1
noncomputable def l120 : Nat → (Int → Int → List Int → List Int → Option ((Int × (List (Int)) × List (Int)) × Bool)) × (Int → Int → List Int → List Int → Int → Int → Option ((Int × (List (Int)) × List (Int)) × Bool))
  | 0 => (fun _ _ _ _ => none, fun _ _ _ _ _ _ => none)
  | k + 1 => (F120_1002 k ((l120 k).1) ((l120 k).2), F120_1005 k ((l120 k).1) ((l120 k).2))
noncomputable def f120 (k : Nat) (k_ : Int) (low : List (Int)) (high : List (Int)) : Option ((Int × (List (Int)) × List (Int)) × Bool) := F120 k ((l120 k).1) ((l120 k).2) k_ low high
noncomputable def s120 : Spec := ⟨false, [(.pair (.int .i64) (.pair (.slice 3 (.int .i64)) (.slice 3 (.int .i64))), true), (.bool, false)], true, .pair (.pair (.int .i64) (.pair (.slice 3 (.int .i64)) (.slice 3 (.int .i64)))) (.bool), fun k xs => match xs with | [.int .i64 k_, .slc 3 (.int .i64) low, .slc 3 (.int .i64) high] => f120 k k_ low high | _ => none, false, none⟩
noncomputable def env24 : List (FuncId × Spec) := (120, s120) :: env23
noncomputable abbrev x120 := exec ti (envOf env23) 53 h120 (finT ti true Go.Proofs.Try.f120.results.toList [(.pair (.int .i64) (.pair (.slice 3 (.int .i64)) (.slice 3 (.int .i64))), true), (.bool, false)] (.pair (.pair (.int .i64) (.pair (.slice 3 (.int .i64)) (.slice 3 (.int .i64)))) (.bool)))
noncomputable def k120_1002 : List It := stackAt [.r, .r, .l, .b, .lb none] (bodyOf Go.Proofs.Try.f120) []
def t120_1002 (t6s_0 : Int) (outs_0 : Int) (outs : List Int) (outs' : List Int) : St := [(12, Cell.val (AVal.ptr 33 0)), (33, Cell.mem true 32 [AVal.int IntKind.i64 t6s_0, AVal.nilslc, AVal.nilslc]), (16, Cell.val (AVal.ptr 35 0)), (35, Cell.mem true 32 [AVal.int IntKind.i64 outs_0, AVal.ref 37 none, AVal.ref 39 none]), (37, Cell.row true 3 (Ty.int IntKind.i64) outs), (39, Cell.row true 3 (Ty.int IntKind.i64) outs')]
noncomputable def k120_1005 : List It := stackAt [.r, .r, .l, .b, .lb none, .r, .b, .r, .r, .b, .lb none] (bodyOf Go.Proofs.Try.f120) []
def t120_1005 (t6s_0 : Int) (outs_0 : Int) (outs : List Int) (outs' : List Int) (t29 : Int) (t30 : Int) : St := [(12, Cell.val (AVal.ptr 33 0)), (33, Cell.mem true 32 [AVal.int IntKind.i64 t6s_0, AVal.nilslc, AVal.nilslc]), (16, Cell.val (AVal.ptr 35 0)), (35, Cell.mem true 32 [AVal.int IntKind.i64 outs_0, AVal.ref 37 none, AVal.ref 39 none]), (37, Cell.row true 3 (Ty.int IntKind.i64) outs), (39, Cell.row true 3 (Ty.int IntKind.i64) outs'), (58, Cell.val (AVal.int IntKind.i64 t29)), (60, Cell.val (AVal.int IntKind.i64 t30))]
theorem e120_1002 (k : Nat) (t6s_0 : Int) (outs_0 : Int) (outs : List Int) (outs' : List Int) : x120 (k + 1) k120_1002 (t120_1002 t6s_0 outs_0 outs outs') = F120_1002 k (fun (t6s_0 : Int) (outs_0 : Int) (outs : List Int) (outs' : List Int) => x120 k k120_1002 (t120_1002 t6s_0 outs_0 outs outs')) (fun (t6s_0 : Int) (outs_0 : Int) (outs : List Int) (outs' : List Int) (t29 : Int) (t30 : Int) => x120 k k120_1005 (t120_1005 t6s_0 outs_0 outs outs' t29 t30)) t6s_0 outs_0 outs outs' := by kernel_rfl
theorem e120_1005 (k : Nat) (t6s_0 : Int) (outs_0 : Int) (outs : List Int) (outs' : List Int) (t29 : Int) (t30 : Int) : x120 (k + 1) k120_1005 (t120_1005 t6s_0 outs_0 outs outs' t29 t30) = F120_1005 k (fun (t6s_0 : Int) (outs_0 : Int) (outs : List Int) (outs' : List Int) => x120 k k120_1002 (t120_1002 t6s_0 outs_0 outs outs')) (fun (t6s_0 : Int) (outs_0 : Int) (outs : List Int) (outs' : List Int) (t29 : Int) (t30 : Int) => x120 k k120_1005 (t120_1005 t6s_0 outs_0 outs outs' t29 t30)) t6s_0 outs_0 outs outs' t29 t30 := by kernel_rfl
theorem q120 : ∀ k : Nat, ((fun (t6s_0 : Int) (outs_0 : Int) (outs : List Int) (outs' : List Int) => x120 k k120_1002 (t120_1002 t6s_0 outs_0 outs outs')), (fun (t6s_0 : Int) (outs_0 : Int) (outs : List Int) (outs' : List Int) (t29 : Int) (t30 : Int) => x120 k k120_1005 (t120_1005 t6s_0 outs_0 outs outs' t29 t30))) = l120 k
  | 0 => rfl
  | k + 1 => by
    have h := q120 k
    show _ = (F120_1002 k ((l120 k).1) ((l120 k).2), F120_1005 k ((l120 k).1) ((l120 k).2))
    rw [← h]
    exact (Prod.ext (funext fun t6s_0 => funext fun outs_0 => funext fun outs => funext fun outs' => e120_1002 k t6s_0 outs_0 outs outs') (funext fun t6s_0 => funext fun outs_0 => funext fun outs => funext fun outs' => funext fun t29 => funext fun t30 => e120_1005 k t6s_0 outs_0 outs outs' t29 t30))
theorem w120 (k : Nat) (k_ : Int) (low : List (Int)) (high : List (Int)) : runFn ti (envOf env23) 53 h120 (finT ti true Go.Proofs.Try.f120.results.toList [(.pair (.int .i64) (.pair (.slice 3 (.int .i64)) (.slice 3 (.int .i64))), true), (.bool, false)] (.pair (.pair (.int .i64) (.pair (.slice 3 (.int .i64)) (.slice 3 (.int .i64)))) (.bool))) k (bodyOf Go.Proofs.Try.f120) (initS 0 [.int .i64 k_, .slc 3 (.int .i64) low, .slc 3 (.int .i64) high]) = F120 k (fun (t6s_0 : Int) (outs_0 : Int) (outs : List Int) (outs' : List Int) => x120 k k120_1002 (t120_1002 t6s_0 outs_0 outs outs')) (fun (t6s_0 : Int) (outs_0 : Int) (outs : List Int) (outs' : List Int) (t29 : Int) (t30 : Int) => x120 k k120_1005 (t120_1005 t6s_0 outs_0 outs outs' t29 t30)) k_ low high := by kernel_rfl
theorem v120 (k : Nat) (k_ : Int) (low : List (Int)) (high : List (Int)) : runFn ti (envOf env23) 53 h120 (finT ti true Go.Proofs.Try.f120.results.toList [(.pair (.int .i64) (.pair (.slice 3 (.int .i64)) (.slice 3 (.int .i64))), true), (.bool, false)] (.pair (.pair (.int .i64) (.pair (.slice 3 (.int .i64)) (.slice 3 (.int .i64)))) (.bool))) k (bodyOf Go.Proofs.Try.f120) (initS 0 [.int .i64 k_, .slc 3 (.int .i64) low, .slc 3 (.int .i64) high]) = f120 k k_ low high := by
  rw [w120]
  have h := q120 k
  unfold f120
  rw [← h]
theorem m120 : Meets Go.Proofs.Try.prog 120 s120 := meets_of_run tiOk env23_ok mo Go.Proofs.Try.func120 (body := bodyOf Go.Proofs.Try.f120) (by kernel_rfl) (N := 53) (by kernel_rfl) (hs := h120) (by
  intro k xs r h
  unfold s120 at h
  dsimp only at h
  split at h
  · exact ⟨Nat.le_of_ble_eq_true rfl, (v120 k _ _ _).trans h⟩
  · cases h)
theorem env24_ok : EnvOk Go.Proofs.Try.prog (envOf env24) := envOf_cons m120 Go.Proofs.Try.func120 (by kernel_rfl) (by kernel_rfl) env23_ok

end Go.Proofs.YtkahcjnkmbbplaaE
