/- Functions, by the engine; printed. -/
import Derived.Test.YtkahcjnkmbbplaaLA0
set_option maxRecDepth 100000
set_option maxHeartbeats 4000000
set_option linter.unusedVariables false
namespace Go.Proofs.YtkahcjnkmbbplaaE
-- laws.szIntS
noncomputable def f34 (k : Nat) (a : List (Int)) (left : Int) : Option (Int) :=
  bif decide (IntKind.wrap IntKind.i64 (left - (↑(List.length a) : Int)) < 0) then
    some (-1)
  else
    some (IntKind.wrap IntKind.i64 (left - (↑(List.length a) : Int)))
noncomputable def s34 : Spec := ⟨false, [(.int .i64, false)], true, .int .i64, fun k xs => match xs with | [.slc 3 (.int .i64) a, .int .i64 left] => f34 k a left | _ => none, false⟩
noncomputable def env1 : List (FuncId × Spec) := (34, s34) :: env0
theorem v34 (k : Nat) (a : List (Int)) (left : Int) : runFn ti (envOf env0) 12 [] (finT ti true Go.Proofs.Try.f34.results.toList [(.int .i64, false)] (.int .i64)) k (bodyOf Go.Proofs.Try.f34) (initS 0 [.slc 3 (.int .i64) a, .int .i64 left]) = f34 k a left := by kernel_rfl
theorem m34 : Meets Go.Proofs.Try.prog 34 s34 := meets_of_run tiOk env0_ok mo Go.Proofs.Try.func34 (body := bodyOf Go.Proofs.Try.f34) (by kernel_rfl) (N := 12) (by kernel_rfl) (hs := []) (by
  intro k xs r h
  unfold s34 at h
  dsimp only at h
  split at h
  · exact ⟨Nat.le_of_ble_eq_true rfl, (v34 k _ _).trans h⟩
  · cases h)
theorem env1_ok : EnvOk Go.Proofs.Try.prog (envOf env1) := envOf_cons m34 Go.Proofs.Try.func34 (by kernel_rfl) (by kernel_rfl) env0_ok

-- laws.szBox
noncomputable def f8 (k : Nat) (a_K : Int) (a_Low : List (Int)) (a_High : List (Int)) (left : Int) : Option (Int) :=
  (f34 k a_Low left).bind fun r0 =>
  bif decide (r0 < 0) then
    some (-1)
  else
    (f34 k a_High r0).bind fun r1 =>
    bif decide (r1 < 0) then
      some (-1)
    else
      some r1
noncomputable def s8 : Spec := ⟨false, [(.int .i64, false)], true, .int .i64, fun k xs => match xs with | [.agg [.int .i64 a_K, .slc 3 (.int .i64) a_Low, .slc 3 (.int .i64) a_High], .int .i64 left] => f8 k a_K a_Low a_High left | _ => none, false⟩
noncomputable def env2 : List (FuncId × Spec) := (8, s8) :: env1
theorem v8 (k : Nat) (a_K : Int) (a_Low : List (Int)) (a_High : List (Int)) (left : Int) : runFn ti (envOf env1) 18 [] (finT ti true Go.Proofs.Try.f8.results.toList [(.int .i64, false)] (.int .i64)) k (bodyOf Go.Proofs.Try.f8) (initS 0 [.agg [.int .i64 a_K, .slc 3 (.int .i64) a_Low, .slc 3 (.int .i64) a_High], .int .i64 left]) = f8 k a_K a_Low a_High left := by kernel_rfl
theorem m8 : Meets Go.Proofs.Try.prog 8 s8 := meets_of_run tiOk env1_ok mo Go.Proofs.Try.func8 (body := bodyOf Go.Proofs.Try.f8) (by kernel_rfl) (N := 18) (by kernel_rfl) (hs := []) (by
  intro k xs r h
  unfold s8 at h
  dsimp only at h
  split at h
  · exact ⟨Nat.le_of_ble_eq_true rfl, (v8 k _ _ _ _).trans h⟩
  · cases h)
theorem env2_ok : EnvOk Go.Proofs.Try.prog (envOf env2) := envOf_cons m8 Go.Proofs.Try.func8 (by kernel_rfl) (by kernel_rfl) env1_ok

-- laws.szNodeS
noncomputable def f9 (k : Nat) (a : List (Int × Int)) (left : Int) : Option (Int) :=
  bif decide (IntKind.wrap IntKind.i64 (left - (↑(List.length a) : Int)) < 0) then
    some (-1)
  else
    some (IntKind.wrap IntKind.i64 (left - (↑(List.length a) : Int)))
noncomputable def s9 : Spec := ⟨false, [(.int .i64, false)], true, .int .i64, fun k xs => match xs with | [.slc 65 (.pair (.int .i64) (.int .i64)) a, .int .i64 left] => f9 k a left | _ => none, false⟩
noncomputable def env3 : List (FuncId × Spec) := (9, s9) :: env2
theorem v9 (k : Nat) (a : List (Int × Int)) (left : Int) : runFn ti (envOf env2) 12 [] (finT ti true Go.Proofs.Try.f9.results.toList [(.int .i64, false)] (.int .i64)) k (bodyOf Go.Proofs.Try.f9) (initS 0 [.slc 65 (.pair (.int .i64) (.int .i64)) a, .int .i64 left]) = f9 k a left := by kernel_rfl
theorem m9 : Meets Go.Proofs.Try.prog 9 s9 := meets_of_run tiOk env2_ok mo Go.Proofs.Try.func9 (body := bodyOf Go.Proofs.Try.f9) (by kernel_rfl) (N := 12) (by kernel_rfl) (hs := []) (by
  intro k xs r h
  unfold s9 at h
  dsimp only at h
  split at h
  · exact ⟨Nat.le_of_ble_eq_true rfl, (v9 k _ _).trans h⟩
  · cases h)
theorem env3_ok : EnvOk Go.Proofs.Try.prog (envOf env3) := envOf_cons m9 Go.Proofs.Try.func9 (by kernel_rfl) (by kernel_rfl) env2_ok

-- laws.szDyadicS
noncomputable def f10 (k : Nat) (a : List (Int × Int)) (left : Int) : Option (Int) :=
  bif decide (IntKind.wrap IntKind.i64 (left - (↑(List.length a) : Int)) < 0) then
    some (-1)
  else
    some (IntKind.wrap IntKind.i64 (left - (↑(List.length a) : Int)))
noncomputable def s10 : Spec := ⟨false, [(.int .i64, false)], true, .int .i64, fun k xs => match xs with | [.slc 70 (.pair (.int .i64) (.int .i64)) a, .int .i64 left] => f10 k a left | _ => none, false⟩
noncomputable def env4 : List (FuncId × Spec) := (10, s10) :: env3
theorem v10 (k : Nat) (a : List (Int × Int)) (left : Int) : runFn ti (envOf env3) 12 [] (finT ti true Go.Proofs.Try.f10.results.toList [(.int .i64, false)] (.int .i64)) k (bodyOf Go.Proofs.Try.f10) (initS 0 [.slc 70 (.pair (.int .i64) (.int .i64)) a, .int .i64 left]) = f10 k a left := by kernel_rfl
theorem m10 : Meets Go.Proofs.Try.prog 10 s10 := meets_of_run tiOk env3_ok mo Go.Proofs.Try.func10 (body := bodyOf Go.Proofs.Try.f10) (by kernel_rfl) (N := 12) (by kernel_rfl) (hs := []) (by
  intro k xs r h
  unfold s10 at h
  dsimp only at h
  split at h
  · exact ⟨Nat.le_of_ble_eq_true rfl, (v10 k _ _).trans h⟩
  · cases h)
theorem env4_ok : EnvOk Go.Proofs.Try.prog (envOf env4) := envOf_cons m10 Go.Proofs.Try.func10 (by kernel_rfl) (by kernel_rfl) env3_ok

-- spec.dyPower
noncomputable def f81 (k : Nat) (k_ : Int) : Option (Int) :=
  bif !decide (IntKind.wrap IntKind.u64 k_ < 0) then
    some (IntKind.wrap IntKind.i64 (1 * 2 ^ min (Int.toNat (IntKind.wrap IntKind.u64 k_)) (IntKind.bits IntKind.i64)))
  else
    none
noncomputable def s81 : Spec := ⟨false, [(.int .i64, false)], true, .int .i64, fun k xs => match xs with | [.int .i64 k_] => f81 k k_ | _ => none, false⟩
noncomputable def env5 : List (FuncId × Spec) := (81, s81) :: env4
theorem v81 (k : Nat) (k_ : Int) : runFn ti (envOf env4) 6 [] (finT ti true Go.Proofs.Try.f81.results.toList [(.int .i64, false)] (.int .i64)) k (bodyOf Go.Proofs.Try.f81) (initS 0 [.int .i64 k_]) = f81 k k_ := by kernel_rfl
theorem m81 : Meets Go.Proofs.Try.prog 81 s81 := meets_of_run tiOk env4_ok mo Go.Proofs.Try.func81 (body := bodyOf Go.Proofs.Try.f81) (by kernel_rfl) (N := 6) (by kernel_rfl) (hs := []) (by
  intro k xs r h
  unfold s81 at h
  dsimp only at h
  split at h
  · exact ⟨Nat.le_of_ble_eq_true rfl, (v81 k _).trans h⟩
  · cases h)
theorem env5_ok : EnvOk Go.Proofs.Try.prog (envOf env5) := envOf_cons m81 Go.Proofs.Try.func81 (by kernel_rfl) (by kernel_rfl) env4_ok

-- spec.l1In
noncomputable def f95 (k : Nat) (n : Int) (lo : Int) (hi : Int) : Option (Bool) :=
  bif decide (lo ≤ n) then
    some (decide (n ≤ hi))
  else
    some false
noncomputable def s95 : Spec := ⟨false, [(.bool, false)], true, .bool, fun k xs => match xs with | [.int .i64 n, .int .i64 lo, .int .i64 hi] => f95 k n lo hi | _ => none, false⟩
noncomputable def env6 : List (FuncId × Spec) := (95, s95) :: env5
theorem v95 (k : Nat) (n : Int) (lo : Int) (hi : Int) : runFn ti (envOf env5) 15 [] (finT ti true Go.Proofs.Try.f95.results.toList [(.bool, false)] (.bool)) k (bodyOf Go.Proofs.Try.f95) (initS 0 [.int .i64 n, .int .i64 lo, .int .i64 hi]) = f95 k n lo hi := by kernel_rfl
theorem m95 : Meets Go.Proofs.Try.prog 95 s95 := meets_of_run tiOk env5_ok mo Go.Proofs.Try.func95 (body := bodyOf Go.Proofs.Try.f95) (by kernel_rfl) (N := 15) (by kernel_rfl) (hs := []) (by
  intro k xs r h
  unfold s95 at h
  dsimp only at h
  split at h
  · exact ⟨Nat.le_of_ble_eq_true rfl, (v95 k _ _ _).trans h⟩
  · cases h)
theorem env6_ok : EnvOk Go.Proofs.Try.prog (envOf env6) := envOf_cons m95 Go.Proofs.Try.func95 (by kernel_rfl) (by kernel_rfl) env5_ok

-- spec.bxGood
def h67 : Hints := [(1006, .lab [(1, .box 32 [.v, .frz 3 (Ty.int IntKind.i64), .frz 3 (Ty.int IntKind.i64)]), (3, .one (.v)), (4, .one (.v)), (36, .one (.frz 3 (Ty.int IntKind.i64))), (37, .one (.v)), (38, .one (.v))])]
noncomputable def F67_1006 (k : Nat) (rec1006 : Int → List Int → List Int → Int → Bool → List Int → Int → Int → Option (Bool)) (is_0 : Int) (is_1 : List Int) (is_2 : List Int) (t : Int) (t4 : Bool) (t36 : List Int) (t37 : Int) (t38 : Int) : Option (Bool) :=
  bif decide (t38 < t37) then
    bif boundA t38 (List.length t36) then
      bif boundA t38 (List.length is_2) then
        (f95 k (List.getD t36 (Int.toNat t38) 0) (IntKind.wrap IntKind.i64 (0 - t)) t).bind fun r0 =>
        bif !r0 then
          some false
        else
          (f95 k (List.getD is_2 (Int.toNat t38) 0) (IntKind.wrap IntKind.i64 (0 - t)) t).bind fun r1 =>
          bif !r1 then
            some false
          else
            bif decide (List.getD is_2 (Int.toNat t38) 0 ≤ List.getD t36 (Int.toNat t38) 0) then
              some false
            else
              bif t4 then
                rec1006 is_0 is_1 is_2 t true t36 t37 (IntKind.wrap IntKind.i64 (t38 + 1))
              else
                bif !decide (Int.tmod (List.getD t36 (Int.toNat t38) 0) 2 = 0) then
                  rec1006 is_0 is_1 is_2 t true t36 t37 (IntKind.wrap IntKind.i64 (t38 + 1))
                else
                  rec1006 is_0 is_1 is_2 t (!decide (Int.tmod (List.getD is_2 (Int.toNat t38) 0) 2 = 0)) t36 t37 (IntKind.wrap IntKind.i64 (t38 + 1))
      else
        none
    else
      none
  else
    some t4
noncomputable def F67 (k : Nat) (rec1006 : Int → List Int → List Int → Int → Bool → List Int → Int → Int → Option (Bool)) (L_K : Int) (L_Low : List (Int)) (L_High : List (Int)) : Option (Bool) :=
  (f95 k L_K 0 8).bind fun r0 =>
  bif !r0 then
    some false
  else
    (f95 k (↑(List.length L_Low) : Int) 1 3).bind fun r1 =>
    bif !r1 then
      some false
    else
      bif !decide ((↑(List.length L_High) : Int) = (↑(List.length L_Low) : Int)) then
        some false
      else
        (f81 k L_K).bind fun r2 =>
        rec1006 L_K L_Low L_High (IntKind.wrap IntKind.i64 (8 * r2)) (decide (L_K = 0)) L_Low ((↑(List.length L_Low) : Int)) (0)
noncomputable def l67 : Nat → (Int → List Int → List Int → Int → Bool → List Int → Int → Int → Option (Bool))
  | 0 => fun _ _ _ _ _ _ _ _ => none
  | k + 1 => F67_1006 k (l67 k)
noncomputable def f67 (k : Nat) (L_K : Int) (L_Low : List (Int)) (L_High : List (Int)) : Option (Bool) := F67 k (l67 k) L_K L_Low L_High
noncomputable def s67 : Spec := ⟨false, [(.bool, false)], true, .bool, fun k xs => match xs with | [.agg [.int .i64 L_K, .slc 3 (.int .i64) L_Low, .slc 3 (.int .i64) L_High]] => f67 k L_K L_Low L_High | _ => none, false⟩
noncomputable def env7 : List (FuncId × Spec) := (67, s67) :: env6
noncomputable abbrev x67 := exec ti (envOf env6) 80 h67 (finT ti true Go.Proofs.Try.f67.results.toList [(.bool, false)] (.bool))
noncomputable def k67_1006 : List It := stackAt [.r, .r, .r, .r, .l, .r, .b, .lb none] (bodyOf Go.Proofs.Try.f67) []
def t67_1006 (is_0 : Int) (is_1 : List Int) (is_2 : List Int) (t : Int) (t4 : Bool) (t36 : List Int) (t37 : Int) (t38 : Int) : St := [(2, Cell.val (AVal.ptr 3 0)), (3, Cell.mem true 32 [AVal.int IntKind.i64 is_0, AVal.slc 3 (Ty.int IntKind.i64) is_1, AVal.slc 3 (Ty.int IntKind.i64) is_2]), (6, Cell.val (AVal.int IntKind.i64 t)), (8, Cell.val (AVal.bool t4)), (72, Cell.val (AVal.slc 3 (Ty.int IntKind.i64) t36)), (74, Cell.val (AVal.int IntKind.i64 t37)), (76, Cell.val (AVal.int IntKind.i64 t38))]
theorem e67_1006 (k : Nat) (is_0 : Int) (is_1 : List Int) (is_2 : List Int) (t : Int) (t4 : Bool) (t36 : List Int) (t37 : Int) (t38 : Int) : x67 (k + 1) k67_1006 (t67_1006 is_0 is_1 is_2 t t4 t36 t37 t38) = F67_1006 k (fun (is_0 : Int) (is_1 : List Int) (is_2 : List Int) (t : Int) (t4 : Bool) (t36 : List Int) (t37 : Int) (t38 : Int) => x67 k k67_1006 (t67_1006 is_0 is_1 is_2 t t4 t36 t37 t38)) is_0 is_1 is_2 t t4 t36 t37 t38 := by kernel_rfl
theorem q67 : ∀ k : Nat, (fun (is_0 : Int) (is_1 : List Int) (is_2 : List Int) (t : Int) (t4 : Bool) (t36 : List Int) (t37 : Int) (t38 : Int) => x67 k k67_1006 (t67_1006 is_0 is_1 is_2 t t4 t36 t37 t38)) = l67 k
  | 0 => rfl
  | k + 1 => by
    have h := q67 k
    show _ = F67_1006 k (l67 k)
    rw [← h]
    exact (funext fun is_0 => funext fun is_1 => funext fun is_2 => funext fun t => funext fun t4 => funext fun t36 => funext fun t37 => funext fun t38 => e67_1006 k is_0 is_1 is_2 t t4 t36 t37 t38)
theorem w67 (k : Nat) (L_K : Int) (L_Low : List (Int)) (L_High : List (Int)) : runFn ti (envOf env6) 80 h67 (finT ti true Go.Proofs.Try.f67.results.toList [(.bool, false)] (.bool)) k (bodyOf Go.Proofs.Try.f67) (initS 0 [.agg [.int .i64 L_K, .slc 3 (.int .i64) L_Low, .slc 3 (.int .i64) L_High]]) = F67 k (fun (is_0 : Int) (is_1 : List Int) (is_2 : List Int) (t : Int) (t4 : Bool) (t36 : List Int) (t37 : Int) (t38 : Int) => x67 k k67_1006 (t67_1006 is_0 is_1 is_2 t t4 t36 t37 t38)) L_K L_Low L_High := by kernel_rfl
theorem v67 (k : Nat) (L_K : Int) (L_Low : List (Int)) (L_High : List (Int)) : runFn ti (envOf env6) 80 h67 (finT ti true Go.Proofs.Try.f67.results.toList [(.bool, false)] (.bool)) k (bodyOf Go.Proofs.Try.f67) (initS 0 [.agg [.int .i64 L_K, .slc 3 (.int .i64) L_Low, .slc 3 (.int .i64) L_High]]) = f67 k L_K L_Low L_High := by
  rw [w67]
  have h := q67 k
  unfold f67
  rw [← h]
theorem m67 : Meets Go.Proofs.Try.prog 67 s67 := meets_of_run tiOk env6_ok mo Go.Proofs.Try.func67 (body := bodyOf Go.Proofs.Try.f67) (by kernel_rfl) (N := 80) (by kernel_rfl) (hs := h67) (by
  intro k xs r h
  unfold s67 at h
  dsimp only at h
  split at h
  · exact ⟨Nat.le_of_ble_eq_true rfl, (v67 k _ _ _).trans h⟩
  · cases h)
theorem env7_ok : EnvOk Go.Proofs.Try.prog (envOf env7) := envOf_cons m67 Go.Proofs.Try.func67 (by kernel_rfl) (by kernel_rfl) env6_ok

-- spec.trEnd
noncomputable def F100_0 (k : Nat) (rec0 : List (Int × Int) → Int → Int → Int → Option (Int)) (l : List (Int × Int)) (sides : Int) (at_ : Int) (depth : Int) : Option (Int) :=
  bif decide ((↑(List.length l) : Int) ≤ at_) then
    some (-1)
  else
    bif decide (20 < depth) then
      some (-1)
    else
      bif boundA at_ (List.length l) then
        bif decide ((List.getD l (Int.toNat at_) (0, 0)).fst = 0) then
          (f95 k (List.getD l (Int.toNat at_) (0, 0)).snd 0 (IntKind.wrap IntKind.i64 (sides - 1))).bind fun r0 =>
          bif !r0 then
            some (-1)
          else
            (rec0 l sides (IntKind.wrap IntKind.i64 (at_ + 1)) (IntKind.wrap IntKind.i64 (depth + 1))).bind fun r1 =>
            bif decide (r1 < 0) then
              some (-1)
            else
              (rec0 l sides r1 (IntKind.wrap IntKind.i64 (depth + 1))).bind fun r2 =>
              some r2
        else
          bif decide ((List.getD l (Int.toNat at_) (0, 0)).fst = 1) then
            bif decide ((List.getD l (Int.toNat at_) (0, 0)).fst = 1) then
              (f95 k (List.getD l (Int.toNat at_) (0, 0)).snd 0 99).bind fun r3 =>
              bif !r3 then
                some (-1)
              else
                some (IntKind.wrap IntKind.i64 (at_ + 1))
            else
              bif decide ((List.getD l (Int.toNat at_) (0, 0)).fst = 3) then
                bif !decide ((List.getD l (Int.toNat at_) (0, 0)).snd = 0) then
                  some (-1)
                else
                  some (IntKind.wrap IntKind.i64 (at_ + 1))
              else
                some (-1)
          else
            bif decide ((List.getD l (Int.toNat at_) (0, 0)).fst = 2) then
              (f95 k (List.getD l (Int.toNat at_) (0, 0)).snd 0 99).bind fun r4 =>
              bif !r4 then
                some (-1)
              else
                some (IntKind.wrap IntKind.i64 (at_ + 1))
            else
              bif decide ((List.getD l (Int.toNat at_) (0, 0)).fst = 3) then
                bif !decide ((List.getD l (Int.toNat at_) (0, 0)).snd = 0) then
                  some (-1)
                else
                  some (IntKind.wrap IntKind.i64 (at_ + 1))
              else
                some (-1)
      else
        none
noncomputable def F100 (k : Nat) (rec0 : List (Int × Int) → Int → Int → Int → Option (Int)) (l : List (Int × Int)) (sides : Int) (at_ : Int) (depth : Int) : Option (Int) :=
  rec0 l sides at_ depth
noncomputable def l100 : Nat → (List (Int × Int) → Int → Int → Int → Option (Int))
  | 0 => fun _ _ _ _ => none
  | k + 1 => F100_0 k (l100 k)
noncomputable def f100 (k : Nat) (l : List (Int × Int)) (sides : Int) (at_ : Int) (depth : Int) : Option (Int) := F100 k (l100 k) l sides at_ depth
noncomputable def g100 (k : Nat) (xs : List AVal) : Option (T (.int .i64)) := match xs with | [.slc 63 (.pair (.int .i64) (.int .i64)) l, .int .i64 sides, .int .i64 at_, .int .i64 depth] => f100 k l sides at_ depth | _ => none
noncomputable def s100 : Spec := ⟨false, [(.int .i64, false)], true, .int .i64, g100, false⟩
noncomputable def env8 : List (FuncId × Spec) := (100, s100) :: env7
theorem v100 (j : Nat) (l : List (Int × Int)) (sides : Int) (at_ : Int) (depth : Int) : runFn ti (envOf ((100, ⟨false, [(.int .i64, false)], true, .int .i64, fun _ xs => g100 j xs, false⟩) :: env7)) 64 [] (finT ti true Go.Proofs.Try.f100.results.toList [(.int .i64, false)] (.int .i64)) j (bodyOf Go.Proofs.Try.f100) (initS 0 [.slc 63 (.pair (.int .i64) (.int .i64)) l, .int .i64 sides, .int .i64 at_, .int .i64 depth]) = f100 (j + 1) l sides at_ depth := by kernel_rfl
theorem m100 : Meets Go.Proofs.Try.prog 100 s100 := meets_rec (fun xs => by unfold g100; split <;> rfl) fun j hj => meets_of_run tiOk (envOf_cons hj Go.Proofs.Try.func100 (by kernel_rfl) (by kernel_rfl) env7_ok) mo Go.Proofs.Try.func100 (body := bodyOf Go.Proofs.Try.f100) (by kernel_rfl) (N := 64) (by kernel_rfl) (hs := []) (by
  intro k xs r h
  dsimp only at h
  cases hk : Nat.beq k j with
  | false => rw [hk] at h; cases h
  | true =>
    rw [hk] at h
    obtain rfl := Nat.eq_of_beq_eq_true hk
    have h : g100 (k + 1) xs = some r := h
    unfold g100 at h
    split at h
    · exact ⟨Nat.le_of_ble_eq_true rfl, (v100 k _ _ _ _).trans h⟩
    · cases h)
theorem env8_ok : EnvOk Go.Proofs.Try.prog (envOf env8) := envOf_cons m100 Go.Proofs.Try.func100 (by kernel_rfl) (by kernel_rfl) env7_ok

-- spec.trGood
noncomputable def f68 (k : Nat) (l : List (Int × Int)) (sides : Int) : Option (Bool) :=
  (f95 k sides 1 3).bind fun r0 =>
  bif r0 then
    (f95 k (↑(List.length l) : Int) 1 200).bind fun r1 =>
    bif r1 then
      (f100 k l sides 0 0).bind fun r2 =>
      some (decide (r2 = (↑(List.length l) : Int)))
    else
      some false
  else
    some false
noncomputable def s68 : Spec := ⟨false, [(.bool, false)], true, .bool, fun k xs => match xs with | [.slc 63 (.pair (.int .i64) (.int .i64)) l, .int .i64 sides] => f68 k l sides | _ => none, false⟩
noncomputable def env9 : List (FuncId × Spec) := (68, s68) :: env8
theorem v68 (k : Nat) (l : List (Int × Int)) (sides : Int) : runFn ti (envOf env8) 20 [] (finT ti true Go.Proofs.Try.f68.results.toList [(.bool, false)] (.bool)) k (bodyOf Go.Proofs.Try.f68) (initS 0 [.slc 63 (.pair (.int .i64) (.int .i64)) l, .int .i64 sides]) = f68 k l sides := by kernel_rfl
theorem m68 : Meets Go.Proofs.Try.prog 68 s68 := meets_of_run tiOk env8_ok mo Go.Proofs.Try.func68 (body := bodyOf Go.Proofs.Try.f68) (by kernel_rfl) (N := 20) (by kernel_rfl) (hs := []) (by
  intro k xs r h
  unfold s68 at h
  dsimp only at h
  split at h
  · exact ⟨Nat.le_of_ble_eq_true rfl, (v68 k _ _).trans h⟩
  · cases h)
theorem env9_ok : EnvOk Go.Proofs.Try.prog (envOf env9) := envOf_cons m68 Go.Proofs.Try.func68 (by kernel_rfl) (by kernel_rfl) env8_ok

-- spec.l1Own
noncomputable def f101 (k : Nat) (l : List (Int)) : Option (List (Int)) :=
  bif decide (((0 : Nat) + List.length l) * 8 ≤ 140737488355328) then
    some ([] ++ l)
  else
    none
noncomputable def s101 : Spec := ⟨false, [(.slice 3 (.int .i64), false)], true, .slice 3 (.int .i64), fun k xs => match xs with | [.slc 3 (.int .i64) l] => f101 k l | _ => none, false⟩
noncomputable def env10 : List (FuncId × Spec) := (101, s101) :: env9
theorem v101 (k : Nat) (l : List (Int)) : runFn ti (envOf env9) 6 [] (finT ti true Go.Proofs.Try.f101.results.toList [(.slice 3 (.int .i64), false)] (.slice 3 (.int .i64))) k (bodyOf Go.Proofs.Try.f101) (initS 0 [.slc 3 (.int .i64) l]) = f101 k l := by kernel_rfl
theorem m101 : Meets Go.Proofs.Try.prog 101 s101 := meets_of_run tiOk env9_ok mo Go.Proofs.Try.func101 (body := bodyOf Go.Proofs.Try.f101) (by kernel_rfl) (N := 6) (by kernel_rfl) (hs := []) (by
  intro k xs r h
  unfold s101 at h
  dsimp only at h
  split at h
  · exact ⟨Nat.le_of_ble_eq_true rfl, (v101 k _).trans h⟩
  · cases h)
theorem env10_ok : EnvOk Go.Proofs.Try.prog (envOf env10) := envOf_cons m101 Go.Proofs.Try.func101 (by kernel_rfl) (by kernel_rfl) env9_ok

-- spec.bxFine
def h119 : Hints := [(1003, .lab [(1, .box 32 [.v, .frz 3 (Ty.int IntKind.i64), .frz 3 (Ty.int IntKind.i64)]), (4, .one (.own 3 (Ty.int IntKind.i64))), (5, .one (.own 3 (Ty.int IntKind.i64))), (9, .one (.frz 3 (Ty.int IntKind.i64))), (10, .one (.v)), (11, .one (.v))])]
noncomputable def F119_1003 (k : Nat) (rec1003 : Int → List Int → List Int → List Int → List Int → List Int → Int → Int → Option ((List (Int)) × List (Int))) (bs_0 : Int) (bs_1 : List Int) (bs_2 : List Int) (lows : List Int) (highs : List Int) (t9 : List Int) (t10 : Int) (t11 : Int) : Option ((List (Int)) × List (Int)) :=
  bif decide (t11 < t10) then
    bif boundA t11 (List.length t9) then
      bif decide ((List.length lows + List.length [IntKind.wrap IntKind.i64 (2 * List.getD t9 (Int.toNat t11) 0)]) * 8 ≤ 140737488355328) then
        bif boundA t11 (List.length bs_2) then
          bif decide ((List.length highs + List.length [IntKind.wrap IntKind.i64 (2 * List.getD bs_2 (Int.toNat t11) 0)]) * 8 ≤ 140737488355328) then
            rec1003 bs_0 bs_1 bs_2 (lows ++ [IntKind.wrap IntKind.i64 (2 * List.getD t9 (Int.toNat t11) 0)]) (highs ++ [IntKind.wrap IntKind.i64 (2 * List.getD bs_2 (Int.toNat t11) 0)]) t9 t10 (IntKind.wrap IntKind.i64 (t11 + 1))
          else
            none
        else
          none
      else
        none
    else
      none
  else
    some ((lows, highs))
noncomputable def F119 (k : Nat) (rec1003 : Int → List Int → List Int → List Int → List Int → List Int → Int → Int → Option ((List (Int)) × List (Int))) (b_K : Int) (b_Low : List (Int)) (b_High : List (Int)) : Option ((List (Int)) × List (Int)) :=
  rec1003 b_K b_Low b_High ([]) ([]) b_Low ((↑(List.length b_Low) : Int)) (0)
noncomputable def l119 : Nat → (Int → List Int → List Int → List Int → List Int → List Int → Int → Int → Option ((List (Int)) × List (Int)))
  | 0 => fun _ _ _ _ _ _ _ _ => none
  | k + 1 => F119_1003 k (l119 k)
noncomputable def f119 (k : Nat) (b_K : Int) (b_Low : List (Int)) (b_High : List (Int)) : Option ((List (Int)) × List (Int)) := F119 k (l119 k) b_K b_Low b_High
noncomputable def s119 : Spec := ⟨false, [(.slice 3 (.int .i64), false), (.slice 3 (.int .i64), false)], true, .pair (.slice 3 (.int .i64)) (.slice 3 (.int .i64)), fun k xs => match xs with | [.agg [.int .i64 b_K, .slc 3 (.int .i64) b_Low, .slc 3 (.int .i64) b_High]] => f119 k b_K b_Low b_High | _ => none, false⟩
noncomputable def env11 : List (FuncId × Spec) := (119, s119) :: env10
noncomputable abbrev x119 := exec ti (envOf env10) 33 h119 (finT ti true Go.Proofs.Try.f119.results.toList [(.slice 3 (.int .i64), false), (.slice 3 (.int .i64), false)] (.pair (.slice 3 (.int .i64)) (.slice 3 (.int .i64))))
noncomputable def k119_1003 : List It := stackAt [.r, .r, .l, .r, .b, .lb none] (bodyOf Go.Proofs.Try.f119) []
def t119_1003 (bs_0 : Int) (bs_1 : List Int) (bs_2 : List Int) (lows : List Int) (highs : List Int) (t9 : List Int) (t10 : Int) (t11 : Int) : St := [(2, Cell.val (AVal.ptr 3 0)), (3, Cell.mem true 32 [AVal.int IntKind.i64 bs_0, AVal.slc 3 (Ty.int IntKind.i64) bs_1, AVal.slc 3 (Ty.int IntKind.i64) bs_2]), (8, Cell.val (AVal.ref 5 none)), (5, Cell.row true 3 (Ty.int IntKind.i64) lows), (10, Cell.val (AVal.ref 7 none)), (7, Cell.row true 3 (Ty.int IntKind.i64) highs), (18, Cell.val (AVal.slc 3 (Ty.int IntKind.i64) t9)), (20, Cell.val (AVal.int IntKind.i64 t10)), (22, Cell.val (AVal.int IntKind.i64 t11))]
theorem e119_1003 (k : Nat) (bs_0 : Int) (bs_1 : List Int) (bs_2 : List Int) (lows : List Int) (highs : List Int) (t9 : List Int) (t10 : Int) (t11 : Int) : x119 (k + 1) k119_1003 (t119_1003 bs_0 bs_1 bs_2 lows highs t9 t10 t11) = F119_1003 k (fun (bs_0 : Int) (bs_1 : List Int) (bs_2 : List Int) (lows : List Int) (highs : List Int) (t9 : List Int) (t10 : Int) (t11 : Int) => x119 k k119_1003 (t119_1003 bs_0 bs_1 bs_2 lows highs t9 t10 t11)) bs_0 bs_1 bs_2 lows highs t9 t10 t11 := by kernel_rfl
theorem q119 : ∀ k : Nat, (fun (bs_0 : Int) (bs_1 : List Int) (bs_2 : List Int) (lows : List Int) (highs : List Int) (t9 : List Int) (t10 : Int) (t11 : Int) => x119 k k119_1003 (t119_1003 bs_0 bs_1 bs_2 lows highs t9 t10 t11)) = l119 k
  | 0 => rfl
  | k + 1 => by
    have h := q119 k
    show _ = F119_1003 k (l119 k)
    rw [← h]
    exact (funext fun bs_0 => funext fun bs_1 => funext fun bs_2 => funext fun lows => funext fun highs => funext fun t9 => funext fun t10 => funext fun t11 => e119_1003 k bs_0 bs_1 bs_2 lows highs t9 t10 t11)
theorem w119 (k : Nat) (b_K : Int) (b_Low : List (Int)) (b_High : List (Int)) : runFn ti (envOf env10) 33 h119 (finT ti true Go.Proofs.Try.f119.results.toList [(.slice 3 (.int .i64), false), (.slice 3 (.int .i64), false)] (.pair (.slice 3 (.int .i64)) (.slice 3 (.int .i64)))) k (bodyOf Go.Proofs.Try.f119) (initS 0 [.agg [.int .i64 b_K, .slc 3 (.int .i64) b_Low, .slc 3 (.int .i64) b_High]]) = F119 k (fun (bs_0 : Int) (bs_1 : List Int) (bs_2 : List Int) (lows : List Int) (highs : List Int) (t9 : List Int) (t10 : Int) (t11 : Int) => x119 k k119_1003 (t119_1003 bs_0 bs_1 bs_2 lows highs t9 t10 t11)) b_K b_Low b_High := by kernel_rfl
theorem v119 (k : Nat) (b_K : Int) (b_Low : List (Int)) (b_High : List (Int)) : runFn ti (envOf env10) 33 h119 (finT ti true Go.Proofs.Try.f119.results.toList [(.slice 3 (.int .i64), false), (.slice 3 (.int .i64), false)] (.pair (.slice 3 (.int .i64)) (.slice 3 (.int .i64)))) k (bodyOf Go.Proofs.Try.f119) (initS 0 [.agg [.int .i64 b_K, .slc 3 (.int .i64) b_Low, .slc 3 (.int .i64) b_High]]) = f119 k b_K b_Low b_High := by
  rw [w119]
  have h := q119 k
  unfold f119
  rw [← h]
theorem m119 : Meets Go.Proofs.Try.prog 119 s119 := meets_of_run tiOk env10_ok mo Go.Proofs.Try.func119 (body := bodyOf Go.Proofs.Try.f119) (by kernel_rfl) (N := 33) (by kernel_rfl) (hs := h119) (by
  intro k xs r h
  unfold s119 at h
  dsimp only at h
  split at h
  · exact ⟨Nat.le_of_ble_eq_true rfl, (v119 k _ _ _).trans h⟩
  · cases h)
theorem env11_ok : EnvOk Go.Proofs.Try.prog (envOf env11) := envOf_cons m119 Go.Proofs.Try.func119 (by kernel_rfl) (by kernel_rfl) env10_ok

-- spec.bxEven
def h126 : Hints := [(1002, .lab [(1, .box 32 [.v, .frz 3 (Ty.int IntKind.i64), .frz 3 (Ty.int IntKind.i64)]), (6, .one (.frz 3 (Ty.int IntKind.i64))), (7, .one (.v)), (8, .one (.v))])]
noncomputable def F126_1002 (k : Nat) (rec1002 : Int → List Int → List Int → List Int → Int → Int → Option (Bool)) (bs_0 : Int) (bs_1 : List Int) (bs_2 : List Int) (t6 : List Int) (t7 : Int) (t8 : Int) : Option (Bool) :=
  bif decide (t8 < t7) then
    bif boundA t8 (List.length t6) then
      bif !decide (Int.tmod (List.getD t6 (Int.toNat t8) 0) 2 = 0) then
        some false
      else
        bif boundA t8 (List.length bs_2) then
          bif !decide (Int.tmod (List.getD bs_2 (Int.toNat t8) 0) 2 = 0) then
            some false
          else
            rec1002 bs_0 bs_1 bs_2 t6 t7 (IntKind.wrap IntKind.i64 (t8 + 1))
        else
          none
    else
      none
  else
    some true
noncomputable def F126 (k : Nat) (rec1002 : Int → List Int → List Int → List Int → Int → Int → Option (Bool)) (b_K : Int) (b_Low : List (Int)) (b_High : List (Int)) : Option (Bool) :=
  rec1002 b_K b_Low b_High b_Low ((↑(List.length b_Low) : Int)) (0)
noncomputable def l126 : Nat → (Int → List Int → List Int → List Int → Int → Int → Option (Bool))
  | 0 => fun _ _ _ _ _ _ => none
  | k + 1 => F126_1002 k (l126 k)
noncomputable def f126 (k : Nat) (b_K : Int) (b_Low : List (Int)) (b_High : List (Int)) : Option (Bool) := F126 k (l126 k) b_K b_Low b_High
noncomputable def s126 : Spec := ⟨false, [(.bool, false)], true, .bool, fun k xs => match xs with | [.agg [.int .i64 b_K, .slc 3 (.int .i64) b_Low, .slc 3 (.int .i64) b_High]] => f126 k b_K b_Low b_High | _ => none, false⟩
noncomputable def env12 : List (FuncId × Spec) := (126, s126) :: env11
noncomputable abbrev x126 := exec ti (envOf env11) 26 h126 (finT ti true Go.Proofs.Try.f126.results.toList [(.bool, false)] (.bool))
noncomputable def k126_1002 : List It := stackAt [.r, .l, .r, .b, .lb none] (bodyOf Go.Proofs.Try.f126) []
def t126_1002 (bs_0 : Int) (bs_1 : List Int) (bs_2 : List Int) (t6 : List Int) (t7 : Int) (t8 : Int) : St := [(2, Cell.val (AVal.ptr 3 0)), (3, Cell.mem true 32 [AVal.int IntKind.i64 bs_0, AVal.slc 3 (Ty.int IntKind.i64) bs_1, AVal.slc 3 (Ty.int IntKind.i64) bs_2]), (12, Cell.val (AVal.slc 3 (Ty.int IntKind.i64) t6)), (14, Cell.val (AVal.int IntKind.i64 t7)), (16, Cell.val (AVal.int IntKind.i64 t8))]
theorem e126_1002 (k : Nat) (bs_0 : Int) (bs_1 : List Int) (bs_2 : List Int) (t6 : List Int) (t7 : Int) (t8 : Int) : x126 (k + 1) k126_1002 (t126_1002 bs_0 bs_1 bs_2 t6 t7 t8) = F126_1002 k (fun (bs_0 : Int) (bs_1 : List Int) (bs_2 : List Int) (t6 : List Int) (t7 : Int) (t8 : Int) => x126 k k126_1002 (t126_1002 bs_0 bs_1 bs_2 t6 t7 t8)) bs_0 bs_1 bs_2 t6 t7 t8 := by kernel_rfl
theorem q126 : ∀ k : Nat, (fun (bs_0 : Int) (bs_1 : List Int) (bs_2 : List Int) (t6 : List Int) (t7 : Int) (t8 : Int) => x126 k k126_1002 (t126_1002 bs_0 bs_1 bs_2 t6 t7 t8)) = l126 k
  | 0 => rfl
  | k + 1 => by
    have h := q126 k
    show _ = F126_1002 k (l126 k)
    rw [← h]
    exact (funext fun bs_0 => funext fun bs_1 => funext fun bs_2 => funext fun t6 => funext fun t7 => funext fun t8 => e126_1002 k bs_0 bs_1 bs_2 t6 t7 t8)
theorem w126 (k : Nat) (b_K : Int) (b_Low : List (Int)) (b_High : List (Int)) : runFn ti (envOf env11) 26 h126 (finT ti true Go.Proofs.Try.f126.results.toList [(.bool, false)] (.bool)) k (bodyOf Go.Proofs.Try.f126) (initS 0 [.agg [.int .i64 b_K, .slc 3 (.int .i64) b_Low, .slc 3 (.int .i64) b_High]]) = F126 k (fun (bs_0 : Int) (bs_1 : List Int) (bs_2 : List Int) (t6 : List Int) (t7 : Int) (t8 : Int) => x126 k k126_1002 (t126_1002 bs_0 bs_1 bs_2 t6 t7 t8)) b_K b_Low b_High := by kernel_rfl
theorem v126 (k : Nat) (b_K : Int) (b_Low : List (Int)) (b_High : List (Int)) : runFn ti (envOf env11) 26 h126 (finT ti true Go.Proofs.Try.f126.results.toList [(.bool, false)] (.bool)) k (bodyOf Go.Proofs.Try.f126) (initS 0 [.agg [.int .i64 b_K, .slc 3 (.int .i64) b_Low, .slc 3 (.int .i64) b_High]]) = f126 k b_K b_Low b_High := by
  rw [w126]
  have h := q126 k
  unfold f126
  rw [← h]
theorem m126 : Meets Go.Proofs.Try.prog 126 s126 := meets_of_run tiOk env11_ok mo Go.Proofs.Try.func126 (body := bodyOf Go.Proofs.Try.f126) (by kernel_rfl) (N := 26) (by kernel_rfl) (hs := h126) (by
  intro k xs r h
  unfold s126 at h
  dsimp only at h
  split at h
  · exact ⟨Nat.le_of_ble_eq_true rfl, (v126 k _ _ _).trans h⟩
  · cases h)
theorem env12_ok : EnvOk Go.Proofs.Try.prog (envOf env12) := envOf_cons m126 Go.Proofs.Try.func126 (by kernel_rfl) (by kernel_rfl) env11_ok

end Go.Proofs.YtkahcjnkmbbplaaE
