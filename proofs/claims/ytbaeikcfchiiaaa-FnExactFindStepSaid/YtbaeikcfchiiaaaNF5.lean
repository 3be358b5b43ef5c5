/- Functions, by the engine; printed. -/
import Derived.Test.YtbaeikcfchiiaaaNF4
set_option maxRecDepth 100000
set_option maxHeartbeats 4000000
set_option linter.unusedVariables false
namespace Go.Proofs.YtbaeikcfchiiaaaE
-- impl.isInterval
noncomputable def f129 (k : Nat) (i_Low_N : Int) (i_Low_K : Int) (i_High_N : Int) (i_High_K : Int) : Option (Bool) :=
  (f190 k i_Low_N i_Low_K).bind fun r0 =>
  bif r0 then
    (f190 k i_High_N i_High_K).bind fun r1 =>
    bif r1 then
      (f191 k i_Low_N i_Low_K i_High_N i_High_K).bind fun r2 =>
      some (decide (r2 ≤ 0))
    else
      some false
  else
    some false
noncomputable def s129 : Spec := ⟨false, [(.bool, false)], true, .bool, fun k xs => match xs with | [.agg [.int .i64 i_Low_N, .int .i64 i_Low_K, .int .i64 i_High_N, .int .i64 i_High_K]] => f129 k i_Low_N i_Low_K i_High_N i_High_K | _ => none⟩
noncomputable def env49 : List (FuncId × Spec) := (129, s129) :: env48
theorem v129 (k : Nat) (i_Low_N : Int) (i_Low_K : Int) (i_High_N : Int) (i_High_K : Int) : runFn ti (envOf env48) 19 [] (finT ti true Go.Proofs.Try.f129.results.toList [(.bool, false)] (.bool)) k (bodyOf Go.Proofs.Try.f129) (initS 0 [.agg [.int .i64 i_Low_N, .int .i64 i_Low_K, .int .i64 i_High_N, .int .i64 i_High_K]]) = f129 k i_Low_N i_Low_K i_High_N i_High_K := by kernel_rfl
theorem m129 : Meets Go.Proofs.Try.prog 129 s129 := meets_of_run tiOk env48_ok mo Go.Proofs.Try.func129 (body := bodyOf Go.Proofs.Try.f129) (by kernel_rfl) (N := 19) (by kernel_rfl) (hs := []) (by
  intro k xs r h
  unfold s129 at h
  dsimp only at h
  split at h
  · exact ⟨Nat.le_of_ble_eq_true rfl, (v129 k _ _ _ _).trans h⟩
  · cases h)
theorem env49_ok : EnvOk Go.Proofs.Try.prog (envOf env49) := envOf_cons m129 Go.Proofs.Try.func129 (by kernel_rfl) (by kernel_rfl) env48_ok

-- impl.integer
noncomputable def f178 (k : Nat) (n : Int) : Option (Int × Int) :=
  some ((n, 0))
noncomputable def s178 : Spec := ⟨false, [(.pair (.int .i64) (.int .i64), true)], true, .pair (.int .i64) (.int .i64), fun k xs => match xs with | [.int .i64 n] => f178 k n | _ => none⟩
noncomputable def env50 : List (FuncId × Spec) := (178, s178) :: env49
theorem v178 (k : Nat) (n : Int) : runFn ti (envOf env49) 5 [] (finT ti true Go.Proofs.Try.f178.results.toList [(.pair (.int .i64) (.int .i64), true)] (.pair (.int .i64) (.int .i64))) k (bodyOf Go.Proofs.Try.f178) (initS 0 [.int .i64 n]) = f178 k n := by kernel_rfl
theorem m178 : Meets Go.Proofs.Try.prog 178 s178 := meets_of_run tiOk env49_ok mo Go.Proofs.Try.func178 (body := bodyOf Go.Proofs.Try.f178) (by kernel_rfl) (N := 5) (by kernel_rfl) (hs := []) (by
  intro k xs r h
  unfold s178 at h
  dsimp only at h
  split at h
  · exact ⟨Nat.le_of_ble_eq_true rfl, (v178 k _).trans h⟩
  · cases h)
theorem env50_ok : EnvOk Go.Proofs.Try.prog (envOf env50) := envOf_cons m178 Go.Proofs.Try.func178 (by kernel_rfl) (by kernel_rfl) env49_ok

-- impl.inRange
noncomputable def f130 (k : Nat) (a_N : Int) (a_K : Int) : Option (Bool) :=
  (f191 k (-8) 0 a_N a_K).bind fun r0 =>
  bif decide (r0 ≤ 0) then
    (f191 k a_N a_K 8 0).bind fun r1 =>
    some (decide (r1 ≤ 0))
  else
    some false
noncomputable def s130 : Spec := ⟨false, [(.bool, false)], true, .bool, fun k xs => match xs with | [.agg [.int .i64 a_N, .int .i64 a_K]] => f130 k a_N a_K | _ => none⟩
noncomputable def env51 : List (FuncId × Spec) := (130, s130) :: env50
theorem v130 (k : Nat) (a_N : Int) (a_K : Int) : runFn ti (envOf env50) 13 [] (finT ti true Go.Proofs.Try.f130.results.toList [(.bool, false)] (.bool)) k (bodyOf Go.Proofs.Try.f130) (initS 0 [.agg [.int .i64 a_N, .int .i64 a_K]]) = f130 k a_N a_K := by kernel_rfl
theorem m130 : Meets Go.Proofs.Try.prog 130 s130 := meets_of_run tiOk env50_ok mo Go.Proofs.Try.func130 (body := bodyOf Go.Proofs.Try.f130) (by kernel_rfl) (N := 13) (by kernel_rfl) (hs := []) (by
  intro k xs r h
  unfold s130 at h
  dsimp only at h
  split at h
  · exact ⟨Nat.le_of_ble_eq_true rfl, (v130 k _ _).trans h⟩
  · cases h)
theorem env51_ok : EnvOk Go.Proofs.Try.prog (envOf env51) := envOf_cons m130 Go.Proofs.Try.func130 (by kernel_rfl) (by kernel_rfl) env50_ok

-- impl.isFit
noncomputable def f74 (k : Nat) (i_Low_N : Int) (i_Low_K : Int) (i_High_N : Int) (i_High_K : Int) : Option (Bool) :=
  (f129 k i_Low_N i_Low_K i_High_N i_High_K).bind fun r0 =>
  bif r0 then
    (f130 k i_Low_N i_Low_K).bind fun r1 =>
    bif r1 then
      (f130 k i_High_N i_High_K).bind fun r2 =>
      bif r2 then
        bif decide (i_Low_K ≤ 5) then
          bif decide (i_High_K ≤ 5) then
            some (!(decide (i_Low_N = i_High_N) && (decide (i_Low_K = i_High_K) && true)))
          else
            some false
        else
          some false
      else
        some false
    else
      some false
  else
    some false
noncomputable def s74 : Spec := ⟨false, [(.bool, false)], true, .bool, fun k xs => match xs with | [.agg [.int .i64 i_Low_N, .int .i64 i_Low_K, .int .i64 i_High_N, .int .i64 i_High_K]] => f74 k i_Low_N i_Low_K i_High_N i_High_K | _ => none⟩
noncomputable def env52 : List (FuncId × Spec) := (74, s74) :: env51
theorem v74 (k : Nat) (i_Low_N : Int) (i_Low_K : Int) (i_High_N : Int) (i_High_K : Int) : runFn ti (envOf env51) 34 [] (finT ti true Go.Proofs.Try.f74.results.toList [(.bool, false)] (.bool)) k (bodyOf Go.Proofs.Try.f74) (initS 0 [.agg [.int .i64 i_Low_N, .int .i64 i_Low_K, .int .i64 i_High_N, .int .i64 i_High_K]]) = f74 k i_Low_N i_Low_K i_High_N i_High_K := by kernel_rfl
theorem m74 : Meets Go.Proofs.Try.prog 74 s74 := meets_of_run tiOk env51_ok mo Go.Proofs.Try.func74 (body := bodyOf Go.Proofs.Try.f74) (by kernel_rfl) (N := 34) (by kernel_rfl) (hs := []) (by
  intro k xs r h
  unfold s74 at h
  dsimp only at h
  split at h
  · exact ⟨Nat.le_of_ble_eq_true rfl, (v74 k _ _ _ _).trans h⟩
  · cases h)
theorem env52_ok : EnvOk Go.Proofs.Try.prog (envOf env52) := envOf_cons m74 Go.Proofs.Try.func74 (by kernel_rfl) (by kernel_rfl) env51_ok

-- impl.isMoment
noncomputable def f75 (k : Nat) (i : Int) (fine : Int) : Option (Bool) :=
  bif !decide (fine < 0) then
    (f128 k i 0 (IntKind.wrap IntKind.i64 (1 * 2 ^ min (Int.toNat fine) (IntKind.bits IntKind.i64)))).bind fun r0 =>
    some r0
  else
    none
noncomputable def s75 : Spec := ⟨false, [(.bool, false)], true, .bool, fun k xs => match xs with | [.int .i64 i, .int .i64 fine] => f75 k i fine | _ => none⟩
noncomputable def env53 : List (FuncId × Spec) := (75, s75) :: env52
theorem v75 (k : Nat) (i : Int) (fine : Int) : runFn ti (envOf env52) 9 [] (finT ti true Go.Proofs.Try.f75.results.toList [(.bool, false)] (.bool)) k (bodyOf Go.Proofs.Try.f75) (initS 0 [.int .i64 i, .int .i64 fine]) = f75 k i fine := by kernel_rfl
theorem m75 : Meets Go.Proofs.Try.prog 75 s75 := meets_of_run tiOk env52_ok mo Go.Proofs.Try.func75 (body := bodyOf Go.Proofs.Try.f75) (by kernel_rfl) (N := 9) (by kernel_rfl) (hs := []) (by
  intro k xs r h
  unfold s75 at h
  dsimp only at h
  split at h
  · exact ⟨Nat.le_of_ble_eq_true rfl, (v75 k _ _).trans h⟩
  · cases h)
theorem env53_ok : EnvOk Go.Proofs.Try.prog (envOf env53) := envOf_cons m75 Go.Proofs.Try.func75 (by kernel_rfl) (by kernel_rfl) env52_ok

-- impl.long).times
def h192 : Hints := [(1004, .lab [(1, .one (.v)), (4, .box 193 [.v, .v]), (5, .box 193 [.v, .own 224 (Ty.int IntKind.u32)]), (6, .one (.v)), (16, .one (.frz 224 (Ty.int IntKind.u32))), (17, .one (.v)), (18, .one (.v))])]
noncomputable def F192_1004 (k : Nat) (rec1004 : Int → Bool → Bool → List Int → Int → List Int → Int → Int → Option (Bool × List (Int))) (n : Int) (t4s_0 : Bool) (outs_0 : Bool) (outs : List Int) (carry : Int) (t16 : List Int) (t17 : Int) (t18 : Int) : Option (Bool × List (Int)) :=
  bif decide (t18 < t17) then
    bif boundA t18 (List.length t16) then
      (f234 k n).bind fun r0 =>
      bif decide ((List.length outs + List.length [IntKind.wrap IntKind.u32 (IntKind.wrap IntKind.u64 (carry + IntKind.wrap IntKind.u64 (IntKind.wrap IntKind.u64 (List.getD t16 (Int.toNat t18) 0) * r0)))]) * 4 ≤ 140737488355328) then
        rec1004 n t4s_0 outs_0 (outs ++ [IntKind.wrap IntKind.u32 (IntKind.wrap IntKind.u64 (carry + IntKind.wrap IntKind.u64 (IntKind.wrap IntKind.u64 (List.getD t16 (Int.toNat t18) 0) * r0)))]) (Int.fdiv (IntKind.wrap IntKind.u64 (carry + IntKind.wrap IntKind.u64 (IntKind.wrap IntKind.u64 (List.getD t16 (Int.toNat t18) 0) * r0))) (2 ^ min (Int.toNat 32) (IntKind.bits IntKind.u64))) t16 t17 (IntKind.wrap IntKind.i64 (t18 + 1))
      else
        none
    else
      none
  else
    bif decide ((List.length outs + List.length [IntKind.wrap IntKind.u32 carry]) * 4 ≤ 140737488355328) then
      some ((outs_0, outs ++ [IntKind.wrap IntKind.u32 carry]))
    else
      none
noncomputable def F192 (k : Nat) (rec1004 : Int → Bool → Bool → List Int → Int → List Int → Int → Int → Option (Bool × List (Int))) (a_negative : Bool) (a_digits : List (Int)) (n : Int) : Option (Bool × List (Int)) :=
  rec1004 n false (!a_negative == decide (n < 0)) ([]) (0) a_digits ((↑(List.length a_digits) : Int)) (0)
noncomputable def l192 : Nat → (Int → Bool → Bool → List Int → Int → List Int → Int → Int → Option (Bool × List (Int)))
  | 0 => fun _ _ _ _ _ _ _ _ => none
  | k + 1 => F192_1004 k (l192 k)
noncomputable def f192 (k : Nat) (a_negative : Bool) (a_digits : List (Int)) (n : Int) : Option (Bool × List (Int)) := F192 k (l192 k) a_negative a_digits n
noncomputable def s192 : Spec := ⟨false, [(.pair (.bool) (.slice 224 (.int .u32)), true)], true, .pair (.bool) (.slice 224 (.int .u32)), fun k xs => match xs with | [.agg [.bool a_negative, .slc 224 (.int .u32) a_digits], .int .i64 n] => f192 k a_negative a_digits n | _ => none⟩
noncomputable def env54 : List (FuncId × Spec) := (192, s192) :: env53
noncomputable abbrev x192 := exec ti (envOf env53) 47 h192 (finT ti true Go.Proofs.Try.f192.results.toList [(.pair (.bool) (.slice 224 (.int .u32)), true)] (.pair (.bool) (.slice 224 (.int .u32))))
noncomputable def k192_1004 : List It := stackAt [.r, .r, .r, .l, .r, .b, .lb none] (bodyOf Go.Proofs.Try.f192) []
def t192_1004 (n : Int) (t4s_0 : Bool) (outs_0 : Bool) (outs : List Int) (carry : Int) (t16 : List Int) (t17 : Int) (t18 : Int) : St := [(2, Cell.val (AVal.int IntKind.i64 n)), (8, Cell.val (AVal.ptr 3 0)), (3, Cell.mem true 193 [AVal.bool t4s_0, AVal.nilslc]), (10, Cell.val (AVal.ptr 5 0)), (5, Cell.mem true 193 [AVal.bool outs_0, AVal.ref 7 none]), (7, Cell.row true 224 (Ty.int IntKind.u32) outs), (12, Cell.val (AVal.int IntKind.u64 carry)), (32, Cell.val (AVal.slc 224 (Ty.int IntKind.u32) t16)), (34, Cell.val (AVal.int IntKind.i64 t17)), (36, Cell.val (AVal.int IntKind.i64 t18))]
theorem e192_1004 (k : Nat) (n : Int) (t4s_0 : Bool) (outs_0 : Bool) (outs : List Int) (carry : Int) (t16 : List Int) (t17 : Int) (t18 : Int) : x192 (k + 1) k192_1004 (t192_1004 n t4s_0 outs_0 outs carry t16 t17 t18) = F192_1004 k (fun (n : Int) (t4s_0 : Bool) (outs_0 : Bool) (outs : List Int) (carry : Int) (t16 : List Int) (t17 : Int) (t18 : Int) => x192 k k192_1004 (t192_1004 n t4s_0 outs_0 outs carry t16 t17 t18)) n t4s_0 outs_0 outs carry t16 t17 t18 := by kernel_rfl
theorem q192 : ∀ k : Nat, (fun (n : Int) (t4s_0 : Bool) (outs_0 : Bool) (outs : List Int) (carry : Int) (t16 : List Int) (t17 : Int) (t18 : Int) => x192 k k192_1004 (t192_1004 n t4s_0 outs_0 outs carry t16 t17 t18)) = l192 k
  | 0 => rfl
  | k + 1 => by
    have h := q192 k
    show _ = F192_1004 k (l192 k)
    rw [← h]
    exact (funext fun n => funext fun t4s_0 => funext fun outs_0 => funext fun outs => funext fun carry => funext fun t16 => funext fun t17 => funext fun t18 => e192_1004 k n t4s_0 outs_0 outs carry t16 t17 t18)
theorem w192 (k : Nat) (a_negative : Bool) (a_digits : List (Int)) (n : Int) : runFn ti (envOf env53) 47 h192 (finT ti true Go.Proofs.Try.f192.results.toList [(.pair (.bool) (.slice 224 (.int .u32)), true)] (.pair (.bool) (.slice 224 (.int .u32)))) k (bodyOf Go.Proofs.Try.f192) (initS 0 [.agg [.bool a_negative, .slc 224 (.int .u32) a_digits], .int .i64 n]) = F192 k (fun (n : Int) (t4s_0 : Bool) (outs_0 : Bool) (outs : List Int) (carry : Int) (t16 : List Int) (t17 : Int) (t18 : Int) => x192 k k192_1004 (t192_1004 n t4s_0 outs_0 outs carry t16 t17 t18)) a_negative a_digits n := by kernel_rfl
theorem v192 (k : Nat) (a_negative : Bool) (a_digits : List (Int)) (n : Int) : runFn ti (envOf env53) 47 h192 (finT ti true Go.Proofs.Try.f192.results.toList [(.pair (.bool) (.slice 224 (.int .u32)), true)] (.pair (.bool) (.slice 224 (.int .u32)))) k (bodyOf Go.Proofs.Try.f192) (initS 0 [.agg [.bool a_negative, .slc 224 (.int .u32) a_digits], .int .i64 n]) = f192 k a_negative a_digits n := by
  rw [w192]
  have h := q192 k
  unfold f192
  rw [← h]
theorem m192 : Meets Go.Proofs.Try.prog 192 s192 := meets_of_run tiOk env53_ok mo Go.Proofs.Try.func192 (body := bodyOf Go.Proofs.Try.f192) (by kernel_rfl) (N := 47) (by kernel_rfl) (hs := h192) (by
  intro k xs r h
  unfold s192 at h
  dsimp only at h
  split at h
  · exact ⟨Nat.le_of_ble_eq_true rfl, (v192 k _ _ _).trans h⟩
  · cases h)
theorem env54_ok : EnvOk Go.Proofs.Try.prog (envOf env54) := envOf_cons m192 Go.Proofs.Try.func192 (by kernel_rfl) (by kernel_rfl) env53_ok

-- impl.long).digit
noncomputable def f242 (k : Nat) (a_negative : Bool) (a_digits : List (Int)) (i : Int) : Option (Int) :=
  bif decide (i < (↑(List.length a_digits) : Int)) then
    bif boundA i (List.length a_digits) then
      some (List.getD a_digits (Int.toNat i) 0)
    else
      none
  else
    some (0)
noncomputable def s242 : Spec := ⟨false, [(.int .u32, false)], true, .int .u32, fun k xs => match xs with | [.agg [.bool a_negative, .slc 224 (.int .u32) a_digits], .int .i64 i] => f242 k a_negative a_digits i | _ => none⟩
noncomputable def env55 : List (FuncId × Spec) := (242, s242) :: env54
theorem v242 (k : Nat) (a_negative : Bool) (a_digits : List (Int)) (i : Int) : runFn ti (envOf env54) 15 [] (finT ti true Go.Proofs.Try.f242.results.toList [(.int .u32, false)] (.int .u32)) k (bodyOf Go.Proofs.Try.f242) (initS 0 [.agg [.bool a_negative, .slc 224 (.int .u32) a_digits], .int .i64 i]) = f242 k a_negative a_digits i := by kernel_rfl
theorem m242 : Meets Go.Proofs.Try.prog 242 s242 := meets_of_run tiOk env54_ok mo Go.Proofs.Try.func242 (body := bodyOf Go.Proofs.Try.f242) (by kernel_rfl) (N := 15) (by kernel_rfl) (hs := []) (by
  intro k xs r h
  unfold s242 at h
  dsimp only at h
  split at h
  · exact ⟨Nat.le_of_ble_eq_true rfl, (v242 k _ _ _).trans h⟩
  · cases h)
theorem env55_ok : EnvOk Go.Proofs.Try.prog (envOf env55) := envOf_cons m242 Go.Proofs.Try.func242 (by kernel_rfl) (by kernel_rfl) env54_ok

-- cmp.isNaN[uint32]
noncomputable def f286 (k : Nat) (x : Int) : Option (Bool) :=
  some (!decide (x = x))
noncomputable def s286 : Spec := ⟨false, [(.bool, false)], true, .bool, fun k xs => match xs with | [.int .u32 x] => f286 k x | _ => none⟩
noncomputable def env56 : List (FuncId × Spec) := (286, s286) :: env55
theorem v286 (k : Nat) (x : Int) : runFn ti (envOf env55) 6 [] (finT ti true Go.Proofs.Try.f286.results.toList [(.bool, false)] (.bool)) k (bodyOf Go.Proofs.Try.f286) (initS 0 [.int .u32 x]) = f286 k x := by kernel_rfl
theorem m286 : Meets Go.Proofs.Try.prog 286 s286 := meets_of_run tiOk env55_ok mo Go.Proofs.Try.func286 (body := bodyOf Go.Proofs.Try.f286) (by kernel_rfl) (N := 6) (by kernel_rfl) (hs := []) (by
  intro k xs r h
  unfold s286 at h
  dsimp only at h
  split at h
  · exact ⟨Nat.le_of_ble_eq_true rfl, (v286 k _).trans h⟩
  · cases h)
theorem env56_ok : EnvOk Go.Proofs.Try.prog (envOf env56) := envOf_cons m286 Go.Proofs.Try.func286 (by kernel_rfl) (by kernel_rfl) env55_ok

-- cmp.Compare[uint32]
noncomputable def f273 (k : Nat) (x : Int) (y : Int) : Option (Int) :=
  bif !decide (x = x) then
    bif !decide (y = y) then
      some (0)
    else
      some (-1)
  else
    bif !decide (y = y) then
      some (1)
    else
      bif decide (x < y) then
        some (-1)
      else
        bif decide (y < x) then
          some (1)
        else
          some (0)
noncomputable def s273 : Spec := ⟨false, [(.int .i64, false)], true, .int .i64, fun k xs => match xs with | [.int .u32 x, .int .u32 y] => f273 k x y | _ => none⟩
noncomputable def env57 : List (FuncId × Spec) := (273, s273) :: env56
theorem v273 (k : Nat) (x : Int) (y : Int) : runFn ti (envOf env56) 20 [] (finT ti true Go.Proofs.Try.f273.results.toList [(.int .i64, false)] (.int .i64)) k (bodyOf Go.Proofs.Try.f273) (initS 0 [.int .u32 x, .int .u32 y]) = f273 k x y := by kernel_rfl
theorem m273 : Meets Go.Proofs.Try.prog 273 s273 := meets_of_run tiOk env56_ok mo Go.Proofs.Try.func273 (body := bodyOf Go.Proofs.Try.f273) (by kernel_rfl) (N := 20) (by kernel_rfl) (hs := []) (by
  intro k xs r h
  unfold s273 at h
  dsimp only at h
  split at h
  · exact ⟨Nat.le_of_ble_eq_true rfl, (v273 k _ _).trans h⟩
  · cases h)
theorem env57_ok : EnvOk Go.Proofs.Try.prog (envOf env57) := envOf_cons m273 Go.Proofs.Try.func273 (by kernel_rfl) (by kernel_rfl) env56_ok

-- impl.compareDigits
def h241 : Hints := [(1002, .lab [(2, .box 193 [.v, .frz 224 (Ty.int IntKind.u32)]), (3, .box 193 [.v, .frz 224 (Ty.int IntKind.u32)]), (5, .one (.v))])]
noncomputable def F241_1002 (k : Nat) (rec1002 : Bool → List Int → Bool → List Int → Int → Option (Int)) (as_0 : Bool) (as_1 : List Int) (bs_0 : Bool) (bs_1 : List Int) (i : Int) : Option (Int) :=
  bif decide (0 ≤ i) then
    (f242 k as_0 as_1 i).bind fun r0 =>
    (f242 k bs_0 bs_1 i).bind fun r1 =>
    (f273 k r0 r1).bind fun r2 =>
    bif !decide (r2 = 0) then
      some r2
    else
      rec1002 as_0 as_1 bs_0 bs_1 (IntKind.wrap IntKind.i64 (i - 1))
  else
    some (0)
noncomputable def F241 (k : Nat) (rec1002 : Bool → List Int → Bool → List Int → Int → Option (Int)) (a_negative : Bool) (a_digits : List (Int)) (b_negative : Bool) (b_digits : List (Int)) : Option (Int) :=
  rec1002 a_negative a_digits b_negative b_digits (IntKind.wrap IntKind.i64 ((bif decide ((↑(List.length a_digits) : Int) < (↑(List.length b_digits) : Int)) then (↑(List.length b_digits) : Int) else (↑(List.length a_digits) : Int)) - 1))
noncomputable def l241 : Nat → (Bool → List Int → Bool → List Int → Int → Option (Int))
  | 0 => fun _ _ _ _ _ => none
  | k + 1 => F241_1002 k (l241 k)
noncomputable def f241 (k : Nat) (a_negative : Bool) (a_digits : List (Int)) (b_negative : Bool) (b_digits : List (Int)) : Option (Int) := F241 k (l241 k) a_negative a_digits b_negative b_digits
noncomputable def s241 : Spec := ⟨false, [(.int .i64, false)], true, .int .i64, fun k xs => match xs with | [.agg [.bool a_negative, .slc 224 (.int .u32) a_digits], .agg [.bool b_negative, .slc 224 (.int .u32) b_digits]] => f241 k a_negative a_digits b_negative b_digits | _ => none⟩
noncomputable def env58 : List (FuncId × Spec) := (241, s241) :: env57
noncomputable abbrev x241 := exec ti (envOf env57) 29 h241 (finT ti true Go.Proofs.Try.f241.results.toList [(.int .i64, false)] (.int .i64))
noncomputable def k241_1002 : List It := stackAt [.r, .l, .r, .b, .lb none] (bodyOf Go.Proofs.Try.f241) []
def t241_1002 (as_0 : Bool) (as_1 : List Int) (bs_0 : Bool) (bs_1 : List Int) (i : Int) : St := [(4, Cell.val (AVal.ptr 3 0)), (3, Cell.mem true 193 [AVal.bool as_0, AVal.slc 224 (Ty.int IntKind.u32) as_1]), (6, Cell.val (AVal.ptr 5 0)), (5, Cell.mem true 193 [AVal.bool bs_0, AVal.slc 224 (Ty.int IntKind.u32) bs_1]), (10, Cell.val (AVal.int IntKind.i64 i))]
theorem e241_1002 (k : Nat) (as_0 : Bool) (as_1 : List Int) (bs_0 : Bool) (bs_1 : List Int) (i : Int) : x241 (k + 1) k241_1002 (t241_1002 as_0 as_1 bs_0 bs_1 i) = F241_1002 k (fun (as_0 : Bool) (as_1 : List Int) (bs_0 : Bool) (bs_1 : List Int) (i : Int) => x241 k k241_1002 (t241_1002 as_0 as_1 bs_0 bs_1 i)) as_0 as_1 bs_0 bs_1 i := by kernel_rfl
theorem q241 : ∀ k : Nat, (fun (as_0 : Bool) (as_1 : List Int) (bs_0 : Bool) (bs_1 : List Int) (i : Int) => x241 k k241_1002 (t241_1002 as_0 as_1 bs_0 bs_1 i)) = l241 k
  | 0 => rfl
  | k + 1 => by
    have h := q241 k
    show _ = F241_1002 k (l241 k)
    rw [← h]
    exact (funext fun as_0 => funext fun as_1 => funext fun bs_0 => funext fun bs_1 => funext fun i => e241_1002 k as_0 as_1 bs_0 bs_1 i)
theorem w241 (k : Nat) (a_negative : Bool) (a_digits : List (Int)) (b_negative : Bool) (b_digits : List (Int)) : runFn ti (envOf env57) 29 h241 (finT ti true Go.Proofs.Try.f241.results.toList [(.int .i64, false)] (.int .i64)) k (bodyOf Go.Proofs.Try.f241) (initS 0 [.agg [.bool a_negative, .slc 224 (.int .u32) a_digits], .agg [.bool b_negative, .slc 224 (.int .u32) b_digits]]) = F241 k (fun (as_0 : Bool) (as_1 : List Int) (bs_0 : Bool) (bs_1 : List Int) (i : Int) => x241 k k241_1002 (t241_1002 as_0 as_1 bs_0 bs_1 i)) a_negative a_digits b_negative b_digits := by kernel_rfl
theorem v241 (k : Nat) (a_negative : Bool) (a_digits : List (Int)) (b_negative : Bool) (b_digits : List (Int)) : runFn ti (envOf env57) 29 h241 (finT ti true Go.Proofs.Try.f241.results.toList [(.int .i64, false)] (.int .i64)) k (bodyOf Go.Proofs.Try.f241) (initS 0 [.agg [.bool a_negative, .slc 224 (.int .u32) a_digits], .agg [.bool b_negative, .slc 224 (.int .u32) b_digits]]) = f241 k a_negative a_digits b_negative b_digits := by
  rw [w241]
  have h := q241 k
  unfold f241
  rw [← h]
theorem m241 : Meets Go.Proofs.Try.prog 241 s241 := meets_of_run tiOk env57_ok mo Go.Proofs.Try.func241 (body := bodyOf Go.Proofs.Try.f241) (by kernel_rfl) (N := 29) (by kernel_rfl) (hs := h241) (by
  intro k xs r h
  unfold s241 at h
  dsimp only at h
  split at h
  · exact ⟨Nat.le_of_ble_eq_true rfl, (v241 k _ _ _ _).trans h⟩
  · cases h)
theorem env58_ok : EnvOk Go.Proofs.Try.prog (envOf env58) := envOf_cons m241 Go.Proofs.Try.func241 (by kernel_rfl) (by kernel_rfl) env57_ok

-- impl.long).plus
def h193 : Hints := [(1006, .lab [(2, .box 193 [.v, .frz 224 (Ty.int IntKind.u32)]), (3, .box 193 [.v, .frz 224 (Ty.int IntKind.u32)]), (4, .box 193 [.v, .v]), (5, .box 193 [.v, .own 224 (Ty.int IntKind.u32)]), (6, .one (.v)), (21, .one (.v)), (22, .one (.v))]), (3, .lab [(2, .box 193 [.v, .frz 224 (Ty.int IntKind.u32)]), (3, .box 193 [.v, .frz 224 (Ty.int IntKind.u32)]), (4, .box 193 [.v, .v])])]
noncomputable def F193_1006 (k : Nat) (rec1006 : Bool → List Int → Bool → List Int → Bool → Bool → List Int → Int → Int → Int → Option (Bool × List (Int))) (rec3 : Bool → List Int → Bool → List Int → Bool → Option (Bool × List (Int))) (as_0 : Bool) (as_1 : List Int) (bs_0 : Bool) (bs_1 : List Int) (t4s_0 : Bool) (outs_0 : Bool) (outs : List Int) (carry : Int) (t21 : Int) (t22 : Int) : Option (Bool × List (Int)) :=
  bif decide (t22 < t21) then
    (f242 k as_0 as_1 t22).bind fun r0 =>
    bif as_0 == bs_0 then
      (f242 k bs_0 bs_1 t22).bind fun r1 =>
      bif decide ((List.length outs + List.length [IntKind.wrap IntKind.u32 (IntKind.wrap IntKind.i64 (IntKind.wrap IntKind.i64 (carry + IntKind.wrap IntKind.i64 r0) + IntKind.wrap IntKind.i64 r1))]) * 4 ≤ 140737488355328) then
        rec1006 as_0 as_1 bs_0 bs_1 t4s_0 outs_0 (outs ++ [IntKind.wrap IntKind.u32 (IntKind.wrap IntKind.i64 (IntKind.wrap IntKind.i64 (carry + IntKind.wrap IntKind.i64 r0) + IntKind.wrap IntKind.i64 r1))]) (Int.fdiv (IntKind.wrap IntKind.i64 (IntKind.wrap IntKind.i64 (carry + IntKind.wrap IntKind.i64 r0) + IntKind.wrap IntKind.i64 r1)) (2 ^ min (Int.toNat 32) (IntKind.bits IntKind.i64))) t21 (IntKind.wrap IntKind.i64 (t22 + 1))
      else
        none
    else
      (f242 k bs_0 bs_1 t22).bind fun r2 =>
      bif decide ((List.length outs + List.length [IntKind.wrap IntKind.u32 (IntKind.wrap IntKind.i64 (IntKind.wrap IntKind.i64 (carry + IntKind.wrap IntKind.i64 r0) - IntKind.wrap IntKind.i64 r2))]) * 4 ≤ 140737488355328) then
        rec1006 as_0 as_1 bs_0 bs_1 t4s_0 outs_0 (outs ++ [IntKind.wrap IntKind.u32 (IntKind.wrap IntKind.i64 (IntKind.wrap IntKind.i64 (carry + IntKind.wrap IntKind.i64 r0) - IntKind.wrap IntKind.i64 r2))]) (Int.fdiv (IntKind.wrap IntKind.i64 (IntKind.wrap IntKind.i64 (carry + IntKind.wrap IntKind.i64 r0) - IntKind.wrap IntKind.i64 r2)) (2 ^ min (Int.toNat 32) (IntKind.bits IntKind.i64))) t21 (IntKind.wrap IntKind.i64 (t22 + 1))
      else
        none
  else
    some ((outs_0, outs))
noncomputable def F193_3 (k : Nat) (rec1006 : Bool → List Int → Bool → List Int → Bool → Bool → List Int → Int → Int → Int → Option (Bool × List (Int))) (rec3 : Bool → List Int → Bool → List Int → Bool → Option (Bool × List (Int))) (as_0 : Bool) (as_1 : List Int) (bs_0 : Bool) (bs_1 : List Int) (t4s_0 : Bool) : Option (Bool × List (Int)) :=
  rec1006 as_0 as_1 bs_0 bs_1 t4s_0 as_0 ([]) (0) (IntKind.wrap IntKind.i64 ((↑(List.length as_1) : Int) + 1)) (0)
noncomputable def F193 (k : Nat) (rec1006 : Bool → List Int → Bool → List Int → Bool → Bool → List Int → Int → Int → Int → Option (Bool × List (Int))) (rec3 : Bool → List Int → Bool → List Int → Bool → Option (Bool × List (Int))) (a_negative : Bool) (a_digits : List (Int)) (b_negative : Bool) (b_digits : List (Int)) : Option (Bool × List (Int)) :=
  (f241 k a_negative a_digits b_negative b_digits).bind fun r0 =>
  bif decide (r0 < 0) then
    rec3 b_negative b_digits a_negative a_digits false
  else
    rec3 a_negative a_digits b_negative b_digits false
noncomputable def l193 : Nat → (Bool → List Int → Bool → List Int → Bool → Bool → List Int → Int → Int → Int → Option (Bool × List (Int))) × (Bool → List Int → Bool → List Int → Bool → Option (Bool × List (Int)))
  | 0 => (fun _ _ _ _ _ _ _ _ _ _ => none, fun _ _ _ _ _ => none)
  | k + 1 => (F193_1006 k ((l193 k).1) ((l193 k).2), F193_3 k ((l193 k).1) ((l193 k).2))
noncomputable def f193 (k : Nat) (a_negative : Bool) (a_digits : List (Int)) (b_negative : Bool) (b_digits : List (Int)) : Option (Bool × List (Int)) := F193 k ((l193 k).1) ((l193 k).2) a_negative a_digits b_negative b_digits
noncomputable def s193 : Spec := ⟨false, [(.pair (.bool) (.slice 224 (.int .u32)), true)], true, .pair (.bool) (.slice 224 (.int .u32)), fun k xs => match xs with | [.agg [.bool a_negative, .slc 224 (.int .u32) a_digits], .agg [.bool b_negative, .slc 224 (.int .u32) b_digits]] => f193 k a_negative a_digits b_negative b_digits | _ => none⟩
noncomputable def env59 : List (FuncId × Spec) := (193, s193) :: env58
noncomputable abbrev x193 := exec ti (envOf env58) 59 h193 (finT ti true Go.Proofs.Try.f193.results.toList [(.pair (.bool) (.slice 224 (.int .u32)), true)] (.pair (.bool) (.slice 224 (.int .u32))))
noncomputable def k193_1006 : List It := stackAt [.r, .r, .r, .r, .l, .r, .b, .lb none] (bodyOf Go.Proofs.Try.f193) []
def t193_1006 (as_0 : Bool) (as_1 : List Int) (bs_0 : Bool) (bs_1 : List Int) (t4s_0 : Bool) (outs_0 : Bool) (outs : List Int) (carry : Int) (t21 : Int) (t22 : Int) : St := [(4, Cell.val (AVal.ptr 3 0)), (3, Cell.mem true 193 [AVal.bool as_0, AVal.slc 224 (Ty.int IntKind.u32) as_1]), (6, Cell.val (AVal.ptr 5 0)), (5, Cell.mem true 193 [AVal.bool bs_0, AVal.slc 224 (Ty.int IntKind.u32) bs_1]), (8, Cell.val (AVal.ptr 7 0)), (7, Cell.mem true 193 [AVal.bool t4s_0, AVal.nilslc]), (10, Cell.val (AVal.ptr 9 0)), (9, Cell.mem true 193 [AVal.bool outs_0, AVal.ref 11 none]), (11, Cell.row true 224 (Ty.int IntKind.u32) outs), (12, Cell.val (AVal.int IntKind.i64 carry)), (42, Cell.val (AVal.int IntKind.i64 t21)), (44, Cell.val (AVal.int IntKind.i64 t22))]
noncomputable def k193_3 : List It := stackAt [.r, .r, .l] (bodyOf Go.Proofs.Try.f193) []
def t193_3 (as_0 : Bool) (as_1 : List Int) (bs_0 : Bool) (bs_1 : List Int) (t4s_0 : Bool) : St := [(4, Cell.val (AVal.ptr 3 0)), (3, Cell.mem true 193 [AVal.bool as_0, AVal.slc 224 (Ty.int IntKind.u32) as_1]), (6, Cell.val (AVal.ptr 5 0)), (5, Cell.mem true 193 [AVal.bool bs_0, AVal.slc 224 (Ty.int IntKind.u32) bs_1]), (8, Cell.val (AVal.ptr 7 0)), (7, Cell.mem true 193 [AVal.bool t4s_0, AVal.nilslc])]
theorem e193_1006 (k : Nat) (as_0 : Bool) (as_1 : List Int) (bs_0 : Bool) (bs_1 : List Int) (t4s_0 : Bool) (outs_0 : Bool) (outs : List Int) (carry : Int) (t21 : Int) (t22 : Int) : x193 (k + 1) k193_1006 (t193_1006 as_0 as_1 bs_0 bs_1 t4s_0 outs_0 outs carry t21 t22) = F193_1006 k (fun (as_0 : Bool) (as_1 : List Int) (bs_0 : Bool) (bs_1 : List Int) (t4s_0 : Bool) (outs_0 : Bool) (outs : List Int) (carry : Int) (t21 : Int) (t22 : Int) => x193 k k193_1006 (t193_1006 as_0 as_1 bs_0 bs_1 t4s_0 outs_0 outs carry t21 t22)) (fun (as_0 : Bool) (as_1 : List Int) (bs_0 : Bool) (bs_1 : List Int) (t4s_0 : Bool) => x193 k k193_3 (t193_3 as_0 as_1 bs_0 bs_1 t4s_0)) as_0 as_1 bs_0 bs_1 t4s_0 outs_0 outs carry t21 t22 := by kernel_rfl
theorem e193_3 (k : Nat) (as_0 : Bool) (as_1 : List Int) (bs_0 : Bool) (bs_1 : List Int) (t4s_0 : Bool) : x193 (k + 1) k193_3 (t193_3 as_0 as_1 bs_0 bs_1 t4s_0) = F193_3 k (fun (as_0 : Bool) (as_1 : List Int) (bs_0 : Bool) (bs_1 : List Int) (t4s_0 : Bool) (outs_0 : Bool) (outs : List Int) (carry : Int) (t21 : Int) (t22 : Int) => x193 k k193_1006 (t193_1006 as_0 as_1 bs_0 bs_1 t4s_0 outs_0 outs carry t21 t22)) (fun (as_0 : Bool) (as_1 : List Int) (bs_0 : Bool) (bs_1 : List Int) (t4s_0 : Bool) => x193 k k193_3 (t193_3 as_0 as_1 bs_0 bs_1 t4s_0)) as_0 as_1 bs_0 bs_1 t4s_0 := by kernel_rfl
theorem q193 : ∀ k : Nat, ((fun (as_0 : Bool) (as_1 : List Int) (bs_0 : Bool) (bs_1 : List Int) (t4s_0 : Bool) (outs_0 : Bool) (outs : List Int) (carry : Int) (t21 : Int) (t22 : Int) => x193 k k193_1006 (t193_1006 as_0 as_1 bs_0 bs_1 t4s_0 outs_0 outs carry t21 t22)), (fun (as_0 : Bool) (as_1 : List Int) (bs_0 : Bool) (bs_1 : List Int) (t4s_0 : Bool) => x193 k k193_3 (t193_3 as_0 as_1 bs_0 bs_1 t4s_0))) = l193 k
  | 0 => rfl
  | k + 1 => by
    have h := q193 k
    show _ = (F193_1006 k ((l193 k).1) ((l193 k).2), F193_3 k ((l193 k).1) ((l193 k).2))
    rw [← h]
    exact (Prod.ext (funext fun as_0 => funext fun as_1 => funext fun bs_0 => funext fun bs_1 => funext fun t4s_0 => funext fun outs_0 => funext fun outs => funext fun carry => funext fun t21 => funext fun t22 => e193_1006 k as_0 as_1 bs_0 bs_1 t4s_0 outs_0 outs carry t21 t22) (funext fun as_0 => funext fun as_1 => funext fun bs_0 => funext fun bs_1 => funext fun t4s_0 => e193_3 k as_0 as_1 bs_0 bs_1 t4s_0))
theorem w193 (k : Nat) (a_negative : Bool) (a_digits : List (Int)) (b_negative : Bool) (b_digits : List (Int)) : runFn ti (envOf env58) 59 h193 (finT ti true Go.Proofs.Try.f193.results.toList [(.pair (.bool) (.slice 224 (.int .u32)), true)] (.pair (.bool) (.slice 224 (.int .u32)))) k (bodyOf Go.Proofs.Try.f193) (initS 0 [.agg [.bool a_negative, .slc 224 (.int .u32) a_digits], .agg [.bool b_negative, .slc 224 (.int .u32) b_digits]]) = F193 k (fun (as_0 : Bool) (as_1 : List Int) (bs_0 : Bool) (bs_1 : List Int) (t4s_0 : Bool) (outs_0 : Bool) (outs : List Int) (carry : Int) (t21 : Int) (t22 : Int) => x193 k k193_1006 (t193_1006 as_0 as_1 bs_0 bs_1 t4s_0 outs_0 outs carry t21 t22)) (fun (as_0 : Bool) (as_1 : List Int) (bs_0 : Bool) (bs_1 : List Int) (t4s_0 : Bool) => x193 k k193_3 (t193_3 as_0 as_1 bs_0 bs_1 t4s_0)) a_negative a_digits b_negative b_digits := by kernel_rfl
theorem v193 (k : Nat) (a_negative : Bool) (a_digits : List (Int)) (b_negative : Bool) (b_digits : List (Int)) : runFn ti (envOf env58) 59 h193 (finT ti true Go.Proofs.Try.f193.results.toList [(.pair (.bool) (.slice 224 (.int .u32)), true)] (.pair (.bool) (.slice 224 (.int .u32)))) k (bodyOf Go.Proofs.Try.f193) (initS 0 [.agg [.bool a_negative, .slc 224 (.int .u32) a_digits], .agg [.bool b_negative, .slc 224 (.int .u32) b_digits]]) = f193 k a_negative a_digits b_negative b_digits := by
  rw [w193]
  have h := q193 k
  unfold f193
  rw [← h]
theorem m193 : Meets Go.Proofs.Try.prog 193 s193 := meets_of_run tiOk env58_ok mo Go.Proofs.Try.func193 (body := bodyOf Go.Proofs.Try.f193) (by kernel_rfl) (N := 59) (by kernel_rfl) (hs := h193) (by
  intro k xs r h
  unfold s193 at h
  dsimp only at h
  split at h
  · exact ⟨Nat.le_of_ble_eq_true rfl, (v193 k _ _ _ _).trans h⟩
  · cases h)
theorem env59_ok : EnvOk Go.Proofs.Try.prog (envOf env59) := envOf_cons m193 Go.Proofs.Try.func193 (by kernel_rfl) (by kernel_rfl) env58_ok

-- impl.longOf
noncomputable def f194 (k : Nat) (n : Int) (k_ : Int) : Option (Bool × List (Int)) :=
  (f234 k n).bind fun r0 =>
  bif !decide (Int.tmod k_ 32 < 0) then
    bif decide (0 < Int.tmod k_ 32) then
      (f234 k n).bind fun r1 =>
      bif !decide (IntKind.wrap IntKind.i64 (64 - Int.tmod k_ 32) < 0) then
        bif decide (0 ≤ IntKind.wrap IntKind.i64 (Int.tdiv k_ 32)) then
          bif decide (IntKind.wrap IntKind.i64 (Int.tdiv k_ 32) ≤ IntKind.wrap IntKind.i64 (Int.tdiv k_ 32)) then
            bif decide (IntKind.wrap IntKind.i64 (Int.tdiv k_ 32) * (↑4 : Int) ≤ 140737488355328) then
              bif decide
  ((List.length
          (match none with
          | none => List.replicate (Int.toNat (IntKind.wrap IntKind.i64 (Int.tdiv k_ 32))) (dflt (Ty.int IntKind.u32))
          | some m => List.take m (List.replicate (Int.toNat (IntKind.wrap IntKind.i64 (Int.tdiv k_ 32))) (dflt (Ty.int IntKind.u32)))) +
        List.length [IntKind.wrap IntKind.u32 (IntKind.wrap IntKind.u64 (r0 * 2 ^ min (Int.toNat (Int.tmod k_ 32)) (IntKind.bits IntKind.u64))), IntKind.wrap IntKind.u32 (Int.fdiv (IntKind.wrap IntKind.u64 (r0 * 2 ^ min (Int.toNat (Int.tmod k_ 32)) (IntKind.bits IntKind.u64))) (2 ^ min (Int.toNat 32) (IntKind.bits IntKind.u64))), IntKind.wrap IntKind.u32 (Int.fdiv r1 (2 ^ min (Int.toNat (IntKind.wrap IntKind.i64 (64 - Int.tmod k_ 32))) (IntKind.bits IntKind.u64)))]) *
      4 ≤
    140737488355328) then
                some ((decide (n < 0),
  (match none with
    | none => List.replicate (Int.toNat (IntKind.wrap IntKind.i64 (Int.tdiv k_ 32))) (dflt (Ty.int IntKind.u32))
    | some m => List.take m (List.replicate (Int.toNat (IntKind.wrap IntKind.i64 (Int.tdiv k_ 32))) (dflt (Ty.int IntKind.u32)))) ++
    [IntKind.wrap IntKind.u32 (IntKind.wrap IntKind.u64 (r0 * 2 ^ min (Int.toNat (Int.tmod k_ 32)) (IntKind.bits IntKind.u64))), IntKind.wrap IntKind.u32 (Int.fdiv (IntKind.wrap IntKind.u64 (r0 * 2 ^ min (Int.toNat (Int.tmod k_ 32)) (IntKind.bits IntKind.u64))) (2 ^ min (Int.toNat 32) (IntKind.bits IntKind.u64))), IntKind.wrap IntKind.u32 (Int.fdiv r1 (2 ^ min (Int.toNat (IntKind.wrap IntKind.i64 (64 - Int.tmod k_ 32))) (IntKind.bits IntKind.u64)))]))
              else
                none
            else
              none
          else
            none
        else
          none
      else
        none
    else
      bif decide (0 ≤ IntKind.wrap IntKind.i64 (Int.tdiv k_ 32)) then
        bif decide (IntKind.wrap IntKind.i64 (Int.tdiv k_ 32) ≤ IntKind.wrap IntKind.i64 (Int.tdiv k_ 32)) then
          bif decide (IntKind.wrap IntKind.i64 (Int.tdiv k_ 32) * (↑4 : Int) ≤ 140737488355328) then
            bif decide
  ((List.length
          (match none with
          | none => List.replicate (Int.toNat (IntKind.wrap IntKind.i64 (Int.tdiv k_ 32))) (dflt (Ty.int IntKind.u32))
          | some m => List.take m (List.replicate (Int.toNat (IntKind.wrap IntKind.i64 (Int.tdiv k_ 32))) (dflt (Ty.int IntKind.u32)))) +
        List.length [IntKind.wrap IntKind.u32 (IntKind.wrap IntKind.u64 (r0 * 2 ^ min (Int.toNat (Int.tmod k_ 32)) (IntKind.bits IntKind.u64))), IntKind.wrap IntKind.u32 (Int.fdiv (IntKind.wrap IntKind.u64 (r0 * 2 ^ min (Int.toNat (Int.tmod k_ 32)) (IntKind.bits IntKind.u64))) (2 ^ min (Int.toNat 32) (IntKind.bits IntKind.u64))), IntKind.wrap IntKind.u32 0]) *
      4 ≤
    140737488355328) then
              some ((decide (n < 0),
  (match none with
    | none => List.replicate (Int.toNat (IntKind.wrap IntKind.i64 (Int.tdiv k_ 32))) (dflt (Ty.int IntKind.u32))
    | some m => List.take m (List.replicate (Int.toNat (IntKind.wrap IntKind.i64 (Int.tdiv k_ 32))) (dflt (Ty.int IntKind.u32)))) ++
    [IntKind.wrap IntKind.u32 (IntKind.wrap IntKind.u64 (r0 * 2 ^ min (Int.toNat (Int.tmod k_ 32)) (IntKind.bits IntKind.u64))), IntKind.wrap IntKind.u32 (Int.fdiv (IntKind.wrap IntKind.u64 (r0 * 2 ^ min (Int.toNat (Int.tmod k_ 32)) (IntKind.bits IntKind.u64))) (2 ^ min (Int.toNat 32) (IntKind.bits IntKind.u64))), IntKind.wrap IntKind.u32 0]))
            else
              none
          else
            none
        else
          none
      else
        none
  else
    none
noncomputable def s194 : Spec := ⟨false, [(.pair (.bool) (.slice 224 (.int .u32)), true)], true, .pair (.bool) (.slice 224 (.int .u32)), fun k xs => match xs with | [.int .i64 n, .int .i64 k_] => f194 k n k_ | _ => none⟩
noncomputable def env60 : List (FuncId × Spec) := (194, s194) :: env59
theorem v194 (k : Nat) (n : Int) (k_ : Int) : runFn ti (envOf env59) 38 [] (finT ti true Go.Proofs.Try.f194.results.toList [(.pair (.bool) (.slice 224 (.int .u32)), true)] (.pair (.bool) (.slice 224 (.int .u32)))) k (bodyOf Go.Proofs.Try.f194) (initS 0 [.int .i64 n, .int .i64 k_]) = f194 k n k_ := by kernel_rfl
theorem m194 : Meets Go.Proofs.Try.prog 194 s194 := meets_of_run tiOk env59_ok mo Go.Proofs.Try.func194 (body := bodyOf Go.Proofs.Try.f194) (by kernel_rfl) (N := 38) (by kernel_rfl) (hs := []) (by
  intro k xs r h
  unfold s194 at h
  dsimp only at h
  split at h
  · exact ⟨Nat.le_of_ble_eq_true rfl, (v194 k _ _).trans h⟩
  · cases h)
theorem env60_ok : EnvOk Go.Proofs.Try.prog (envOf env60) := envOf_cons m194 Go.Proofs.Try.func194 (by kernel_rfl) (by kernel_rfl) env59_ok

end Go.Proofs.YtbaeikcfchiiaaaE
