/- Functions, by the engine; printed. -/
import Derived.Test.YtbaeikcfchiiaaaST6
set_option maxRecDepth 100000
set_option maxHeartbeats 4000000
set_option linter.unusedVariables false
namespace Go.Proofs.YtbaeikcfchiiaaaE
-- slices.ContainsFunc[[]uint32,uint32]
def f243_244 (k : Nat) (s : List (Int)) : Option (Bool) :=
  (f274_244 k s).bind fun r0 =>
  some (decide (0 ≤ r0))
def s243 : Spec := ⟨false, [(.bool, false)], true, .bool, fun k xs => match xs with | [.slc 224 (.int .u32) s, .fn 244] => f243_244 k s | _ => none⟩
def env73 : List (FuncId × Spec) := (243, s243) :: env72
theorem v243_244 (k : Nat) (s : List (Int)) : runFn ti (envOf env72) 9 [] (finT ti true Go.Proofs.Try.f243.results.toList [(.bool, false)] (.bool)) k (bodyOf Go.Proofs.Try.f243) (initS 0 [.slc 224 (.int .u32) s, .fn 244]) = f243_244 k s := by kernel_rfl
theorem m243 : Meets Go.Proofs.Try.prog 243 s243 := meets_of_run tiOk env72_ok mo Go.Proofs.Try.func243 (body := bodyOf Go.Proofs.Try.f243) (by kernel_rfl) (N := 9) (by kernel_rfl) (hs := []) (by
  intro k xs r h
  unfold s243 at h
  dsimp only at h
  split at h
  · exact ⟨Nat.le_of_ble_eq_true rfl, (v243_244 k _).trans h⟩
  · cases h)
theorem env73_ok : EnvOk Go.Proofs.Try.prog (envOf env73) := envOf_cons m243 Go.Proofs.Try.func243 (by kernel_rfl) (by kernel_rfl) env72_ok

-- impl.long).sign
def f195 (k : Nat) (a_negative : Bool) (a_digits : List (Int)) : Option (Int) :=
  (f243_244 k a_digits).bind fun r0 =>
  bif !r0 then
    some (0)
  else
    bif a_negative then
      some (-1)
    else
      some (1)
def s195 : Spec := ⟨false, [(.int .i64, false)], true, .int .i64, fun k xs => match xs with | [.agg [.bool a_negative, .slc 224 (.int .u32) a_digits]] => f195 k a_negative a_digits | _ => none⟩
def env74 : List (FuncId × Spec) := (195, s195) :: env73
theorem v195 (k : Nat) (a_negative : Bool) (a_digits : List (Int)) : runFn ti (envOf env73) 9 [] (finT ti true Go.Proofs.Try.f195.results.toList [(.int .i64, false)] (.int .i64)) k (bodyOf Go.Proofs.Try.f195) (initS 0 [.agg [.bool a_negative, .slc 224 (.int .u32) a_digits]]) = f195 k a_negative a_digits := by kernel_rfl
theorem m195 : Meets Go.Proofs.Try.prog 195 s195 := meets_of_run tiOk env73_ok mo Go.Proofs.Try.func195 (body := bodyOf Go.Proofs.Try.f195) (by kernel_rfl) (N := 9) (by kernel_rfl) (hs := []) (by
  intro k xs r h
  unfold s195 at h
  dsimp only at h
  split at h
  · exact ⟨Nat.le_of_ble_eq_true rfl, (v195 k _ _).trans h⟩
  · cases h)
theorem env74_ok : EnvOk Go.Proofs.Try.prog (envOf env74) := envOf_cons m195 Go.Proofs.Try.func195 (by kernel_rfl) (by kernel_rfl) env73_ok

-- impl.signAt
def h131 : Hints := [(1003, .lab [(0, .one (.frz 3 (Ty.int IntKind.i64))), (3, .box 27 [.v, .v]), (5, .box 193 [.v, .own 224 (Ty.int IntKind.u32)]), (6, .one (.v))])]
def F131_1003 (k : Nat) (rec1003 : List Int → Int → Int → Bool → List Int → Int → Option (Int)) (p : List Int) (xs_0 : Int) (xs_1 : Int) (sums_0 : Bool) (sums : List Int) (i : Int) : Option (Int) :=
  bif decide (0 ≤ i) then
    (f192 k sums_0 sums xs_0).bind fun r0 =>
    bif boundA i (List.length p) then
      (f194 k (List.getD p (Int.toNat i) 0) (IntKind.wrap IntKind.i64 (xs_1 * IntKind.wrap IntKind.i64 (IntKind.wrap IntKind.i64 ((↑(List.length p) : Int) - 1) - i)))).bind fun r1 =>
      (f193 k r0.fst r0.snd r1.fst r1.snd).bind fun r2 =>
      rec1003 p xs_0 xs_1 (r2.fst) (r2.snd) (IntKind.wrap IntKind.i64 (i - 1))
    else
      none
  else
    (f195 k sums_0 sums).bind fun r3 =>
    some r3
def F131 (k : Nat) (rec1003 : List Int → Int → Int → Bool → List Int → Int → Option (Int)) (p : List (Int)) (x_N : Int) (x_K : Int) : Option (Int) :=
  rec1003 p x_N x_K false ([]) (IntKind.wrap IntKind.i64 ((↑(List.length p) : Int) - 1))
def l131 : Nat → (List Int → Int → Int → Bool → List Int → Int → Option (Int))
  | 0 => fun _ _ _ _ _ _ => none
  | k + 1 => F131_1003 k (l131 k)
def f131 (k : Nat) (p : List (Int)) (x_N : Int) (x_K : Int) : Option (Int) := F131 k (l131 k) p x_N x_K
def s131 : Spec := ⟨false, [(.int .i64, false)], true, .int .i64, fun k xs => match xs with | [.slc 3 (.int .i64) p, .agg [.int .i64 x_N, .int .i64 x_K]] => f131 k p x_N x_K | _ => none⟩
def env75 : List (FuncId × Spec) := (131, s131) :: env74
noncomputable abbrev x131 := exec ti (envOf env74) 35 h131 (finT ti true Go.Proofs.Try.f131.results.toList [(.int .i64, false)] (.int .i64))
noncomputable def k131_1003 : List It := stackAt [.r, .r, .l, .r, .b, .lb none] (bodyOf Go.Proofs.Try.f131) []
def t131_1003 (p : List Int) (xs_0 : Int) (xs_1 : Int) (sums_0 : Bool) (sums : List Int) (i : Int) : St := [(0, Cell.val (AVal.slc 3 (Ty.int IntKind.i64) p)), (6, Cell.val (AVal.ptr 3 0)), (3, Cell.mem true 27 [AVal.int IntKind.i64 xs_0, AVal.int IntKind.i64 xs_1]), (10, Cell.val (AVal.ptr 5 0)), (5, Cell.mem true 193 [AVal.bool sums_0, AVal.ref 7 none]), (7, Cell.row true 224 (Ty.int IntKind.u32) sums), (12, Cell.val (AVal.int IntKind.i64 i))]
theorem e131_1003 (k : Nat) (p : List Int) (xs_0 : Int) (xs_1 : Int) (sums_0 : Bool) (sums : List Int) (i : Int) : x131 (k + 1) k131_1003 (t131_1003 p xs_0 xs_1 sums_0 sums i) = F131_1003 k (fun (p : List Int) (xs_0 : Int) (xs_1 : Int) (sums_0 : Bool) (sums : List Int) (i : Int) => x131 k k131_1003 (t131_1003 p xs_0 xs_1 sums_0 sums i)) p xs_0 xs_1 sums_0 sums i := by kernel_rfl
theorem q131 : ∀ k : Nat, (fun (p : List Int) (xs_0 : Int) (xs_1 : Int) (sums_0 : Bool) (sums : List Int) (i : Int) => x131 k k131_1003 (t131_1003 p xs_0 xs_1 sums_0 sums i)) = l131 k
  | 0 => rfl
  | k + 1 => by
    have h := q131 k
    show _ = F131_1003 k (l131 k)
    rw [← h]
    exact (funext fun p => funext fun xs_0 => funext fun xs_1 => funext fun sums_0 => funext fun sums => funext fun i => e131_1003 k p xs_0 xs_1 sums_0 sums i)
theorem w131 (k : Nat) (p : List (Int)) (x_N : Int) (x_K : Int) : runFn ti (envOf env74) 35 h131 (finT ti true Go.Proofs.Try.f131.results.toList [(.int .i64, false)] (.int .i64)) k (bodyOf Go.Proofs.Try.f131) (initS 0 [.slc 3 (.int .i64) p, .agg [.int .i64 x_N, .int .i64 x_K]]) = F131 k (fun (p : List Int) (xs_0 : Int) (xs_1 : Int) (sums_0 : Bool) (sums : List Int) (i : Int) => x131 k k131_1003 (t131_1003 p xs_0 xs_1 sums_0 sums i)) p x_N x_K := by kernel_rfl
theorem v131 (k : Nat) (p : List (Int)) (x_N : Int) (x_K : Int) : runFn ti (envOf env74) 35 h131 (finT ti true Go.Proofs.Try.f131.results.toList [(.int .i64, false)] (.int .i64)) k (bodyOf Go.Proofs.Try.f131) (initS 0 [.slc 3 (.int .i64) p, .agg [.int .i64 x_N, .int .i64 x_K]]) = f131 k p x_N x_K := by
  rw [w131]
  have h := q131 k
  unfold f131
  rw [← h]
theorem m131 : Meets Go.Proofs.Try.prog 131 s131 := meets_of_run tiOk env74_ok mo Go.Proofs.Try.func131 (body := bodyOf Go.Proofs.Try.f131) (by kernel_rfl) (N := 35) (by kernel_rfl) (hs := h131) (by
  intro k xs r h
  unfold s131 at h
  dsimp only at h
  split at h
  · exact ⟨Nat.le_of_ble_eq_true rfl, (v131 k _ _ _).trans h⟩
  · cases h)
theorem env75_ok : EnvOk Go.Proofs.Try.prog (envOf env75) := envOf_cons m131 Go.Proofs.Try.func131 (by kernel_rfl) (by kernel_rfl) env74_ok

-- impl.familySign
def f137 (k : Nat) (p : List (Int)) (q : List (Int)) (x_N : Int) (x_K : Int) (i : Int) (k_ : Int) (fine : Int) : Option (Int) :=
  (f77 k p q i fine).bind fun r0 =>
  (f131 k r0 x_N x_K).bind fun r1 =>
  (f77 k p q k_ fine).bind fun r2 =>
  (f131 k r2 x_N x_K).bind fun r3 =>
  bif !decide (r3 = r1) then
    some (0)
  else
    some r1
def s137 : Spec := ⟨false, [(.int .i64, false)], true, .int .i64, fun k xs => match xs with | [.slc 3 (.int .i64) p, .slc 3 (.int .i64) q, .agg [.int .i64 x_N, .int .i64 x_K], .int .i64 i, .int .i64 k_, .int .i64 fine] => f137 k p q x_N x_K i k_ fine | _ => none⟩
def env76 : List (FuncId × Spec) := (137, s137) :: env75
theorem v137 (k : Nat) (p : List (Int)) (q : List (Int)) (x_N : Int) (x_K : Int) (i : Int) (k_ : Int) (fine : Int) : runFn ti (envOf env75) 31 [] (finT ti true Go.Proofs.Try.f137.results.toList [(.int .i64, false)] (.int .i64)) k (bodyOf Go.Proofs.Try.f137) (initS 0 [.slc 3 (.int .i64) p, .slc 3 (.int .i64) q, .agg [.int .i64 x_N, .int .i64 x_K], .int .i64 i, .int .i64 k_, .int .i64 fine]) = f137 k p q x_N x_K i k_ fine := by kernel_rfl
theorem m137 : Meets Go.Proofs.Try.prog 137 s137 := meets_of_run tiOk env75_ok mo Go.Proofs.Try.func137 (body := bodyOf Go.Proofs.Try.f137) (by kernel_rfl) (N := 31) (by kernel_rfl) (hs := []) (by
  intro k xs r h
  unfold s137 at h
  dsimp only at h
  split at h
  · exact ⟨Nat.le_of_ble_eq_true rfl, (v137 k _ _ _ _ _ _ _).trans h⟩
  · cases h)
theorem env76_ok : EnvOk Go.Proofs.Try.prog (envOf env76) := envOf_cons m137 Go.Proofs.Try.func137 (by kernel_rfl) (by kernel_rfl) env75_ok

-- impl.deriveSingle
def h202 : Hints := [(1003, .lab [(0, .one (.frz 3 (Ty.int IntKind.i64))), (3, .one (.own 3 (Ty.int IntKind.i64))), (4, .one (.v))])]
def F202_1003 (k : Nat) (rec1003 : List Int → List Int → Int → Option (List (Int))) (p : List Int) (outs : List Int) (i : Int) : Option (List (Int)) :=
  bif decide (i < (↑(List.length p) : Int)) then
    bif boundA i (List.length p) then
      bif decide ((List.length outs + List.length [IntKind.wrap IntKind.i64 (i * List.getD p (Int.toNat i) 0)]) * 8 ≤ 140737488355328) then
        rec1003 p (outs ++ [IntKind.wrap IntKind.i64 (i * List.getD p (Int.toNat i) 0)]) (IntKind.wrap IntKind.i64 (i + 1))
      else
        none
    else
      none
  else
    (f198 k outs).bind fun r0 =>
    some r0
def F202 (k : Nat) (rec1003 : List Int → List Int → Int → Option (List (Int))) (p : List (Int)) : Option (List (Int)) :=
  rec1003 p ([]) (1)
def l202 : Nat → (List Int → List Int → Int → Option (List (Int)))
  | 0 => fun _ _ _ => none
  | k + 1 => F202_1003 k (l202 k)
def f202 (k : Nat) (p : List (Int)) : Option (List (Int)) := F202 k (l202 k) p
def s202 : Spec := ⟨false, [(.slice 3 (.int .i64), false)], true, .slice 3 (.int .i64), fun k xs => match xs with | [.slc 3 (.int .i64) p] => f202 k p | _ => none⟩
def env77 : List (FuncId × Spec) := (202, s202) :: env76
noncomputable abbrev x202 := exec ti (envOf env76) 22 h202 (finT ti true Go.Proofs.Try.f202.results.toList [(.slice 3 (.int .i64), false)] (.slice 3 (.int .i64)))
noncomputable def k202_1003 : List It := stackAt [.r, .r, .l, .r, .b, .lb none] (bodyOf Go.Proofs.Try.f202) []
def t202_1003 (p : List Int) (outs : List Int) (i : Int) : St := [(0, Cell.val (AVal.slc 3 (Ty.int IntKind.i64) p)), (6, Cell.val (AVal.ref 3 none)), (3, Cell.row true 3 (Ty.int IntKind.i64) outs), (8, Cell.val (AVal.int IntKind.i64 i))]
theorem e202_1003 (k : Nat) (p : List Int) (outs : List Int) (i : Int) : x202 (k + 1) k202_1003 (t202_1003 p outs i) = F202_1003 k (fun (p : List Int) (outs : List Int) (i : Int) => x202 k k202_1003 (t202_1003 p outs i)) p outs i := by kernel_rfl
theorem q202 : ∀ k : Nat, (fun (p : List Int) (outs : List Int) (i : Int) => x202 k k202_1003 (t202_1003 p outs i)) = l202 k
  | 0 => rfl
  | k + 1 => by
    have h := q202 k
    show _ = F202_1003 k (l202 k)
    rw [← h]
    exact (funext fun p => funext fun outs => funext fun i => e202_1003 k p outs i)
theorem w202 (k : Nat) (p : List (Int)) : runFn ti (envOf env76) 22 h202 (finT ti true Go.Proofs.Try.f202.results.toList [(.slice 3 (.int .i64), false)] (.slice 3 (.int .i64))) k (bodyOf Go.Proofs.Try.f202) (initS 0 [.slc 3 (.int .i64) p]) = F202 k (fun (p : List Int) (outs : List Int) (i : Int) => x202 k k202_1003 (t202_1003 p outs i)) p := by kernel_rfl
theorem v202 (k : Nat) (p : List (Int)) : runFn ti (envOf env76) 22 h202 (finT ti true Go.Proofs.Try.f202.results.toList [(.slice 3 (.int .i64), false)] (.slice 3 (.int .i64))) k (bodyOf Go.Proofs.Try.f202) (initS 0 [.slc 3 (.int .i64) p]) = f202 k p := by
  rw [w202]
  have h := q202 k
  unfold f202
  rw [← h]
theorem m202 : Meets Go.Proofs.Try.prog 202 s202 := meets_of_run tiOk env76_ok mo Go.Proofs.Try.func202 (body := bodyOf Go.Proofs.Try.f202) (by kernel_rfl) (N := 22) (by kernel_rfl) (hs := h202) (by
  intro k xs r h
  unfold s202 at h
  dsimp only at h
  split at h
  · exact ⟨Nat.le_of_ble_eq_true rfl, (v202 k _).trans h⟩
  · cases h)
theorem env77_ok : EnvOk Go.Proofs.Try.prog (envOf env77) := envOf_cons m202 Go.Proofs.Try.func202 (by kernel_rfl) (by kernel_rfl) env76_ok

-- impl.powerSingle
def h249 : Hints := [(1003, .lab [(0, .one (.frz 3 (Ty.int IntKind.i64))), (5, .one (.own 3 (Ty.int IntKind.i64))), (7, .one (.v)), (8, .one (.v))])]
def F249_1003 (k : Nat) (rec1003 : List Int → List Int → Int → Int → Option (List (Int))) (p : List Int) (outs : List Int) (t7 : Int) (t8 : Int) : Option (List (Int)) :=
  bif decide (t8 < t7) then
    (f134 k outs p).bind fun r0 =>
    rec1003 p r0 t7 (IntKind.wrap IntKind.i64 (t8 + 1))
  else
    some outs
def F249 (k : Nat) (rec1003 : List Int → List Int → Int → Int → Option (List (Int))) (p : List (Int)) (n : Int) : Option (List (Int)) :=
  rec1003 p ([1]) n (0)
def l249 : Nat → (List Int → List Int → Int → Int → Option (List (Int)))
  | 0 => fun _ _ _ _ => none
  | k + 1 => F249_1003 k (l249 k)
def f249 (k : Nat) (p : List (Int)) (n : Int) : Option (List (Int)) := F249 k (l249 k) p n
def s249 : Spec := ⟨false, [(.slice 3 (.int .i64), false)], true, .slice 3 (.int .i64), fun k xs => match xs with | [.slc 3 (.int .i64) p, .int .i64 n] => f249 k p n | _ => none⟩
def env78 : List (FuncId × Spec) := (249, s249) :: env77
noncomputable abbrev x249 := exec ti (envOf env77) 15 h249 (finT ti true Go.Proofs.Try.f249.results.toList [(.slice 3 (.int .i64), false)] (.slice 3 (.int .i64)))
noncomputable def k249_1003 : List It := stackAt [.r, .r, .l, .r, .b, .lb none] (bodyOf Go.Proofs.Try.f249) []
def t249_1003 (p : List Int) (outs : List Int) (t7 : Int) (t8 : Int) : St := [(0, Cell.val (AVal.slc 3 (Ty.int IntKind.i64) p)), (10, Cell.val (AVal.ref 3 none)), (3, Cell.row true 3 (Ty.int IntKind.i64) outs), (14, Cell.val (AVal.int IntKind.i64 t7)), (16, Cell.val (AVal.int IntKind.i64 t8))]
theorem e249_1003 (k : Nat) (p : List Int) (outs : List Int) (t7 : Int) (t8 : Int) : x249 (k + 1) k249_1003 (t249_1003 p outs t7 t8) = F249_1003 k (fun (p : List Int) (outs : List Int) (t7 : Int) (t8 : Int) => x249 k k249_1003 (t249_1003 p outs t7 t8)) p outs t7 t8 := by kernel_rfl
theorem q249 : ∀ k : Nat, (fun (p : List Int) (outs : List Int) (t7 : Int) (t8 : Int) => x249 k k249_1003 (t249_1003 p outs t7 t8)) = l249 k
  | 0 => rfl
  | k + 1 => by
    have h := q249 k
    show _ = F249_1003 k (l249 k)
    rw [← h]
    exact (funext fun p => funext fun outs => funext fun t7 => funext fun t8 => e249_1003 k p outs t7 t8)
theorem w249 (k : Nat) (p : List (Int)) (n : Int) : runFn ti (envOf env77) 15 h249 (finT ti true Go.Proofs.Try.f249.results.toList [(.slice 3 (.int .i64), false)] (.slice 3 (.int .i64))) k (bodyOf Go.Proofs.Try.f249) (initS 0 [.slc 3 (.int .i64) p, .int .i64 n]) = F249 k (fun (p : List Int) (outs : List Int) (t7 : Int) (t8 : Int) => x249 k k249_1003 (t249_1003 p outs t7 t8)) p n := by kernel_rfl
theorem v249 (k : Nat) (p : List (Int)) (n : Int) : runFn ti (envOf env77) 15 h249 (finT ti true Go.Proofs.Try.f249.results.toList [(.slice 3 (.int .i64), false)] (.slice 3 (.int .i64))) k (bodyOf Go.Proofs.Try.f249) (initS 0 [.slc 3 (.int .i64) p, .int .i64 n]) = f249 k p n := by
  rw [w249]
  have h := q249 k
  unfold f249
  rw [← h]
theorem m249 : Meets Go.Proofs.Try.prog 249 s249 := meets_of_run tiOk env77_ok mo Go.Proofs.Try.func249 (body := bodyOf Go.Proofs.Try.f249) (by kernel_rfl) (N := 15) (by kernel_rfl) (hs := h249) (by
  intro k xs r h
  unfold s249 at h
  dsimp only at h
  split at h
  · exact ⟨Nat.le_of_ble_eq_true rfl, (v249 k _ _).trans h⟩
  · cases h)
theorem env78_ok : EnvOk Go.Proofs.Try.prog (envOf env78) := envOf_cons m249 Go.Proofs.Try.func249 (by kernel_rfl) (by kernel_rfl) env77_ok

-- impl.overInterval
def h203 : Hints := [(1005, .lab [(0, .one (.frz 3 (Ty.int IntKind.i64))), (6, .one (.v)), (7, .one (.v)), (8, .one (.v)), (9, .one (.own 3 (Ty.int IntKind.i64))), (40, .one (.frz 3 (Ty.int IntKind.i64))), (41, .one (.v)), (42, .one (.v))]), (1010, .lab [(0, .one (.frz 3 (Ty.int IntKind.i64))), (9, .one (.own 3 (Ty.int IntKind.i64)))])]
def F203_1005 (k : Nat) (rec1005 : List Int → Int → Int → Int → List Int → List Int → Int → Int → Option (List (Int))) (rec1010 : List Int → List Int → Option (List (Int))) (L : List Int) (o : Int) (A : Int) (r : Int) (r_9s : List Int) (t40 : List Int) (t41 : Int) (t42 : Int) : Option (List (Int)) :=
  bif decide (t42 < t41) then
    bif boundA t42 (List.length t40) then
      (f249 k [o, A] t42).bind fun r0 =>
      (f249 k [r, r] (IntKind.wrap IntKind.i64 (IntKind.wrap IntKind.i64 ((↑(List.length L) : Int) - 1) - t42))).bind fun r1 =>
      (f134 k r0 r1).bind fun r2 =>
      (f134 k r2 [List.getD t40 (Int.toNat t42) 0]).bind fun r3 =>
      (f133 k r_9s r3).bind fun r4 =>
      rec1005 L o A r r4 t40 t41 (IntKind.wrap IntKind.i64 (t42 + 1))
    else
      none
  else
    rec1010 L r_9s
def F203_1010 (k : Nat) (rec1005 : List Int → Int → Int → Int → List Int → List Int → Int → Int → Option (List (Int))) (rec1010 : List Int → List Int → Option (List (Int))) (L : List Int) (rs : List Int) : Option (List (Int)) :=
  bif decide ((↑(List.length rs) : Int) < (↑(List.length L) : Int)) then
    bif decide ((List.length rs + List.length [0]) * 8 ≤ 140737488355328) then
      rec1010 L (rs ++ [0])
    else
      none
  else
    some rs
def F203 (k : Nat) (rec1005 : List Int → Int → Int → Int → List Int → List Int → Int → Int → Option (List (Int))) (rec1010 : List Int → List Int → Option (List (Int))) (L : List (Int)) (i_Low_N : Int) (i_Low_K : Int) (i_High_N : Int) (i_High_K : Int) : Option (List (Int)) :=
  bif !decide (IntKind.wrap IntKind.i64 ((bif decide (i_Low_K < i_High_K) then i_High_K else i_Low_K) - i_Low_K) < 0) then
    bif !decide (IntKind.wrap IntKind.i64 ((bif decide (i_Low_K < i_High_K) then i_High_K else i_Low_K) - i_High_K) < 0) then
      bif !decide ((bif decide (i_Low_K < i_High_K) then i_High_K else i_Low_K) < 0) then
        rec1005 L (IntKind.wrap IntKind.i64 (i_Low_N * 2 ^ min (Int.toNat (IntKind.wrap IntKind.i64 ((bif decide (i_Low_K < i_High_K) then i_High_K else i_Low_K) - i_Low_K))) (IntKind.bits IntKind.i64))) (IntKind.wrap IntKind.i64 (i_High_N * 2 ^ min (Int.toNat (IntKind.wrap IntKind.i64 ((bif decide (i_Low_K < i_High_K) then i_High_K else i_Low_K) - i_High_K))) (IntKind.bits IntKind.i64))) (IntKind.wrap IntKind.i64 (1 * 2 ^ min (Int.toNat (bif decide (i_Low_K < i_High_K) then i_High_K else i_Low_K)) (IntKind.bits IntKind.i64))) ([]) L ((↑(List.length L) : Int)) (0)
      else
        none
    else
      none
  else
    none
def l203 : Nat → (List Int → Int → Int → Int → List Int → List Int → Int → Int → Option (List (Int))) × (List Int → List Int → Option (List (Int)))
  | 0 => (fun _ _ _ _ _ _ _ _ => none, fun _ _ => none)
  | k + 1 => (F203_1005 k ((l203 k).1) ((l203 k).2), F203_1010 k ((l203 k).1) ((l203 k).2))
def f203 (k : Nat) (L : List (Int)) (i_Low_N : Int) (i_Low_K : Int) (i_High_N : Int) (i_High_K : Int) : Option (List (Int)) := F203 k ((l203 k).1) ((l203 k).2) L i_Low_N i_Low_K i_High_N i_High_K
def s203 : Spec := ⟨false, [(.slice 3 (.int .i64), false)], true, .slice 3 (.int .i64), fun k xs => match xs with | [.slc 3 (.int .i64) L, .agg [.int .i64 i_Low_N, .int .i64 i_Low_K, .int .i64 i_High_N, .int .i64 i_High_K]] => f203 k L i_Low_N i_Low_K i_High_N i_High_K | _ => none⟩
def env79 : List (FuncId × Spec) := (203, s203) :: env78
noncomputable abbrev x203 := exec ti (envOf env78) 78 h203 (finT ti true Go.Proofs.Try.f203.results.toList [(.slice 3 (.int .i64), false)] (.slice 3 (.int .i64)))
noncomputable def k203_1005 : List It := stackAt [.r, .r, .r, .r, .l, .r, .b, .lb none] (bodyOf Go.Proofs.Try.f203) []
def t203_1005 (L : List Int) (o : Int) (A : Int) (r : Int) (r_9s : List Int) (t40 : List Int) (t41 : Int) (t42 : Int) : St := [(0, Cell.val (AVal.slc 3 (Ty.int IntKind.i64) L)), (12, Cell.val (AVal.int IntKind.i64 o)), (14, Cell.val (AVal.int IntKind.i64 A)), (16, Cell.val (AVal.int IntKind.i64 r)), (18, Cell.val (AVal.ref 3 none)), (3, Cell.row true 3 (Ty.int IntKind.i64) r_9s), (80, Cell.val (AVal.slc 3 (Ty.int IntKind.i64) t40)), (82, Cell.val (AVal.int IntKind.i64 t41)), (84, Cell.val (AVal.int IntKind.i64 t42))]
noncomputable def k203_1010 : List It := stackAt [.r, .r, .r, .r, .r, .l, .b, .lb none] (bodyOf Go.Proofs.Try.f203) []
def t203_1010 (L : List Int) (rs : List Int) : St := [(0, Cell.val (AVal.slc 3 (Ty.int IntKind.i64) L)), (18, Cell.val (AVal.ref 3 none)), (3, Cell.row true 3 (Ty.int IntKind.i64) rs)]
theorem e203_1005 (k : Nat) (L : List Int) (o : Int) (A : Int) (r : Int) (r_9s : List Int) (t40 : List Int) (t41 : Int) (t42 : Int) : x203 (k + 1) k203_1005 (t203_1005 L o A r r_9s t40 t41 t42) = F203_1005 k (fun (L : List Int) (o : Int) (A : Int) (r : Int) (r_9s : List Int) (t40 : List Int) (t41 : Int) (t42 : Int) => x203 k k203_1005 (t203_1005 L o A r r_9s t40 t41 t42)) (fun (L : List Int) (rs : List Int) => x203 k k203_1010 (t203_1010 L rs)) L o A r r_9s t40 t41 t42 := by kernel_rfl
theorem e203_1010 (k : Nat) (L : List Int) (rs : List Int) : x203 (k + 1) k203_1010 (t203_1010 L rs) = F203_1010 k (fun (L : List Int) (o : Int) (A : Int) (r : Int) (r_9s : List Int) (t40 : List Int) (t41 : Int) (t42 : Int) => x203 k k203_1005 (t203_1005 L o A r r_9s t40 t41 t42)) (fun (L : List Int) (rs : List Int) => x203 k k203_1010 (t203_1010 L rs)) L rs := by kernel_rfl
theorem q203 : ∀ k : Nat, ((fun (L : List Int) (o : Int) (A : Int) (r : Int) (r_9s : List Int) (t40 : List Int) (t41 : Int) (t42 : Int) => x203 k k203_1005 (t203_1005 L o A r r_9s t40 t41 t42)), (fun (L : List Int) (rs : List Int) => x203 k k203_1010 (t203_1010 L rs))) = l203 k
  | 0 => rfl
  | k + 1 => by
    have h := q203 k
    show _ = (F203_1005 k ((l203 k).1) ((l203 k).2), F203_1010 k ((l203 k).1) ((l203 k).2))
    rw [← h]
    exact (Prod.ext (funext fun L => funext fun o => funext fun A => funext fun r => funext fun r_9s => funext fun t40 => funext fun t41 => funext fun t42 => e203_1005 k L o A r r_9s t40 t41 t42) (funext fun L => funext fun rs => e203_1010 k L rs))
theorem w203 (k : Nat) (L : List (Int)) (i_Low_N : Int) (i_Low_K : Int) (i_High_N : Int) (i_High_K : Int) : runFn ti (envOf env78) 78 h203 (finT ti true Go.Proofs.Try.f203.results.toList [(.slice 3 (.int .i64), false)] (.slice 3 (.int .i64))) k (bodyOf Go.Proofs.Try.f203) (initS 0 [.slc 3 (.int .i64) L, .agg [.int .i64 i_Low_N, .int .i64 i_Low_K, .int .i64 i_High_N, .int .i64 i_High_K]]) = F203 k (fun (L : List Int) (o : Int) (A : Int) (r : Int) (r_9s : List Int) (t40 : List Int) (t41 : Int) (t42 : Int) => x203 k k203_1005 (t203_1005 L o A r r_9s t40 t41 t42)) (fun (L : List Int) (rs : List Int) => x203 k k203_1010 (t203_1010 L rs)) L i_Low_N i_Low_K i_High_N i_High_K := by kernel_rfl
theorem v203 (k : Nat) (L : List (Int)) (i_Low_N : Int) (i_Low_K : Int) (i_High_N : Int) (i_High_K : Int) : runFn ti (envOf env78) 78 h203 (finT ti true Go.Proofs.Try.f203.results.toList [(.slice 3 (.int .i64), false)] (.slice 3 (.int .i64))) k (bodyOf Go.Proofs.Try.f203) (initS 0 [.slc 3 (.int .i64) L, .agg [.int .i64 i_Low_N, .int .i64 i_Low_K, .int .i64 i_High_N, .int .i64 i_High_K]]) = f203 k L i_Low_N i_Low_K i_High_N i_High_K := by
  rw [w203]
  have h := q203 k
  unfold f203
  rw [← h]
theorem m203 : Meets Go.Proofs.Try.prog 203 s203 := meets_of_run tiOk env78_ok mo Go.Proofs.Try.func203 (body := bodyOf Go.Proofs.Try.f203) (by kernel_rfl) (N := 78) (by kernel_rfl) (hs := h203) (by
  intro k xs r h
  unfold s203 at h
  dsimp only at h
  split at h
  · exact ⟨Nat.le_of_ble_eq_true rfl, (v203 k _ _ _ _ _).trans h⟩
  · cases h)
theorem env79_ok : EnvOk Go.Proofs.Try.prog (envOf env79) := envOf_cons m203 Go.Proofs.Try.func203 (by kernel_rfl) (by kernel_rfl) env78_ok

-- slices.Min[[]int,int]
def h250 : Hints := [(1005, .lab [(0, .one (.frz 3 (Ty.int IntKind.i64))), (3, .one (.v)), (4, .one (.v))])]
def F250_1005 (k : Nat) (rec1005 : List Int → Int → Int → Option (Int)) (x : List Int) (m : Int) (i : Int) : Option (Int) :=
  bif decide (i < (↑(List.length x) : Int)) then
    bif boundA i (List.length x) then
      rec1005 x (bif decide (List.getD x (Int.toNat i) 0 < m) then List.getD x (Int.toNat i) 0 else m) (IntKind.wrap IntKind.i64 (i + 1))
    else
      none
  else
    some m
def F250 (k : Nat) (rec1005 : List Int → Int → Int → Option (Int)) (x : List (Int)) : Option (Int) :=
  bif decide ((↑(List.length x) : Int) < 1) then
    none
  else
    bif boundA 0 (List.length x) then
      rec1005 x (List.getD x (Int.toNat 0) 0) (1)
    else
      none
def l250 : Nat → (List Int → Int → Int → Option (Int))
  | 0 => fun _ _ _ => none
  | k + 1 => F250_1005 k (l250 k)
def f250 (k : Nat) (x : List (Int)) : Option (Int) := F250 k (l250 k) x
def s250 : Spec := ⟨false, [(.int .i64, false)], true, .int .i64, fun k xs => match xs with | [.slc 3 (.int .i64) x] => f250 k x | _ => none⟩
def env80 : List (FuncId × Spec) := (250, s250) :: env79
noncomputable abbrev x250 := exec ti (envOf env79) 25 h250 (finT ti true Go.Proofs.Try.f250.results.toList [(.int .i64, false)] (.int .i64))
noncomputable def k250_1005 : List It := stackAt [.r, .r, .r, .l, .r, .b, .lb none] (bodyOf Go.Proofs.Try.f250) []
def t250_1005 (x : List Int) (m : Int) (i : Int) : St := [(0, Cell.val (AVal.slc 3 (Ty.int IntKind.i64) x)), (6, Cell.val (AVal.int IntKind.i64 m)), (8, Cell.val (AVal.int IntKind.i64 i))]
theorem e250_1005 (k : Nat) (x : List Int) (m : Int) (i : Int) : x250 (k + 1) k250_1005 (t250_1005 x m i) = F250_1005 k (fun (x : List Int) (m : Int) (i : Int) => x250 k k250_1005 (t250_1005 x m i)) x m i := by kernel_rfl
theorem q250 : ∀ k : Nat, (fun (x : List Int) (m : Int) (i : Int) => x250 k k250_1005 (t250_1005 x m i)) = l250 k
  | 0 => rfl
  | k + 1 => by
    have h := q250 k
    show _ = F250_1005 k (l250 k)
    rw [← h]
    exact (funext fun x => funext fun m => funext fun i => e250_1005 k x m i)
theorem w250 (k : Nat) (x : List (Int)) : runFn ti (envOf env79) 25 h250 (finT ti true Go.Proofs.Try.f250.results.toList [(.int .i64, false)] (.int .i64)) k (bodyOf Go.Proofs.Try.f250) (initS 0 [.slc 3 (.int .i64) x]) = F250 k (fun (x : List Int) (m : Int) (i : Int) => x250 k k250_1005 (t250_1005 x m i)) x := by kernel_rfl
theorem v250 (k : Nat) (x : List (Int)) : runFn ti (envOf env79) 25 h250 (finT ti true Go.Proofs.Try.f250.results.toList [(.int .i64, false)] (.int .i64)) k (bodyOf Go.Proofs.Try.f250) (initS 0 [.slc 3 (.int .i64) x]) = f250 k x := by
  rw [w250]
  have h := q250 k
  unfold f250
  rw [← h]
theorem m250 : Meets Go.Proofs.Try.prog 250 s250 := meets_of_run tiOk env79_ok mo Go.Proofs.Try.func250 (body := bodyOf Go.Proofs.Try.f250) (by kernel_rfl) (N := 25) (by kernel_rfl) (hs := h250) (by
  intro k xs r h
  unfold s250 at h
  dsimp only at h
  split at h
  · exact ⟨Nat.le_of_ble_eq_true rfl, (v250 k _).trans h⟩
  · cases h)
theorem env80_ok : EnvOk Go.Proofs.Try.prog (envOf env80) := envOf_cons m250 Go.Proofs.Try.func250 (by kernel_rfl) (by kernel_rfl) env79_ok

-- slices.Max[[]int,int]
def h251 : Hints := [(1005, .lab [(0, .one (.frz 3 (Ty.int IntKind.i64))), (3, .one (.v)), (4, .one (.v))])]
def F251_1005 (k : Nat) (rec1005 : List Int → Int → Int → Option (Int)) (x : List Int) (m : Int) (i : Int) : Option (Int) :=
  bif decide (i < (↑(List.length x) : Int)) then
    bif boundA i (List.length x) then
      rec1005 x (bif decide (m < List.getD x (Int.toNat i) 0) then List.getD x (Int.toNat i) 0 else m) (IntKind.wrap IntKind.i64 (i + 1))
    else
      none
  else
    some m
def F251 (k : Nat) (rec1005 : List Int → Int → Int → Option (Int)) (x : List (Int)) : Option (Int) :=
  bif decide ((↑(List.length x) : Int) < 1) then
    none
  else
    bif boundA 0 (List.length x) then
      rec1005 x (List.getD x (Int.toNat 0) 0) (1)
    else
      none
def l251 : Nat → (List Int → Int → Int → Option (Int))
  | 0 => fun _ _ _ => none
  | k + 1 => F251_1005 k (l251 k)
def f251 (k : Nat) (x : List (Int)) : Option (Int) := F251 k (l251 k) x
def s251 : Spec := ⟨false, [(.int .i64, false)], true, .int .i64, fun k xs => match xs with | [.slc 3 (.int .i64) x] => f251 k x | _ => none⟩
def env81 : List (FuncId × Spec) := (251, s251) :: env80
noncomputable abbrev x251 := exec ti (envOf env80) 25 h251 (finT ti true Go.Proofs.Try.f251.results.toList [(.int .i64, false)] (.int .i64))
noncomputable def k251_1005 : List It := stackAt [.r, .r, .r, .l, .r, .b, .lb none] (bodyOf Go.Proofs.Try.f251) []
def t251_1005 (x : List Int) (m : Int) (i : Int) : St := [(0, Cell.val (AVal.slc 3 (Ty.int IntKind.i64) x)), (6, Cell.val (AVal.int IntKind.i64 m)), (8, Cell.val (AVal.int IntKind.i64 i))]
theorem e251_1005 (k : Nat) (x : List Int) (m : Int) (i : Int) : x251 (k + 1) k251_1005 (t251_1005 x m i) = F251_1005 k (fun (x : List Int) (m : Int) (i : Int) => x251 k k251_1005 (t251_1005 x m i)) x m i := by kernel_rfl
theorem q251 : ∀ k : Nat, (fun (x : List Int) (m : Int) (i : Int) => x251 k k251_1005 (t251_1005 x m i)) = l251 k
  | 0 => rfl
  | k + 1 => by
    have h := q251 k
    show _ = F251_1005 k (l251 k)
    rw [← h]
    exact (funext fun x => funext fun m => funext fun i => e251_1005 k x m i)
theorem w251 (k : Nat) (x : List (Int)) : runFn ti (envOf env80) 25 h251 (finT ti true Go.Proofs.Try.f251.results.toList [(.int .i64, false)] (.int .i64)) k (bodyOf Go.Proofs.Try.f251) (initS 0 [.slc 3 (.int .i64) x]) = F251 k (fun (x : List Int) (m : Int) (i : Int) => x251 k k251_1005 (t251_1005 x m i)) x := by kernel_rfl
theorem v251 (k : Nat) (x : List (Int)) : runFn ti (envOf env80) 25 h251 (finT ti true Go.Proofs.Try.f251.results.toList [(.int .i64, false)] (.int .i64)) k (bodyOf Go.Proofs.Try.f251) (initS 0 [.slc 3 (.int .i64) x]) = f251 k x := by
  rw [w251]
  have h := q251 k
  unfold f251
  rw [← h]
theorem m251 : Meets Go.Proofs.Try.prog 251 s251 := meets_of_run tiOk env80_ok mo Go.Proofs.Try.func251 (body := bodyOf Go.Proofs.Try.f251) (by kernel_rfl) (N := 25) (by kernel_rfl) (hs := h251) (by
  intro k xs r h
  unfold s251 at h
  dsimp only at h
  split at h
  · exact ⟨Nat.le_of_ble_eq_true rfl, (v251 k _).trans h⟩
  · cases h)
theorem env81_ok : EnvOk Go.Proofs.Try.prog (envOf env81) := envOf_cons m251 Go.Proofs.Try.func251 (by kernel_rfl) (by kernel_rfl) env80_ok

-- impl.commonSign
def f204 (k : Nat) (list : List (Int)) : Option (Int) :=
  (f250 k list).bind fun r0 =>
  bif decide (0 < r0) then
    some (1)
  else
    (f251 k list).bind fun r1 =>
    bif decide (r1 < 0) then
      some (-1)
    else
      some (0)
def s204 : Spec := ⟨false, [(.int .i64, false)], true, .int .i64, fun k xs => match xs with | [.slc 3 (.int .i64) list] => f204 k list | _ => none⟩
def env82 : List (FuncId × Spec) := (204, s204) :: env81
theorem v204 (k : Nat) (list : List (Int)) : runFn ti (envOf env81) 11 [] (finT ti true Go.Proofs.Try.f204.results.toList [(.int .i64, false)] (.int .i64)) k (bodyOf Go.Proofs.Try.f204) (initS 0 [.slc 3 (.int .i64) list]) = f204 k list := by kernel_rfl
theorem m204 : Meets Go.Proofs.Try.prog 204 s204 := meets_of_run tiOk env81_ok mo Go.Proofs.Try.func204 (body := bodyOf Go.Proofs.Try.f204) (by kernel_rfl) (N := 11) (by kernel_rfl) (hs := []) (by
  intro k xs r h
  unfold s204 at h
  dsimp only at h
  split at h
  · exact ⟨Nat.le_of_ble_eq_true rfl, (v204 k _).trans h⟩
  · cases h)
theorem env82_ok : EnvOk Go.Proofs.Try.prog (envOf env82) := envOf_cons m204 Go.Proofs.Try.func204 (by kernel_rfl) (by kernel_rfl) env81_ok

-- impl.slopeSign
def h138 : Hints := [(1003, .lab [(0, .one (.frz 3 (Ty.int IntKind.i64))), (1, .one (.frz 3 (Ty.int IntKind.i64))), (3, .one (.v)), (4, .one (.v)), (7, .box 29 [.v, .v, .v, .v]), (11, .one (.own 3 (Ty.int IntKind.i64))), (12, .one (.v))]), (1006, .lab [(0, .one (.frz 3 (Ty.int IntKind.i64))), (1, .one (.frz 3 (Ty.int IntKind.i64))), (3, .one (.v)), (4, .one (.v)), (7, .box 29 [.v, .v, .v, .v]), (11, .one (.own 3 (Ty.int IntKind.i64))), (12, .one (.v)), (13, .one (.own 3 (Ty.int IntKind.i64)))])]
def F138_1003 (k : Nat) (rec1003 : List Int → List Int → Int → Int → Int → Int → Int → Int → List Int → Int → Option (Int)) (rec1006 : List Int → List Int → Int → Int → Int → Int → Int → Int → List Int → Int → List Int → Option (Int)) (p : List Int) (q : List Int) (i : Int) (fine : Int) (xs_0 : Int) (xs_1 : Int) (xs_2 : Int) (xs_3 : Int) (alls : List Int) (moment : Int) : Option (Int) :=
  bif decide (moment ≤ IntKind.wrap IntKind.i64 (i + 1)) then
    (f77 k p q moment fine).bind fun r0 =>
    (f202 k r0).bind fun r1 =>
    rec1006 p q i fine xs_0 xs_1 xs_2 xs_3 alls moment r1
  else
    (f204 k alls).bind fun r2 =>
    some r2
def F138_1006 (k : Nat) (rec1003 : List Int → List Int → Int → Int → Int → Int → Int → Int → List Int → Int → Option (Int)) (rec1006 : List Int → List Int → Int → Int → Int → Int → Int → Int → List Int → Int → List Int → Option (Int)) (p : List Int) (q : List Int) (i : Int) (fine : Int) (xs_0 : Int) (xs_1 : Int) (xs_2 : Int) (xs_3 : Int) (alls : List Int) (moment : Int) (ds : List Int) : Option (Int) :=
  bif decide ((↑(List.length ds) : Int) < 5) then
    bif decide ((List.length ds + List.length [0]) * 8 ≤ 140737488355328) then
      rec1006 p q i fine xs_0 xs_1 xs_2 xs_3 alls moment (ds ++ [0])
    else
      none
  else
    (f203 k ds xs_0 xs_1 xs_2 xs_3).bind fun r0 =>
    bif decide ((List.length alls + List.length r0) * 8 ≤ 140737488355328) then
      rec1003 p q i fine xs_0 xs_1 xs_2 xs_3 (alls ++ r0) (IntKind.wrap IntKind.i64 (moment + 1))
    else
      none
def F138 (k : Nat) (rec1003 : List Int → List Int → Int → Int → Int → Int → Int → Int → List Int → Int → Option (Int)) (rec1006 : List Int → List Int → Int → Int → Int → Int → Int → Int → List Int → Int → List Int → Option (Int)) (p : List (Int)) (q : List (Int)) (x_Low_N : Int) (x_Low_K : Int) (x_High_N : Int) (x_High_K : Int) (i : Int) (fine : Int) : Option (Int) :=
  rec1003 p q i fine x_Low_N x_Low_K x_High_N x_High_K ([]) i
def l138 : Nat → (List Int → List Int → Int → Int → Int → Int → Int → Int → List Int → Int → Option (Int)) × (List Int → List Int → Int → Int → Int → Int → Int → Int → List Int → Int → List Int → Option (Int))
  | 0 => (fun _ _ _ _ _ _ _ _ _ _ => none, fun _ _ _ _ _ _ _ _ _ _ _ => none)
  | k + 1 => (F138_1003 k ((l138 k).1) ((l138 k).2), F138_1006 k ((l138 k).1) ((l138 k).2))
def f138 (k : Nat) (p : List (Int)) (q : List (Int)) (x_Low_N : Int) (x_Low_K : Int) (x_High_N : Int) (x_High_K : Int) (i : Int) (fine : Int) : Option (Int) := F138 k ((l138 k).1) ((l138 k).2) p q x_Low_N x_Low_K x_High_N x_High_K i fine
def s138 : Spec := ⟨false, [(.int .i64, false)], true, .int .i64, fun k xs => match xs with | [.slc 3 (.int .i64) p, .slc 3 (.int .i64) q, .agg [.int .i64 x_Low_N, .int .i64 x_Low_K, .int .i64 x_High_N, .int .i64 x_High_K], .int .i64 i, .int .i64 fine] => f138 k p q x_Low_N x_Low_K x_High_N x_High_K i fine | _ => none⟩
def env83 : List (FuncId × Spec) := (138, s138) :: env82
noncomputable abbrev x138 := exec ti (envOf env82) 40 h138 (finT ti true Go.Proofs.Try.f138.results.toList [(.int .i64, false)] (.int .i64))
noncomputable def k138_1003 : List It := stackAt [.r, .r, .l, .r, .b, .lb none] (bodyOf Go.Proofs.Try.f138) []
def t138_1003 (p : List Int) (q : List Int) (i : Int) (fine : Int) (xs_0 : Int) (xs_1 : Int) (xs_2 : Int) (xs_3 : Int) (alls : List Int) (moment : Int) : St := [(0, Cell.val (AVal.slc 3 (Ty.int IntKind.i64) p)), (2, Cell.val (AVal.slc 3 (Ty.int IntKind.i64) q)), (6, Cell.val (AVal.int IntKind.i64 i)), (8, Cell.val (AVal.int IntKind.i64 fine)), (14, Cell.val (AVal.ptr 3 0)), (3, Cell.mem true 29 [AVal.int IntKind.i64 xs_0, AVal.int IntKind.i64 xs_1, AVal.int IntKind.i64 xs_2, AVal.int IntKind.i64 xs_3]), (22, Cell.val (AVal.ref 5 none)), (5, Cell.row true 3 (Ty.int IntKind.i64) alls), (24, Cell.val (AVal.int IntKind.i64 moment))]
noncomputable def k138_1006 : List It := stackAt [.r, .r, .l, .r, .b, .lb none, .r, .l, .b, .r, .l, .b, .lb none] (bodyOf Go.Proofs.Try.f138) []
def t138_1006 (p : List Int) (q : List Int) (i : Int) (fine : Int) (xs_0 : Int) (xs_1 : Int) (xs_2 : Int) (xs_3 : Int) (alls : List Int) (moment : Int) (ds : List Int) : St := [(0, Cell.val (AVal.slc 3 (Ty.int IntKind.i64) p)), (2, Cell.val (AVal.slc 3 (Ty.int IntKind.i64) q)), (6, Cell.val (AVal.int IntKind.i64 i)), (8, Cell.val (AVal.int IntKind.i64 fine)), (14, Cell.val (AVal.ptr 3 0)), (3, Cell.mem true 29 [AVal.int IntKind.i64 xs_0, AVal.int IntKind.i64 xs_1, AVal.int IntKind.i64 xs_2, AVal.int IntKind.i64 xs_3]), (22, Cell.val (AVal.ref 5 none)), (5, Cell.row true 3 (Ty.int IntKind.i64) alls), (24, Cell.val (AVal.int IntKind.i64 moment)), (26, Cell.val (AVal.ref 7 none)), (7, Cell.row true 3 (Ty.int IntKind.i64) ds)]
theorem e138_1003 (k : Nat) (p : List Int) (q : List Int) (i : Int) (fine : Int) (xs_0 : Int) (xs_1 : Int) (xs_2 : Int) (xs_3 : Int) (alls : List Int) (moment : Int) : x138 (k + 1) k138_1003 (t138_1003 p q i fine xs_0 xs_1 xs_2 xs_3 alls moment) = F138_1003 k (fun (p : List Int) (q : List Int) (i : Int) (fine : Int) (xs_0 : Int) (xs_1 : Int) (xs_2 : Int) (xs_3 : Int) (alls : List Int) (moment : Int) => x138 k k138_1003 (t138_1003 p q i fine xs_0 xs_1 xs_2 xs_3 alls moment)) (fun (p : List Int) (q : List Int) (i : Int) (fine : Int) (xs_0 : Int) (xs_1 : Int) (xs_2 : Int) (xs_3 : Int) (alls : List Int) (moment : Int) (ds : List Int) => x138 k k138_1006 (t138_1006 p q i fine xs_0 xs_1 xs_2 xs_3 alls moment ds)) p q i fine xs_0 xs_1 xs_2 xs_3 alls moment := by kernel_rfl
theorem e138_1006 (k : Nat) (p : List Int) (q : List Int) (i : Int) (fine : Int) (xs_0 : Int) (xs_1 : Int) (xs_2 : Int) (xs_3 : Int) (alls : List Int) (moment : Int) (ds : List Int) : x138 (k + 1) k138_1006 (t138_1006 p q i fine xs_0 xs_1 xs_2 xs_3 alls moment ds) = F138_1006 k (fun (p : List Int) (q : List Int) (i : Int) (fine : Int) (xs_0 : Int) (xs_1 : Int) (xs_2 : Int) (xs_3 : Int) (alls : List Int) (moment : Int) => x138 k k138_1003 (t138_1003 p q i fine xs_0 xs_1 xs_2 xs_3 alls moment)) (fun (p : List Int) (q : List Int) (i : Int) (fine : Int) (xs_0 : Int) (xs_1 : Int) (xs_2 : Int) (xs_3 : Int) (alls : List Int) (moment : Int) (ds : List Int) => x138 k k138_1006 (t138_1006 p q i fine xs_0 xs_1 xs_2 xs_3 alls moment ds)) p q i fine xs_0 xs_1 xs_2 xs_3 alls moment ds := by kernel_rfl
theorem q138 : ∀ k : Nat, ((fun (p : List Int) (q : List Int) (i : Int) (fine : Int) (xs_0 : Int) (xs_1 : Int) (xs_2 : Int) (xs_3 : Int) (alls : List Int) (moment : Int) => x138 k k138_1003 (t138_1003 p q i fine xs_0 xs_1 xs_2 xs_3 alls moment)), (fun (p : List Int) (q : List Int) (i : Int) (fine : Int) (xs_0 : Int) (xs_1 : Int) (xs_2 : Int) (xs_3 : Int) (alls : List Int) (moment : Int) (ds : List Int) => x138 k k138_1006 (t138_1006 p q i fine xs_0 xs_1 xs_2 xs_3 alls moment ds))) = l138 k
  | 0 => rfl
  | k + 1 => by
    have h := q138 k
    show _ = (F138_1003 k ((l138 k).1) ((l138 k).2), F138_1006 k ((l138 k).1) ((l138 k).2))
    rw [← h]
    exact (Prod.ext (funext fun p => funext fun q => funext fun i => funext fun fine => funext fun xs_0 => funext fun xs_1 => funext fun xs_2 => funext fun xs_3 => funext fun alls => funext fun moment => e138_1003 k p q i fine xs_0 xs_1 xs_2 xs_3 alls moment) (funext fun p => funext fun q => funext fun i => funext fun fine => funext fun xs_0 => funext fun xs_1 => funext fun xs_2 => funext fun xs_3 => funext fun alls => funext fun moment => funext fun ds => e138_1006 k p q i fine xs_0 xs_1 xs_2 xs_3 alls moment ds))
theorem w138 (k : Nat) (p : List (Int)) (q : List (Int)) (x_Low_N : Int) (x_Low_K : Int) (x_High_N : Int) (x_High_K : Int) (i : Int) (fine : Int) : runFn ti (envOf env82) 40 h138 (finT ti true Go.Proofs.Try.f138.results.toList [(.int .i64, false)] (.int .i64)) k (bodyOf Go.Proofs.Try.f138) (initS 0 [.slc 3 (.int .i64) p, .slc 3 (.int .i64) q, .agg [.int .i64 x_Low_N, .int .i64 x_Low_K, .int .i64 x_High_N, .int .i64 x_High_K], .int .i64 i, .int .i64 fine]) = F138 k (fun (p : List Int) (q : List Int) (i : Int) (fine : Int) (xs_0 : Int) (xs_1 : Int) (xs_2 : Int) (xs_3 : Int) (alls : List Int) (moment : Int) => x138 k k138_1003 (t138_1003 p q i fine xs_0 xs_1 xs_2 xs_3 alls moment)) (fun (p : List Int) (q : List Int) (i : Int) (fine : Int) (xs_0 : Int) (xs_1 : Int) (xs_2 : Int) (xs_3 : Int) (alls : List Int) (moment : Int) (ds : List Int) => x138 k k138_1006 (t138_1006 p q i fine xs_0 xs_1 xs_2 xs_3 alls moment ds)) p q x_Low_N x_Low_K x_High_N x_High_K i fine := by kernel_rfl
theorem v138 (k : Nat) (p : List (Int)) (q : List (Int)) (x_Low_N : Int) (x_Low_K : Int) (x_High_N : Int) (x_High_K : Int) (i : Int) (fine : Int) : runFn ti (envOf env82) 40 h138 (finT ti true Go.Proofs.Try.f138.results.toList [(.int .i64, false)] (.int .i64)) k (bodyOf Go.Proofs.Try.f138) (initS 0 [.slc 3 (.int .i64) p, .slc 3 (.int .i64) q, .agg [.int .i64 x_Low_N, .int .i64 x_Low_K, .int .i64 x_High_N, .int .i64 x_High_K], .int .i64 i, .int .i64 fine]) = f138 k p q x_Low_N x_Low_K x_High_N x_High_K i fine := by
  rw [w138]
  have h := q138 k
  unfold f138
  rw [← h]
theorem m138 : Meets Go.Proofs.Try.prog 138 s138 := meets_of_run tiOk env82_ok mo Go.Proofs.Try.func138 (body := bodyOf Go.Proofs.Try.f138) (by kernel_rfl) (N := 40) (by kernel_rfl) (hs := h138) (by
  intro k xs r h
  unfold s138 at h
  dsimp only at h
  split at h
  · exact ⟨Nat.le_of_ble_eq_true rfl, (v138 k _ _ _ _ _ _ _ _).trans h⟩
  · cases h)
theorem env83_ok : EnvOk Go.Proofs.Try.prog (envOf env83) := envOf_cons m138 Go.Proofs.Try.func138 (by kernel_rfl) (by kernel_rfl) env82_ok

-- impl.stepHolds
def f81 (k : Nat) (p : List (Int)) (q : List (Int)) (x_Low_N : Int) (x_Low_K : Int) (x_High_N : Int) (x_High_K : Int) (i : Int) (fine : Int) : Option (Bool) :=
  (f137 k p q x_Low_N x_Low_K i (IntKind.wrap IntKind.i64 (i + 1)) fine).bind fun r0 =>
  (f137 k p q x_High_N x_High_K i (IntKind.wrap IntKind.i64 (i + 1)) fine).bind fun r1 =>
  bif decide (IntKind.wrap IntKind.i64 (r0 * r1) < 0) then
    (f138 k p q x_Low_N x_Low_K x_High_N x_High_K i fine).bind fun r2 =>
    some (!decide (r2 = 0))
  else
    some false
def s81 : Spec := ⟨false, [(.bool, false)], true, .bool, fun k xs => match xs with | [.slc 3 (.int .i64) p, .slc 3 (.int .i64) q, .agg [.int .i64 x_Low_N, .int .i64 x_Low_K, .int .i64 x_High_N, .int .i64 x_High_K], .int .i64 i, .int .i64 fine] => f81 k p q x_Low_N x_Low_K x_High_N x_High_K i fine | _ => none⟩
def env84 : List (FuncId × Spec) := (81, s81) :: env83
theorem v81 (k : Nat) (p : List (Int)) (q : List (Int)) (x_Low_N : Int) (x_Low_K : Int) (x_High_N : Int) (x_High_K : Int) (i : Int) (fine : Int) : runFn ti (envOf env83) 44 [] (finT ti true Go.Proofs.Try.f81.results.toList [(.bool, false)] (.bool)) k (bodyOf Go.Proofs.Try.f81) (initS 0 [.slc 3 (.int .i64) p, .slc 3 (.int .i64) q, .agg [.int .i64 x_Low_N, .int .i64 x_Low_K, .int .i64 x_High_N, .int .i64 x_High_K], .int .i64 i, .int .i64 fine]) = f81 k p q x_Low_N x_Low_K x_High_N x_High_K i fine := by kernel_rfl
theorem m81 : Meets Go.Proofs.Try.prog 81 s81 := meets_of_run tiOk env83_ok mo Go.Proofs.Try.func81 (body := bodyOf Go.Proofs.Try.f81) (by kernel_rfl) (N := 44) (by kernel_rfl) (hs := []) (by
  intro k xs r h
  unfold s81 at h
  dsimp only at h
  split at h
  · exact ⟨Nat.le_of_ble_eq_true rfl, (v81 k _ _ _ _ _ _ _ _).trans h⟩
  · cases h)
theorem env84_ok : EnvOk Go.Proofs.Try.prog (envOf env84) := envOf_cons m81 Go.Proofs.Try.func81 (by kernel_rfl) (by kernel_rfl) env83_ok

end Go.Proofs.YtbaeikcfchiiaaaE
