/- Functions, by the engine; printed. -/
import Derived.Test.YtbaeikcfchiiaaaNF1
set_option maxRecDepth 100000
set_option maxHeartbeats 4000000
set_option linter.unusedVariables false
namespace Go.Proofs.YtbaeikcfchiiaaaE
-- spec.dyGood
noncomputable def f183 (k : Nat) (a_N : Int) (a_K : Int) : Option (Bool) :=
  (f121 k a_K 0 24).bind fun r0 =>
  bif r0 then
    (f121 k a_N (-1099511627776) 1099511627776).bind fun r1 =>
    bif r1 then
      bif decide (a_K = 0) then
        some true
      else
        some (!decide (Int.tmod a_N 2 = 0))
    else
      some false
  else
    some false
noncomputable def s183 : Spec := ⟨false, [(.bool, false)], true, .bool, fun k xs => match xs with | [.agg [.int .i64 a_N, .int .i64 a_K]] => f183 k a_N a_K | _ => none⟩
noncomputable def env13 : List (FuncId × Spec) := (183, s183) :: env12
theorem v183 (k : Nat) (a_N : Int) (a_K : Int) : runFn ti (envOf env12) 22 [] (finT ti true Go.Proofs.Try.f183.results.toList [(.bool, false)] (.bool)) k (bodyOf Go.Proofs.Try.f183) (initS 0 [.agg [.int .i64 a_N, .int .i64 a_K]]) = f183 k a_N a_K := by kernel_rfl
theorem m183 : Meets Go.Proofs.Try.prog 183 s183 := meets_of_run tiOk env12_ok mo Go.Proofs.Try.func183 (body := bodyOf Go.Proofs.Try.f183) (by kernel_rfl) (N := 22) (by kernel_rfl) (hs := []) (by
  intro k xs r h
  unfold s183 at h
  dsimp only at h
  split at h
  · exact ⟨Nat.le_of_ble_eq_true rfl, (v183 k _ _).trans h⟩
  · cases h)
theorem env13_ok : EnvOk Go.Proofs.Try.prog (envOf env13) := envOf_cons m183 Go.Proofs.Try.func183 (by kernel_rfl) (by kernel_rfl) env12_ok

-- spec.ivGood
noncomputable def f122 (k : Nat) (i_Low_N : Int) (i_Low_K : Int) (i_High_N : Int) (i_High_K : Int) : Option (Bool) :=
  (f183 k i_Low_N i_Low_K).bind fun r0 =>
  bif r0 then
    (f183 k i_High_N i_High_K).bind fun r1 =>
    bif r1 then
      (f123 k i_Low_N i_Low_K i_High_N i_High_K).bind fun r2 =>
      some (decide (r2 ≤ 0))
    else
      some false
  else
    some false
noncomputable def s122 : Spec := ⟨false, [(.bool, false)], true, .bool, fun k xs => match xs with | [.agg [.int .i64 i_Low_N, .int .i64 i_Low_K, .int .i64 i_High_N, .int .i64 i_High_K]] => f122 k i_Low_N i_Low_K i_High_N i_High_K | _ => none⟩
noncomputable def env14 : List (FuncId × Spec) := (122, s122) :: env13
theorem v122 (k : Nat) (i_Low_N : Int) (i_Low_K : Int) (i_High_N : Int) (i_High_K : Int) : runFn ti (envOf env13) 19 [] (finT ti true Go.Proofs.Try.f122.results.toList [(.bool, false)] (.bool)) k (bodyOf Go.Proofs.Try.f122) (initS 0 [.agg [.int .i64 i_Low_N, .int .i64 i_Low_K, .int .i64 i_High_N, .int .i64 i_High_K]]) = f122 k i_Low_N i_Low_K i_High_N i_High_K := by kernel_rfl
theorem m122 : Meets Go.Proofs.Try.prog 122 s122 := meets_of_run tiOk env13_ok mo Go.Proofs.Try.func122 (body := bodyOf Go.Proofs.Try.f122) (by kernel_rfl) (N := 19) (by kernel_rfl) (hs := []) (by
  intro k xs r h
  unfold s122 at h
  dsimp only at h
  split at h
  · exact ⟨Nat.le_of_ble_eq_true rfl, (v122 k _ _ _ _).trans h⟩
  · cases h)
theorem env14_ok : EnvOk Go.Proofs.Try.prog (envOf env14) := envOf_cons m122 Go.Proofs.Try.func122 (by kernel_rfl) (by kernel_rfl) env13_ok

-- spec.dyInt
noncomputable def f124 (k : Nat) (n : Int) : Option (Int × Int) :=
  some ((n, 0))
noncomputable def s124 : Spec := ⟨false, [(.pair (.int .i64) (.int .i64), true)], true, .pair (.int .i64) (.int .i64), fun k xs => match xs with | [.int .i64 n] => f124 k n | _ => none⟩
noncomputable def env15 : List (FuncId × Spec) := (124, s124) :: env14
theorem v124 (k : Nat) (n : Int) : runFn ti (envOf env14) 5 [] (finT ti true Go.Proofs.Try.f124.results.toList [(.pair (.int .i64) (.int .i64), true)] (.pair (.int .i64) (.int .i64))) k (bodyOf Go.Proofs.Try.f124) (initS 0 [.int .i64 n]) = f124 k n := by kernel_rfl
theorem m124 : Meets Go.Proofs.Try.prog 124 s124 := meets_of_run tiOk env14_ok mo Go.Proofs.Try.func124 (body := bodyOf Go.Proofs.Try.f124) (by kernel_rfl) (N := 5) (by kernel_rfl) (hs := []) (by
  intro k xs r h
  unfold s124 at h
  dsimp only at h
  split at h
  · exact ⟨Nat.le_of_ble_eq_true rfl, (v124 k _).trans h⟩
  · cases h)
theorem env15_ok : EnvOk Go.Proofs.Try.prog (envOf env15) := envOf_cons m124 Go.Proofs.Try.func124 (by kernel_rfl) (by kernel_rfl) env14_ok

-- spec.deFit
noncomputable def f68 (k : Nat) (i_Low_N : Int) (i_Low_K : Int) (i_High_N : Int) (i_High_K : Int) : Option (Bool) :=
  (f122 k i_Low_N i_Low_K i_High_N i_High_K).bind fun r0 =>
  bif r0 then
    bif decide (i_Low_K ≤ 5) then
      bif decide (i_High_K ≤ 5) then
        (f123 k i_Low_N i_Low_K i_High_N i_High_K).bind fun r1 =>
        bif decide (r1 < 0) then
          (f123 k (-8) 0 i_Low_N i_Low_K).bind fun r2 =>
          bif decide (r2 ≤ 0) then
            (f123 k i_High_N i_High_K 8 0).bind fun r3 =>
            some (decide (r3 ≤ 0))
          else
            some false
        else
          some false
      else
        some false
    else
      some false
  else
    some false
noncomputable def s68 : Spec := ⟨false, [(.bool, false)], true, .bool, fun k xs => match xs with | [.agg [.int .i64 i_Low_N, .int .i64 i_Low_K, .int .i64 i_High_N, .int .i64 i_High_K]] => f68 k i_Low_N i_Low_K i_High_N i_High_K | _ => none⟩
noncomputable def env16 : List (FuncId × Spec) := (68, s68) :: env15
theorem v68 (k : Nat) (i_Low_N : Int) (i_Low_K : Int) (i_High_N : Int) (i_High_K : Int) : runFn ti (envOf env15) 39 [] (finT ti true Go.Proofs.Try.f68.results.toList [(.bool, false)] (.bool)) k (bodyOf Go.Proofs.Try.f68) (initS 0 [.agg [.int .i64 i_Low_N, .int .i64 i_Low_K, .int .i64 i_High_N, .int .i64 i_High_K]]) = f68 k i_Low_N i_Low_K i_High_N i_High_K := by kernel_rfl
theorem m68 : Meets Go.Proofs.Try.prog 68 s68 := meets_of_run tiOk env15_ok mo Go.Proofs.Try.func68 (body := bodyOf Go.Proofs.Try.f68) (by kernel_rfl) (N := 39) (by kernel_rfl) (hs := []) (by
  intro k xs r h
  unfold s68 at h
  dsimp only at h
  split at h
  · exact ⟨Nat.le_of_ble_eq_true rfl, (v68 k _ _ _ _).trans h⟩
  · cases h)
theorem env16_ok : EnvOk Go.Proofs.Try.prog (envOf env16) := envOf_cons m68 Go.Proofs.Try.func68 (by kernel_rfl) (by kernel_rfl) env15_ok

-- spec.faAt
def h93 : Hints := [(1003, .lab [(1, .one (.frz 3 (Ty.int IntKind.i64))), (2, .one (.v)), (3, .one (.v)), (9, .one (.own 3 (Ty.int IntKind.i64))), (15, .one (.frz 3 (Ty.int IntKind.i64))), (16, .one (.v)), (17, .one (.v))]), (1008, .lab [(2, .one (.v)), (9, .one (.own 3 (Ty.int IntKind.i64))), (33, .one (.frz 3 (Ty.int IntKind.i64))), (34, .one (.v)), (35, .one (.v))])]
noncomputable def F93_1003 (k : Nat) (rec1003 : List Int → Int → Int → List Int → List Int → Int → Int → Option (List (Int))) (rec1008 : Int → List Int → List Int → Int → Int → Option (List (Int))) (q : List Int) (i : Int) (fine : Int) (outs : List Int) (t15 : List Int) (t16 : Int) (t17 : Int) : Option (List (Int)) :=
  bif decide (t17 < t16) then
    bif boundA t17 (List.length t15) then
      bif boundA t17 (List.length outs) then
        bif Nat.blt (Int.toNat t17) (List.length outs) then
          (f90 k fine).bind fun r0 =>
          bif boundA t17 (List.length outs) then
            bif Nat.blt (Int.toNat t17) (List.length outs) then
              rec1003 q i fine (List.set outs (Int.toNat t17) (IntKind.wrap IntKind.i64 (List.getD outs (Int.toNat t17) 0 + IntKind.wrap IntKind.i64 (List.getD t15 (Int.toNat t17) 0 * r0)))) t15 t16 (IntKind.wrap IntKind.i64 (t17 + 1))
            else
              none
          else
            none
        else
          none
      else
        none
    else
      none
  else
    rec1008 i outs q ((↑(List.length q) : Int)) (0)
noncomputable def F93_1008 (k : Nat) (rec1003 : List Int → Int → Int → List Int → List Int → Int → Int → Option (List (Int))) (rec1008 : Int → List Int → List Int → Int → Int → Option (List (Int))) (i : Int) (outs : List Int) (t33 : List Int) (t34 : Int) (t35 : Int) : Option (List (Int)) :=
  bif decide (t35 < t34) then
    bif boundA t35 (List.length t33) then
      bif boundA t35 (List.length outs) then
        bif Nat.blt (Int.toNat t35) (List.length outs) then
          bif boundA t35 (List.length outs) then
            bif Nat.blt (Int.toNat t35) (List.length outs) then
              rec1008 i (List.set outs (Int.toNat t35) (IntKind.wrap IntKind.i64 (List.getD outs (Int.toNat t35) 0 + IntKind.wrap IntKind.i64 (List.getD t33 (Int.toNat t35) 0 * i)))) t33 t34 (IntKind.wrap IntKind.i64 (t35 + 1))
            else
              none
          else
            none
        else
          none
      else
        none
    else
      none
  else
    some outs
noncomputable def F93 (k : Nat) (rec1003 : List Int → Int → Int → List Int → List Int → Int → Int → Option (List (Int))) (rec1008 : Int → List Int → List Int → Int → Int → Option (List (Int))) (p : List (Int)) (q : List (Int)) (i : Int) (fine : Int) : Option (List (Int)) :=
  rec1003 q i fine (List.replicate (Int.toNat 6) (dflt (Ty.int IntKind.i64))) p ((↑(List.length p) : Int)) (0)
noncomputable def l93 : Nat → (List Int → Int → Int → List Int → List Int → Int → Int → Option (List (Int))) × (Int → List Int → List Int → Int → Int → Option (List (Int)))
  | 0 => (fun _ _ _ _ _ _ _ => none, fun _ _ _ _ _ => none)
  | k + 1 => (F93_1003 k ((l93 k).1) ((l93 k).2), F93_1008 k ((l93 k).1) ((l93 k).2))
noncomputable def f93 (k : Nat) (p : List (Int)) (q : List (Int)) (i : Int) (fine : Int) : Option (List (Int)) := F93 k ((l93 k).1) ((l93 k).2) p q i fine
noncomputable def s93 : Spec := ⟨false, [(.slice 3 (.int .i64), false)], true, .slice 3 (.int .i64), fun k xs => match xs with | [.slc 3 (.int .i64) p, .slc 3 (.int .i64) q, .int .i64 i, .int .i64 fine] => f93 k p q i fine | _ => none⟩
noncomputable def env17 : List (FuncId × Spec) := (93, s93) :: env16
noncomputable abbrev x93 := exec ti (envOf env16) 51 h93 (finT ti true Go.Proofs.Try.f93.results.toList [(.slice 3 (.int .i64), false)] (.slice 3 (.int .i64)))
noncomputable def k93_1003 : List It := stackAt [.r, .r, .l, .r, .b, .lb none] (bodyOf Go.Proofs.Try.f93) []
def t93_1003 (q : List Int) (i : Int) (fine : Int) (outs : List Int) (t15 : List Int) (t16 : Int) (t17 : Int) : St := [(2, Cell.val (AVal.slc 3 (Ty.int IntKind.i64) q)), (4, Cell.val (AVal.int IntKind.i64 i)), (6, Cell.val (AVal.int IntKind.i64 fine)), (18, Cell.val (AVal.ref 3 none)), (3, Cell.row true 3 (Ty.int IntKind.i64) outs), (30, Cell.val (AVal.slc 3 (Ty.int IntKind.i64) t15)), (32, Cell.val (AVal.int IntKind.i64 t16)), (34, Cell.val (AVal.int IntKind.i64 t17))]
noncomputable def k93_1008 : List It := stackAt [.r, .r, .r, .l, .r, .b, .lb none] (bodyOf Go.Proofs.Try.f93) []
def t93_1008 (i : Int) (outs : List Int) (t33 : List Int) (t34 : Int) (t35 : Int) : St := [(4, Cell.val (AVal.int IntKind.i64 i)), (18, Cell.val (AVal.ref 3 none)), (3, Cell.row true 3 (Ty.int IntKind.i64) outs), (66, Cell.val (AVal.slc 3 (Ty.int IntKind.i64) t33)), (68, Cell.val (AVal.int IntKind.i64 t34)), (70, Cell.val (AVal.int IntKind.i64 t35))]
theorem e93_1003 (k : Nat) (q : List Int) (i : Int) (fine : Int) (outs : List Int) (t15 : List Int) (t16 : Int) (t17 : Int) : x93 (k + 1) k93_1003 (t93_1003 q i fine outs t15 t16 t17) = F93_1003 k (fun (q : List Int) (i : Int) (fine : Int) (outs : List Int) (t15 : List Int) (t16 : Int) (t17 : Int) => x93 k k93_1003 (t93_1003 q i fine outs t15 t16 t17)) (fun (i : Int) (outs : List Int) (t33 : List Int) (t34 : Int) (t35 : Int) => x93 k k93_1008 (t93_1008 i outs t33 t34 t35)) q i fine outs t15 t16 t17 := by kernel_rfl
theorem e93_1008 (k : Nat) (i : Int) (outs : List Int) (t33 : List Int) (t34 : Int) (t35 : Int) : x93 (k + 1) k93_1008 (t93_1008 i outs t33 t34 t35) = F93_1008 k (fun (q : List Int) (i : Int) (fine : Int) (outs : List Int) (t15 : List Int) (t16 : Int) (t17 : Int) => x93 k k93_1003 (t93_1003 q i fine outs t15 t16 t17)) (fun (i : Int) (outs : List Int) (t33 : List Int) (t34 : Int) (t35 : Int) => x93 k k93_1008 (t93_1008 i outs t33 t34 t35)) i outs t33 t34 t35 := by kernel_rfl
theorem q93 : ∀ k : Nat, ((fun (q : List Int) (i : Int) (fine : Int) (outs : List Int) (t15 : List Int) (t16 : Int) (t17 : Int) => x93 k k93_1003 (t93_1003 q i fine outs t15 t16 t17)), (fun (i : Int) (outs : List Int) (t33 : List Int) (t34 : Int) (t35 : Int) => x93 k k93_1008 (t93_1008 i outs t33 t34 t35))) = l93 k
  | 0 => rfl
  | k + 1 => by
    have h := q93 k
    show _ = (F93_1003 k ((l93 k).1) ((l93 k).2), F93_1008 k ((l93 k).1) ((l93 k).2))
    rw [← h]
    exact (Prod.ext (funext fun q => funext fun i => funext fun fine => funext fun outs => funext fun t15 => funext fun t16 => funext fun t17 => e93_1003 k q i fine outs t15 t16 t17) (funext fun i => funext fun outs => funext fun t33 => funext fun t34 => funext fun t35 => e93_1008 k i outs t33 t34 t35))
theorem w93 (k : Nat) (p : List (Int)) (q : List (Int)) (i : Int) (fine : Int) : runFn ti (envOf env16) 51 h93 (finT ti true Go.Proofs.Try.f93.results.toList [(.slice 3 (.int .i64), false)] (.slice 3 (.int .i64))) k (bodyOf Go.Proofs.Try.f93) (initS 0 [.slc 3 (.int .i64) p, .slc 3 (.int .i64) q, .int .i64 i, .int .i64 fine]) = F93 k (fun (q : List Int) (i : Int) (fine : Int) (outs : List Int) (t15 : List Int) (t16 : Int) (t17 : Int) => x93 k k93_1003 (t93_1003 q i fine outs t15 t16 t17)) (fun (i : Int) (outs : List Int) (t33 : List Int) (t34 : Int) (t35 : Int) => x93 k k93_1008 (t93_1008 i outs t33 t34 t35)) p q i fine := by kernel_rfl
theorem v93 (k : Nat) (p : List (Int)) (q : List (Int)) (i : Int) (fine : Int) : runFn ti (envOf env16) 51 h93 (finT ti true Go.Proofs.Try.f93.results.toList [(.slice 3 (.int .i64), false)] (.slice 3 (.int .i64))) k (bodyOf Go.Proofs.Try.f93) (initS 0 [.slc 3 (.int .i64) p, .slc 3 (.int .i64) q, .int .i64 i, .int .i64 fine]) = f93 k p q i fine := by
  rw [w93]
  have h := q93 k
  unfold f93
  rw [← h]
theorem m93 : Meets Go.Proofs.Try.prog 93 s93 := meets_of_run tiOk env16_ok mo Go.Proofs.Try.func93 (body := bodyOf Go.Proofs.Try.f93) (by kernel_rfl) (N := 51) (by kernel_rfl) (hs := h93) (by
  intro k xs r h
  unfold s93 at h
  dsimp only at h
  split at h
  · exact ⟨Nat.le_of_ble_eq_true rfl, (v93 k _ _ _ _).trans h⟩
  · cases h)
theorem env17_ok : EnvOk Go.Proofs.Try.prog (envOf env17) := envOf_cons m93 Go.Proofs.Try.func93 (by kernel_rfl) (by kernel_rfl) env16_ok

-- spec.sgSign
def h186 : Hints := [(1003, .lab [(1, .one (.v)), (2, .one (.v)), (7, .one (.v)), (8, .one (.v)), (11, .one (.frz 3 (Ty.int IntKind.i64))), (12, .one (.v)), (13, .one (.v))])]
noncomputable def F186_1003 (k : Nat) (rec1003 : Int → Int → Int → Int → List Int → Int → Int → Option (Int)) (n : Int) (k_ : Int) (sum : Int) (up : Int) (t11 : List Int) (t12 : Int) (t13 : Int) : Option (Int) :=
  bif decide (t13 < t12) then
    bif boundA t13 (List.length t11) then
      (f90 k k_).bind fun r0 =>
      rec1003 n k_ (IntKind.wrap IntKind.i64 (IntKind.wrap IntKind.i64 (sum * r0) + IntKind.wrap IntKind.i64 (List.getD t11 (Int.toNat t13) 0 * up))) (IntKind.wrap IntKind.i64 (up * n)) t11 t12 (IntKind.wrap IntKind.i64 (t13 + 1))
    else
      none
  else
    (f185 k sum).bind fun r1 =>
    some r1
noncomputable def F186 (k : Nat) (rec1003 : Int → Int → Int → Int → List Int → Int → Int → Option (Int)) (p : List (Int)) (n : Int) (k_ : Int) : Option (Int) :=
  rec1003 n k_ (0) (1) p ((↑(List.length p) : Int)) (0)
noncomputable def l186 : Nat → (Int → Int → Int → Int → List Int → Int → Int → Option (Int))
  | 0 => fun _ _ _ _ _ _ _ => none
  | k + 1 => F186_1003 k (l186 k)
noncomputable def f186 (k : Nat) (p : List (Int)) (n : Int) (k_ : Int) : Option (Int) := F186 k (l186 k) p n k_
noncomputable def s186 : Spec := ⟨false, [(.int .i64, false)], true, .int .i64, fun k xs => match xs with | [.slc 3 (.int .i64) p, .int .i64 n, .int .i64 k_] => f186 k p n k_ | _ => none⟩
noncomputable def env18 : List (FuncId × Spec) := (186, s186) :: env17
noncomputable abbrev x186 := exec ti (envOf env17) 31 h186 (finT ti true Go.Proofs.Try.f186.results.toList [(.int .i64, false)] (.int .i64))
noncomputable def k186_1003 : List It := stackAt [.r, .r, .l, .r, .b, .lb none] (bodyOf Go.Proofs.Try.f186) []
def t186_1003 (n : Int) (k_ : Int) (sum : Int) (up : Int) (t11 : List Int) (t12 : Int) (t13 : Int) : St := [(2, Cell.val (AVal.int IntKind.i64 n)), (4, Cell.val (AVal.int IntKind.i64 k_)), (14, Cell.val (AVal.int IntKind.i64 sum)), (16, Cell.val (AVal.int IntKind.i64 up)), (22, Cell.val (AVal.slc 3 (Ty.int IntKind.i64) t11)), (24, Cell.val (AVal.int IntKind.i64 t12)), (26, Cell.val (AVal.int IntKind.i64 t13))]
theorem e186_1003 (k : Nat) (n : Int) (k_ : Int) (sum : Int) (up : Int) (t11 : List Int) (t12 : Int) (t13 : Int) : x186 (k + 1) k186_1003 (t186_1003 n k_ sum up t11 t12 t13) = F186_1003 k (fun (n : Int) (k_ : Int) (sum : Int) (up : Int) (t11 : List Int) (t12 : Int) (t13 : Int) => x186 k k186_1003 (t186_1003 n k_ sum up t11 t12 t13)) n k_ sum up t11 t12 t13 := by kernel_rfl
theorem q186 : ∀ k : Nat, (fun (n : Int) (k_ : Int) (sum : Int) (up : Int) (t11 : List Int) (t12 : Int) (t13 : Int) => x186 k k186_1003 (t186_1003 n k_ sum up t11 t12 t13)) = l186 k
  | 0 => rfl
  | k + 1 => by
    have h := q186 k
    show _ = F186_1003 k (l186 k)
    rw [← h]
    exact (funext fun n => funext fun k_ => funext fun sum => funext fun up => funext fun t11 => funext fun t12 => funext fun t13 => e186_1003 k n k_ sum up t11 t12 t13)
theorem w186 (k : Nat) (p : List (Int)) (n : Int) (k_ : Int) : runFn ti (envOf env17) 31 h186 (finT ti true Go.Proofs.Try.f186.results.toList [(.int .i64, false)] (.int .i64)) k (bodyOf Go.Proofs.Try.f186) (initS 0 [.slc 3 (.int .i64) p, .int .i64 n, .int .i64 k_]) = F186 k (fun (n : Int) (k_ : Int) (sum : Int) (up : Int) (t11 : List Int) (t12 : Int) (t13 : Int) => x186 k k186_1003 (t186_1003 n k_ sum up t11 t12 t13)) p n k_ := by kernel_rfl
theorem v186 (k : Nat) (p : List (Int)) (n : Int) (k_ : Int) : runFn ti (envOf env17) 31 h186 (finT ti true Go.Proofs.Try.f186.results.toList [(.int .i64, false)] (.int .i64)) k (bodyOf Go.Proofs.Try.f186) (initS 0 [.slc 3 (.int .i64) p, .int .i64 n, .int .i64 k_]) = f186 k p n k_ := by
  rw [w186]
  have h := q186 k
  unfold f186
  rw [← h]
theorem m186 : Meets Go.Proofs.Try.prog 186 s186 := meets_of_run tiOk env17_ok mo Go.Proofs.Try.func186 (body := bodyOf Go.Proofs.Try.f186) (by kernel_rfl) (N := 31) (by kernel_rfl) (hs := h186) (by
  intro k xs r h
  unfold s186 at h
  dsimp only at h
  split at h
  · exact ⟨Nat.le_of_ble_eq_true rfl, (v186 k _ _ _).trans h⟩
  · cases h)
theorem env18_ok : EnvOk Go.Proofs.Try.prog (envOf env18) := envOf_cons m186 Go.Proofs.Try.func186 (by kernel_rfl) (by kernel_rfl) env17_ok

-- spec.faSign
noncomputable def f125 (k : Nat) (p : List (Int)) (q : List (Int)) (x_N : Int) (x_K : Int) (i : Int) (fine : Int) : Option (Int) :=
  (f93 k p q i fine).bind fun r0 =>
  (f186 k r0 x_N x_K).bind fun r1 =>
  some r1
noncomputable def s125 : Spec := ⟨false, [(.int .i64, false)], true, .int .i64, fun k xs => match xs with | [.slc 3 (.int .i64) p, .slc 3 (.int .i64) q, .agg [.int .i64 x_N, .int .i64 x_K], .int .i64 i, .int .i64 fine] => f125 k p q x_N x_K i fine | _ => none⟩
noncomputable def env19 : List (FuncId × Spec) := (125, s125) :: env18
theorem v125 (k : Nat) (p : List (Int)) (q : List (Int)) (x_N : Int) (x_K : Int) (i : Int) (fine : Int) : runFn ti (envOf env18) 21 [] (finT ti true Go.Proofs.Try.f125.results.toList [(.int .i64, false)] (.int .i64)) k (bodyOf Go.Proofs.Try.f125) (initS 0 [.slc 3 (.int .i64) p, .slc 3 (.int .i64) q, .agg [.int .i64 x_N, .int .i64 x_K], .int .i64 i, .int .i64 fine]) = f125 k p q x_N x_K i fine := by kernel_rfl
theorem m125 : Meets Go.Proofs.Try.prog 125 s125 := meets_of_run tiOk env18_ok mo Go.Proofs.Try.func125 (body := bodyOf Go.Proofs.Try.f125) (by kernel_rfl) (N := 21) (by kernel_rfl) (hs := []) (by
  intro k xs r h
  unfold s125 at h
  dsimp only at h
  split at h
  · exact ⟨Nat.le_of_ble_eq_true rfl, (v125 k _ _ _ _ _ _).trans h⟩
  · cases h)
theorem env19_ok : EnvOk Go.Proofs.Try.prog (envOf env19) := envOf_cons m125 Go.Proofs.Try.func125 (by kernel_rfl) (by kernel_rfl) env18_ok

-- spec.faCross
noncomputable def f69 (k : Nat) (p : List (Int)) (q : List (Int)) (x_Low_N : Int) (x_Low_K : Int) (x_High_N : Int) (x_High_K : Int) (i : Int) (fine : Int) : Option (Bool) :=
  (f125 k p q x_Low_N x_Low_K i fine).bind fun r0 =>
  (f125 k p q x_High_N x_High_K i fine).bind fun r1 =>
  some (decide (IntKind.wrap IntKind.i64 (r0 * r1) < 0))
noncomputable def s69 : Spec := ⟨false, [(.bool, false)], true, .bool, fun k xs => match xs with | [.slc 3 (.int .i64) p, .slc 3 (.int .i64) q, .agg [.int .i64 x_Low_N, .int .i64 x_Low_K, .int .i64 x_High_N, .int .i64 x_High_K], .int .i64 i, .int .i64 fine] => f69 k p q x_Low_N x_Low_K x_High_N x_High_K i fine | _ => none⟩
noncomputable def env20 : List (FuncId × Spec) := (69, s69) :: env19
theorem v69 (k : Nat) (p : List (Int)) (q : List (Int)) (x_Low_N : Int) (x_Low_K : Int) (x_High_N : Int) (x_High_K : Int) (i : Int) (fine : Int) : runFn ti (envOf env19) 27 [] (finT ti true Go.Proofs.Try.f69.results.toList [(.bool, false)] (.bool)) k (bodyOf Go.Proofs.Try.f69) (initS 0 [.slc 3 (.int .i64) p, .slc 3 (.int .i64) q, .agg [.int .i64 x_Low_N, .int .i64 x_Low_K, .int .i64 x_High_N, .int .i64 x_High_K], .int .i64 i, .int .i64 fine]) = f69 k p q x_Low_N x_Low_K x_High_N x_High_K i fine := by kernel_rfl
theorem m69 : Meets Go.Proofs.Try.prog 69 s69 := meets_of_run tiOk env19_ok mo Go.Proofs.Try.func69 (body := bodyOf Go.Proofs.Try.f69) (by kernel_rfl) (N := 27) (by kernel_rfl) (hs := []) (by
  intro k xs r h
  unfold s69 at h
  dsimp only at h
  split at h
  · exact ⟨Nat.le_of_ble_eq_true rfl, (v69 k _ _ _ _ _ _ _ _).trans h⟩
  · cases h)
theorem env20_ok : EnvOk Go.Proofs.Try.prog (envOf env20) := envOf_cons m69 Go.Proofs.Try.func69 (by kernel_rfl) (by kernel_rfl) env19_ok

-- spec.l1Most
noncomputable def f165 (k : Nat) (a : Int) (b : Int) : Option (Int) :=
  bif decide (b < a) then
    some a
  else
    some b
noncomputable def s165 : Spec := ⟨false, [(.int .i64, false)], true, .int .i64, fun k xs => match xs with | [.int .i64 a, .int .i64 b] => f165 k a b | _ => none⟩
noncomputable def env21 : List (FuncId × Spec) := (165, s165) :: env20
theorem v165 (k : Nat) (a : Int) (b : Int) : runFn ti (envOf env20) 10 [] (finT ti true Go.Proofs.Try.f165.results.toList [(.int .i64, false)] (.int .i64)) k (bodyOf Go.Proofs.Try.f165) (initS 0 [.int .i64 a, .int .i64 b]) = f165 k a b := by kernel_rfl
theorem m165 : Meets Go.Proofs.Try.prog 165 s165 := meets_of_run tiOk env20_ok mo Go.Proofs.Try.func165 (body := bodyOf Go.Proofs.Try.f165) (by kernel_rfl) (N := 10) (by kernel_rfl) (hs := []) (by
  intro k xs r h
  unfold s165 at h
  dsimp only at h
  split at h
  · exact ⟨Nat.le_of_ble_eq_true rfl, (v165 k _ _).trans h⟩
  · cases h)
theorem env21_ok : EnvOk Go.Proofs.Try.prog (envOf env21) := envOf_cons m165 Go.Proofs.Try.func165 (by kernel_rfl) (by kernel_rfl) env20_ok

-- spec.dyMake
def h187 : Hints := [(1003, .lab [(0, .one (.v)), (1, .one (.v)), (4, .box 27 [.v, .v])])]
noncomputable def F187_1003 (k : Nat) (rec1003 : Int → Int → Int → Int → Option ((Int × Int) × Bool)) (n : Int) (k_ : Int) (t4s_0 : Int) (t4s_1 : Int) : Option ((Int × Int) × Bool) :=
  bif decide (0 < k_) then
    bif decide (Int.tmod n 2 = 0) then
      rec1003 (IntKind.wrap IntKind.i64 (Int.tdiv n 2)) (IntKind.wrap IntKind.i64 (k_ - 1)) t4s_0 t4s_1
    else
      (f183 k n k_).bind fun r0 =>
      bif !r0 then
        some (((0, 0), false))
      else
        some (((n, k_), true))
  else
    (f183 k n k_).bind fun r1 =>
    bif !r1 then
      some (((0, 0), false))
    else
      some (((n, k_), true))
noncomputable def F187 (k : Nat) (rec1003 : Int → Int → Int → Int → Option ((Int × Int) × Bool)) (n : Int) (k_ : Int) : Option ((Int × Int) × Bool) :=
  bif decide (n = 0) then
    bif decide (0 < k_) then
      rec1003 n (0) (0) (0)
    else
      rec1003 n k_ (0) (0)
  else
    rec1003 n k_ (0) (0)
noncomputable def l187 : Nat → (Int → Int → Int → Int → Option ((Int × Int) × Bool))
  | 0 => fun _ _ _ _ => none
  | k + 1 => F187_1003 k (l187 k)
noncomputable def f187 (k : Nat) (n : Int) (k_ : Int) : Option ((Int × Int) × Bool) := F187 k (l187 k) n k_
noncomputable def s187 : Spec := ⟨false, [(.pair (.int .i64) (.int .i64), true), (.bool, false)], true, .pair (.pair (.int .i64) (.int .i64)) (.bool), fun k xs => match xs with | [.int .i64 n, .int .i64 k_] => f187 k n k_ | _ => none⟩
noncomputable def env22 : List (FuncId × Spec) := (187, s187) :: env21
noncomputable abbrev x187 := exec ti (envOf env21) 32 h187 (finT ti true Go.Proofs.Try.f187.results.toList [(.pair (.int .i64) (.int .i64), true), (.bool, false)] (.pair (.pair (.int .i64) (.int .i64)) (.bool)))
noncomputable def k187_1003 : List It := stackAt [.r, .r, .l, .b, .lb none] (bodyOf Go.Proofs.Try.f187) []
def t187_1003 (n : Int) (k_ : Int) (t4s_0 : Int) (t4s_1 : Int) : St := [(0, Cell.val (AVal.int IntKind.i64 n)), (2, Cell.val (AVal.int IntKind.i64 k_)), (8, Cell.val (AVal.ptr 3 0)), (3, Cell.mem true 27 [AVal.int IntKind.i64 t4s_0, AVal.int IntKind.i64 t4s_1])]
theorem e187_1003 (k : Nat) (n : Int) (k_ : Int) (t4s_0 : Int) (t4s_1 : Int) : x187 (k + 1) k187_1003 (t187_1003 n k_ t4s_0 t4s_1) = F187_1003 k (fun (n : Int) (k_ : Int) (t4s_0 : Int) (t4s_1 : Int) => x187 k k187_1003 (t187_1003 n k_ t4s_0 t4s_1)) n k_ t4s_0 t4s_1 := by kernel_rfl
theorem q187 : ∀ k : Nat, (fun (n : Int) (k_ : Int) (t4s_0 : Int) (t4s_1 : Int) => x187 k k187_1003 (t187_1003 n k_ t4s_0 t4s_1)) = l187 k
  | 0 => rfl
  | k + 1 => by
    have h := q187 k
    show _ = F187_1003 k (l187 k)
    rw [← h]
    exact (funext fun n => funext fun k_ => funext fun t4s_0 => funext fun t4s_1 => e187_1003 k n k_ t4s_0 t4s_1)
theorem w187 (k : Nat) (n : Int) (k_ : Int) : runFn ti (envOf env21) 32 h187 (finT ti true Go.Proofs.Try.f187.results.toList [(.pair (.int .i64) (.int .i64), true), (.bool, false)] (.pair (.pair (.int .i64) (.int .i64)) (.bool))) k (bodyOf Go.Proofs.Try.f187) (initS 0 [.int .i64 n, .int .i64 k_]) = F187 k (fun (n : Int) (k_ : Int) (t4s_0 : Int) (t4s_1 : Int) => x187 k k187_1003 (t187_1003 n k_ t4s_0 t4s_1)) n k_ := by kernel_rfl
theorem v187 (k : Nat) (n : Int) (k_ : Int) : runFn ti (envOf env21) 32 h187 (finT ti true Go.Proofs.Try.f187.results.toList [(.pair (.int .i64) (.int .i64), true), (.bool, false)] (.pair (.pair (.int .i64) (.int .i64)) (.bool))) k (bodyOf Go.Proofs.Try.f187) (initS 0 [.int .i64 n, .int .i64 k_]) = f187 k n k_ := by
  rw [w187]
  have h := q187 k
  unfold f187
  rw [← h]
theorem m187 : Meets Go.Proofs.Try.prog 187 s187 := meets_of_run tiOk env21_ok mo Go.Proofs.Try.func187 (body := bodyOf Go.Proofs.Try.f187) (by kernel_rfl) (N := 32) (by kernel_rfl) (hs := h187) (by
  intro k xs r h
  unfold s187 at h
  dsimp only at h
  split at h
  · exact ⟨Nat.le_of_ble_eq_true rfl, (v187 k _ _).trans h⟩
  · cases h)
theorem env22_ok : EnvOk Go.Proofs.Try.prog (envOf env22) := envOf_cons m187 Go.Proofs.Try.func187 (by kernel_rfl) (by kernel_rfl) env21_ok

-- spec.dyHalf
noncomputable def f126 (k : Nat) (a_N : Int) (a_K : Int) (b_N : Int) (b_K : Int) : Option ((Int × Int) × Bool) :=
  (f165 k a_K b_K).bind fun r0 =>
  (f171 k a_N a_K r0).bind fun r1 =>
  (f171 k b_N b_K r0).bind fun r2 =>
  bif !r1.snd then
    some (((0, 0), false))
  else
    bif !r2.snd then
      some (((0, 0), false))
    else
      (f187 k (IntKind.wrap IntKind.i64 (r1.fst + r2.fst)) (IntKind.wrap IntKind.i64 (r0 + 1))).bind fun r3 =>
      some (((r3.fst.fst, r3.fst.snd), r3.snd))
noncomputable def s126 : Spec := ⟨false, [(.pair (.int .i64) (.int .i64), true), (.bool, false)], true, .pair (.pair (.int .i64) (.int .i64)) (.bool), fun k xs => match xs with | [.agg [.int .i64 a_N, .int .i64 a_K], .agg [.int .i64 b_N, .int .i64 b_K]] => f126 k a_N a_K b_N b_K | _ => none⟩
noncomputable def env23 : List (FuncId × Spec) := (126, s126) :: env22
theorem v126 (k : Nat) (a_N : Int) (a_K : Int) (b_N : Int) (b_K : Int) : runFn ti (envOf env22) 43 [] (finT ti true Go.Proofs.Try.f126.results.toList [(.pair (.int .i64) (.int .i64), true), (.bool, false)] (.pair (.pair (.int .i64) (.int .i64)) (.bool))) k (bodyOf Go.Proofs.Try.f126) (initS 0 [.agg [.int .i64 a_N, .int .i64 a_K], .agg [.int .i64 b_N, .int .i64 b_K]]) = f126 k a_N a_K b_N b_K := by kernel_rfl
theorem m126 : Meets Go.Proofs.Try.prog 126 s126 := meets_of_run tiOk env22_ok mo Go.Proofs.Try.func126 (body := bodyOf Go.Proofs.Try.f126) (by kernel_rfl) (N := 43) (by kernel_rfl) (hs := []) (by
  intro k xs r h
  unfold s126 at h
  dsimp only at h
  split at h
  · exact ⟨Nat.le_of_ble_eq_true rfl, (v126 k _ _ _ _).trans h⟩
  · cases h)
theorem env23_ok : EnvOk Go.Proofs.Try.prog (envOf env23) := envOf_cons m126 Go.Proofs.Try.func126 (by kernel_rfl) (by kernel_rfl) env22_ok

-- spec.faNarrow
def h70 : Hints := [(1001, .lab [(0, .one (.frz 3 (Ty.int IntKind.i64))), (1, .one (.frz 3 (Ty.int IntKind.i64))), (3, .one (.v)), (4, .one (.v)), (7, .box 29 [.v, .v, .v, .v]), (10, .box 29 [.v, .v, .v, .v])])]
noncomputable def F70_1001 (k : Nat) (rec1001 : List Int → List Int → Int → Int → Int → Int → Int → Int → Int → Int → Int → Int → Option ((Int × Int) × Int × Int)) (p : List Int) (q : List Int) (i : Int) (fine : Int) (xs_0 : Int) (xs_1 : Int) (xs_2 : Int) (xs_3 : Int) (t10s_0 : Int) (t10s_1 : Int) (t10s_2 : Int) (t10s_3 : Int) : Option ((Int × Int) × Int × Int) :=
  (f126 k xs_0 xs_1 xs_2 xs_3).bind fun r0 =>
  bif decide (5 < r0.fst.snd) then
    some (((xs_0, xs_1), xs_2, xs_3))
  else
    (f125 k p q r0.fst.fst r0.fst.snd i fine).bind fun r1 =>
    bif decide (r1 = 0) then
      some (((xs_0, xs_1), xs_2, xs_3))
    else
      (f69 k p q xs_0 xs_1 r0.fst.fst r0.fst.snd i fine).bind fun r2 =>
      bif r2 then
        rec1001 p q i fine xs_0 xs_1 (r0.fst.fst) (r0.fst.snd) t10s_0 t10s_1 t10s_2 t10s_3
      else
        rec1001 p q i fine (r0.fst.fst) (r0.fst.snd) xs_2 xs_3 t10s_0 t10s_1 t10s_2 t10s_3
noncomputable def F70 (k : Nat) (rec1001 : List Int → List Int → Int → Int → Int → Int → Int → Int → Int → Int → Int → Int → Option ((Int × Int) × Int × Int)) (p : List (Int)) (q : List (Int)) (x_Low_N : Int) (x_Low_K : Int) (x_High_N : Int) (x_High_K : Int) (i : Int) (fine : Int) : Option ((Int × Int) × Int × Int) :=
  rec1001 p q i fine x_Low_N x_Low_K x_High_N x_High_K (0) (0) (0) (0)
noncomputable def l70 : Nat → (List Int → List Int → Int → Int → Int → Int → Int → Int → Int → Int → Int → Int → Option ((Int × Int) × Int × Int))
  | 0 => fun _ _ _ _ _ _ _ _ _ _ _ _ => none
  | k + 1 => F70_1001 k (l70 k)
noncomputable def f70 (k : Nat) (p : List (Int)) (q : List (Int)) (x_Low_N : Int) (x_Low_K : Int) (x_High_N : Int) (x_High_K : Int) (i : Int) (fine : Int) : Option ((Int × Int) × Int × Int) := F70 k (l70 k) p q x_Low_N x_Low_K x_High_N x_High_K i fine
noncomputable def s70 : Spec := ⟨false, [(.pair (.pair (.int .i64) (.int .i64)) (.pair (.int .i64) (.int .i64)), true)], true, .pair (.pair (.int .i64) (.int .i64)) (.pair (.int .i64) (.int .i64)), fun k xs => match xs with | [.slc 3 (.int .i64) p, .slc 3 (.int .i64) q, .agg [.int .i64 x_Low_N, .int .i64 x_Low_K, .int .i64 x_High_N, .int .i64 x_High_K], .int .i64 i, .int .i64 fine] => f70 k p q x_Low_N x_Low_K x_High_N x_High_K i fine | _ => none⟩
noncomputable def env24 : List (FuncId × Spec) := (70, s70) :: env23
noncomputable abbrev x70 := exec ti (envOf env23) 50 h70 (finT ti true Go.Proofs.Try.f70.results.toList [(.pair (.pair (.int .i64) (.int .i64)) (.pair (.int .i64) (.int .i64)), true)] (.pair (.pair (.int .i64) (.int .i64)) (.pair (.int .i64) (.int .i64))))
noncomputable def k70_1001 : List It := stackAt [.r, .b, .lb none] (bodyOf Go.Proofs.Try.f70) []
def t70_1001 (p : List Int) (q : List Int) (i : Int) (fine : Int) (xs_0 : Int) (xs_1 : Int) (xs_2 : Int) (xs_3 : Int) (t10s_0 : Int) (t10s_1 : Int) (t10s_2 : Int) (t10s_3 : Int) : St := [(0, Cell.val (AVal.slc 3 (Ty.int IntKind.i64) p)), (2, Cell.val (AVal.slc 3 (Ty.int IntKind.i64) q)), (6, Cell.val (AVal.int IntKind.i64 i)), (8, Cell.val (AVal.int IntKind.i64 fine)), (14, Cell.val (AVal.ptr 3 0)), (3, Cell.mem true 29 [AVal.int IntKind.i64 xs_0, AVal.int IntKind.i64 xs_1, AVal.int IntKind.i64 xs_2, AVal.int IntKind.i64 xs_3]), (20, Cell.val (AVal.ptr 5 0)), (5, Cell.mem true 29 [AVal.int IntKind.i64 t10s_0, AVal.int IntKind.i64 t10s_1, AVal.int IntKind.i64 t10s_2, AVal.int IntKind.i64 t10s_3])]
theorem e70_1001 (k : Nat) (p : List Int) (q : List Int) (i : Int) (fine : Int) (xs_0 : Int) (xs_1 : Int) (xs_2 : Int) (xs_3 : Int) (t10s_0 : Int) (t10s_1 : Int) (t10s_2 : Int) (t10s_3 : Int) : x70 (k + 1) k70_1001 (t70_1001 p q i fine xs_0 xs_1 xs_2 xs_3 t10s_0 t10s_1 t10s_2 t10s_3) = F70_1001 k (fun (p : List Int) (q : List Int) (i : Int) (fine : Int) (xs_0 : Int) (xs_1 : Int) (xs_2 : Int) (xs_3 : Int) (t10s_0 : Int) (t10s_1 : Int) (t10s_2 : Int) (t10s_3 : Int) => x70 k k70_1001 (t70_1001 p q i fine xs_0 xs_1 xs_2 xs_3 t10s_0 t10s_1 t10s_2 t10s_3)) p q i fine xs_0 xs_1 xs_2 xs_3 t10s_0 t10s_1 t10s_2 t10s_3 := by kernel_rfl
theorem q70 : ∀ k : Nat, (fun (p : List Int) (q : List Int) (i : Int) (fine : Int) (xs_0 : Int) (xs_1 : Int) (xs_2 : Int) (xs_3 : Int) (t10s_0 : Int) (t10s_1 : Int) (t10s_2 : Int) (t10s_3 : Int) => x70 k k70_1001 (t70_1001 p q i fine xs_0 xs_1 xs_2 xs_3 t10s_0 t10s_1 t10s_2 t10s_3)) = l70 k
  | 0 => rfl
  | k + 1 => by
    have h := q70 k
    show _ = F70_1001 k (l70 k)
    rw [← h]
    exact (funext fun p => funext fun q => funext fun i => funext fun fine => funext fun xs_0 => funext fun xs_1 => funext fun xs_2 => funext fun xs_3 => funext fun t10s_0 => funext fun t10s_1 => funext fun t10s_2 => funext fun t10s_3 => e70_1001 k p q i fine xs_0 xs_1 xs_2 xs_3 t10s_0 t10s_1 t10s_2 t10s_3)
theorem w70 (k : Nat) (p : List (Int)) (q : List (Int)) (x_Low_N : Int) (x_Low_K : Int) (x_High_N : Int) (x_High_K : Int) (i : Int) (fine : Int) : runFn ti (envOf env23) 50 h70 (finT ti true Go.Proofs.Try.f70.results.toList [(.pair (.pair (.int .i64) (.int .i64)) (.pair (.int .i64) (.int .i64)), true)] (.pair (.pair (.int .i64) (.int .i64)) (.pair (.int .i64) (.int .i64)))) k (bodyOf Go.Proofs.Try.f70) (initS 0 [.slc 3 (.int .i64) p, .slc 3 (.int .i64) q, .agg [.int .i64 x_Low_N, .int .i64 x_Low_K, .int .i64 x_High_N, .int .i64 x_High_K], .int .i64 i, .int .i64 fine]) = F70 k (fun (p : List Int) (q : List Int) (i : Int) (fine : Int) (xs_0 : Int) (xs_1 : Int) (xs_2 : Int) (xs_3 : Int) (t10s_0 : Int) (t10s_1 : Int) (t10s_2 : Int) (t10s_3 : Int) => x70 k k70_1001 (t70_1001 p q i fine xs_0 xs_1 xs_2 xs_3 t10s_0 t10s_1 t10s_2 t10s_3)) p q x_Low_N x_Low_K x_High_N x_High_K i fine := by kernel_rfl
theorem v70 (k : Nat) (p : List (Int)) (q : List (Int)) (x_Low_N : Int) (x_Low_K : Int) (x_High_N : Int) (x_High_K : Int) (i : Int) (fine : Int) : runFn ti (envOf env23) 50 h70 (finT ti true Go.Proofs.Try.f70.results.toList [(.pair (.pair (.int .i64) (.int .i64)) (.pair (.int .i64) (.int .i64)), true)] (.pair (.pair (.int .i64) (.int .i64)) (.pair (.int .i64) (.int .i64)))) k (bodyOf Go.Proofs.Try.f70) (initS 0 [.slc 3 (.int .i64) p, .slc 3 (.int .i64) q, .agg [.int .i64 x_Low_N, .int .i64 x_Low_K, .int .i64 x_High_N, .int .i64 x_High_K], .int .i64 i, .int .i64 fine]) = f70 k p q x_Low_N x_Low_K x_High_N x_High_K i fine := by
  rw [w70]
  have h := q70 k
  unfold f70
  rw [← h]
theorem m70 : Meets Go.Proofs.Try.prog 70 s70 := meets_of_run tiOk env23_ok mo Go.Proofs.Try.func70 (body := bodyOf Go.Proofs.Try.f70) (by kernel_rfl) (N := 50) (by kernel_rfl) (hs := h70) (by
  intro k xs r h
  unfold s70 at h
  dsimp only at h
  split at h
  · exact ⟨Nat.le_of_ble_eq_true rfl, (v70 k _ _ _ _ _ _ _ _).trans h⟩
  · cases h)
theorem env24_ok : EnvOk Go.Proofs.Try.prog (envOf env24) := envOf_cons m70 Go.Proofs.Try.func70 (by kernel_rfl) (by kernel_rfl) env23_ok

end Go.Proofs.YtbaeikcfchiiaaaE
