/- Functions, by the engine; printed. -/
import Derived.Test.YtbaeikcfchiiaaaCT1
set_option maxRecDepth 100000
set_option maxHeartbeats 4000000
set_option linter.unusedVariables false
namespace Go.Proofs.YtbaeikcfchiiaaaE
-- spec.dyDown
def f237 (k : Nat) (a : Int) (b : Int) : Option (Int) :=
  bif !decide (b = 0) then
    bif !decide (b = 0) then
      bif decide (Int.tmod a b < 0) then
        some (IntKind.wrap IntKind.i64 (IntKind.wrap IntKind.i64 (Int.tdiv a b) - 1))
      else
        some (IntKind.wrap IntKind.i64 (Int.tdiv a b))
    else
      none
  else
    none
def s237 : Spec := ⟨false, [(.int .i64, false)], true, .int .i64, fun k xs => match xs with | [.int .i64 a, .int .i64 b] => f237 k a b | _ => none⟩
def env13 : List (FuncId × Spec) := (237, s237) :: env12
theorem v237 (k : Nat) (a : Int) (b : Int) : runFn ti (envOf env12) 16 [] (finT ti true Go.Proofs.Try.f237.results.toList [(.int .i64, false)] (.int .i64)) k (bodyOf Go.Proofs.Try.f237) (initS 0 [.int .i64 a, .int .i64 b]) = f237 k a b := by kernel_rfl
theorem m237 : Meets Go.Proofs.Try.prog 237 s237 := meets_of_run tiOk env12_ok mo Go.Proofs.Try.func237 (body := bodyOf Go.Proofs.Try.f237) (by kernel_rfl) (N := 16) (by kernel_rfl) (hs := []) (by
  intro k xs r h
  unfold s237 at h
  dsimp only at h
  split at h
  · exact ⟨Nat.le_of_ble_eq_true rfl, (v237 k _ _).trans h⟩
  · cases h)
theorem env13_ok : EnvOk Go.Proofs.Try.prog (envOf env13) := envOf_cons m237 Go.Proofs.Try.func237 (by kernel_rfl) (by kernel_rfl) env12_ok

-- spec.dyFloor
def f184 (k : Nat) (a_N : Int) (a_K : Int) : Option (Int) :=
  (f90 k a_K).bind fun r0 =>
  (f237 k a_N r0).bind fun r1 =>
  some r1
def s184 : Spec := ⟨false, [(.int .i64, false)], true, .int .i64, fun k xs => match xs with | [.agg [.int .i64 a_N, .int .i64 a_K]] => f184 k a_N a_K | _ => none⟩
def env14 : List (FuncId × Spec) := (184, s184) :: env13
theorem v184 (k : Nat) (a_N : Int) (a_K : Int) : runFn ti (envOf env13) 9 [] (finT ti true Go.Proofs.Try.f184.results.toList [(.int .i64, false)] (.int .i64)) k (bodyOf Go.Proofs.Try.f184) (initS 0 [.agg [.int .i64 a_N, .int .i64 a_K]]) = f184 k a_N a_K := by kernel_rfl
theorem m184 : Meets Go.Proofs.Try.prog 184 s184 := meets_of_run tiOk env13_ok mo Go.Proofs.Try.func184 (body := bodyOf Go.Proofs.Try.f184) (by kernel_rfl) (N := 9) (by kernel_rfl) (hs := []) (by
  intro k xs r h
  unfold s184 at h
  dsimp only at h
  split at h
  · exact ⟨Nat.le_of_ble_eq_true rfl, (v184 k _ _).trans h⟩
  · cases h)
theorem env14_ok : EnvOk Go.Proofs.Try.prog (envOf env14) := envOf_cons m184 Go.Proofs.Try.func184 (by kernel_rfl) (by kernel_rfl) env13_ok

-- spec.l1Sign
def f185 (k : Nat) (n : Int) : Option (Int) :=
  bif decide (0 < n) then
    some (1)
  else
    bif decide (n < 0) then
      some (-1)
    else
      some (0)
def s185 : Spec := ⟨false, [(.int .i64, false)], true, .int .i64, fun k xs => match xs with | [.int .i64 n] => f185 k n | _ => none⟩
def env15 : List (FuncId × Spec) := (185, s185) :: env14
theorem v185 (k : Nat) (n : Int) : runFn ti (envOf env14) 9 [] (finT ti true Go.Proofs.Try.f185.results.toList [(.int .i64, false)] (.int .i64)) k (bodyOf Go.Proofs.Try.f185) (initS 0 [.int .i64 n]) = f185 k n := by kernel_rfl
theorem m185 : Meets Go.Proofs.Try.prog 185 s185 := meets_of_run tiOk env14_ok mo Go.Proofs.Try.func185 (body := bodyOf Go.Proofs.Try.f185) (by kernel_rfl) (N := 9) (by kernel_rfl) (hs := []) (by
  intro k xs r h
  unfold s185 at h
  dsimp only at h
  split at h
  · exact ⟨Nat.le_of_ble_eq_true rfl, (v185 k _).trans h⟩
  · cases h)
theorem env15_ok : EnvOk Go.Proofs.Try.prog (envOf env15) := envOf_cons m185 Go.Proofs.Try.func185 (by kernel_rfl) (by kernel_rfl) env14_ok

-- spec.dyCmp
def f123 (k : Nat) (a_N : Int) (a_K : Int) (b_N : Int) (b_K : Int) : Option (Int) :=
  (f184 k a_N a_K).bind fun r0 =>
  (f184 k b_N b_K).bind fun r1 =>
  bif !decide (r0 = r1) then
    (f185 k (IntKind.wrap IntKind.i64 (r0 - r1))).bind fun r2 =>
    some r2
  else
    (f90 k a_K).bind fun r3 =>
    (f171 k (IntKind.wrap IntKind.i64 (a_N - IntKind.wrap IntKind.i64 (r0 * r3))) a_K 24).bind fun r4 =>
    (f90 k b_K).bind fun r5 =>
    (f171 k (IntKind.wrap IntKind.i64 (b_N - IntKind.wrap IntKind.i64 (r1 * r5))) b_K 24).bind fun r6 =>
    (f185 k (IntKind.wrap IntKind.i64 (r4.fst - r6.fst))).bind fun r7 =>
    some r7
def s123 : Spec := ⟨false, [(.int .i64, false)], true, .int .i64, fun k xs => match xs with | [.agg [.int .i64 a_N, .int .i64 a_K], .agg [.int .i64 b_N, .int .i64 b_K]] => f123 k a_N a_K b_N b_K | _ => none⟩
def env16 : List (FuncId × Spec) := (123, s123) :: env15
theorem v123 (k : Nat) (a_N : Int) (a_K : Int) (b_N : Int) (b_K : Int) : runFn ti (envOf env15) 56 [] (finT ti true Go.Proofs.Try.f123.results.toList [(.int .i64, false)] (.int .i64)) k (bodyOf Go.Proofs.Try.f123) (initS 0 [.agg [.int .i64 a_N, .int .i64 a_K], .agg [.int .i64 b_N, .int .i64 b_K]]) = f123 k a_N a_K b_N b_K := by kernel_rfl
theorem m123 : Meets Go.Proofs.Try.prog 123 s123 := meets_of_run tiOk env15_ok mo Go.Proofs.Try.func123 (body := bodyOf Go.Proofs.Try.f123) (by kernel_rfl) (N := 56) (by kernel_rfl) (hs := []) (by
  intro k xs r h
  unfold s123 at h
  dsimp only at h
  split at h
  · exact ⟨Nat.le_of_ble_eq_true rfl, (v123 k _ _ _ _).trans h⟩
  · cases h)
theorem env16_ok : EnvOk Go.Proofs.Try.prog (envOf env16) := envOf_cons m123 Go.Proofs.Try.func123 (by kernel_rfl) (by kernel_rfl) env15_ok

-- spec.dyGood
def f183 (k : Nat) (a_N : Int) (a_K : Int) : Option (Bool) :=
  (f121 k a_K 0 24).bind fun r0 =>
  bif r0 then
    (f121 k a_N (-1099511627776) 1099511627776).bind fun r1 =>
    bif r1 then
      bif decide (a_K = 0) then
        some true
      else
        some (!decide (Int.tmod a_N 2 = 0))
    else
      some false
  else
    some false
def s183 : Spec := ⟨false, [(.bool, false)], true, .bool, fun k xs => match xs with | [.agg [.int .i64 a_N, .int .i64 a_K]] => f183 k a_N a_K | _ => none⟩
def env17 : List (FuncId × Spec) := (183, s183) :: env16
theorem v183 (k : Nat) (a_N : Int) (a_K : Int) : runFn ti (envOf env16) 22 [] (finT ti true Go.Proofs.Try.f183.results.toList [(.bool, false)] (.bool)) k (bodyOf Go.Proofs.Try.f183) (initS 0 [.agg [.int .i64 a_N, .int .i64 a_K]]) = f183 k a_N a_K := by kernel_rfl
theorem m183 : Meets Go.Proofs.Try.prog 183 s183 := meets_of_run tiOk env16_ok mo Go.Proofs.Try.func183 (body := bodyOf Go.Proofs.Try.f183) (by kernel_rfl) (N := 22) (by kernel_rfl) (hs := []) (by
  intro k xs r h
  unfold s183 at h
  dsimp only at h
  split at h
  · exact ⟨Nat.le_of_ble_eq_true rfl, (v183 k _ _).trans h⟩
  · cases h)
theorem env17_ok : EnvOk Go.Proofs.Try.prog (envOf env17) := envOf_cons m183 Go.Proofs.Try.func183 (by kernel_rfl) (by kernel_rfl) env16_ok

-- spec.ivGood
def f122 (k : Nat) (i_Low_N : Int) (i_Low_K : Int) (i_High_N : Int) (i_High_K : Int) : Option (Bool) :=
  (f183 k i_Low_N i_Low_K).bind fun r0 =>
  bif r0 then
    (f183 k i_High_N i_High_K).bind fun r1 =>
    bif r1 then
      (f123 k i_Low_N i_Low_K i_High_N i_High_K).bind fun r2 =>
      some (decide (r2 ≤ 0))
    else
      some false
  else
    some false
def s122 : Spec := ⟨false, [(.bool, false)], true, .bool, fun k xs => match xs with | [.agg [.int .i64 i_Low_N, .int .i64 i_Low_K, .int .i64 i_High_N, .int .i64 i_High_K]] => f122 k i_Low_N i_Low_K i_High_N i_High_K | _ => none⟩
def env18 : List (FuncId × Spec) := (122, s122) :: env17
theorem v122 (k : Nat) (i_Low_N : Int) (i_Low_K : Int) (i_High_N : Int) (i_High_K : Int) : runFn ti (envOf env17) 19 [] (finT ti true Go.Proofs.Try.f122.results.toList [(.bool, false)] (.bool)) k (bodyOf Go.Proofs.Try.f122) (initS 0 [.agg [.int .i64 i_Low_N, .int .i64 i_Low_K, .int .i64 i_High_N, .int .i64 i_High_K]]) = f122 k i_Low_N i_Low_K i_High_N i_High_K := by kernel_rfl
theorem m122 : Meets Go.Proofs.Try.prog 122 s122 := meets_of_run tiOk env17_ok mo Go.Proofs.Try.func122 (body := bodyOf Go.Proofs.Try.f122) (by kernel_rfl) (N := 19) (by kernel_rfl) (hs := []) (by
  intro k xs r h
  unfold s122 at h
  dsimp only at h
  split at h
  · exact ⟨Nat.le_of_ble_eq_true rfl, (v122 k _ _ _ _).trans h⟩
  · cases h)
theorem env18_ok : EnvOk Go.Proofs.Try.prog (envOf env18) := envOf_cons m122 Go.Proofs.Try.func122 (by kernel_rfl) (by kernel_rfl) env17_ok

-- spec.dyInt
def f124 (k : Nat) (n : Int) : Option (Int × Int) :=
  some ((n, 0))
def s124 : Spec := ⟨false, [(.pair (.int .i64) (.int .i64), true)], true, .pair (.int .i64) (.int .i64), fun k xs => match xs with | [.int .i64 n] => f124 k n | _ => none⟩
def env19 : List (FuncId × Spec) := (124, s124) :: env18
theorem v124 (k : Nat) (n : Int) : runFn ti (envOf env18) 5 [] (finT ti true Go.Proofs.Try.f124.results.toList [(.pair (.int .i64) (.int .i64), true)] (.pair (.int .i64) (.int .i64))) k (bodyOf Go.Proofs.Try.f124) (initS 0 [.int .i64 n]) = f124 k n := by kernel_rfl
theorem m124 : Meets Go.Proofs.Try.prog 124 s124 := meets_of_run tiOk env18_ok mo Go.Proofs.Try.func124 (body := bodyOf Go.Proofs.Try.f124) (by kernel_rfl) (N := 5) (by kernel_rfl) (hs := []) (by
  intro k xs r h
  unfold s124 at h
  dsimp only at h
  split at h
  · exact ⟨Nat.le_of_ble_eq_true rfl, (v124 k _).trans h⟩
  · cases h)
theorem env19_ok : EnvOk Go.Proofs.Try.prog (envOf env19) := envOf_cons m124 Go.Proofs.Try.func124 (by kernel_rfl) (by kernel_rfl) env18_ok

-- spec.deFit
def f68 (k : Nat) (i_Low_N : Int) (i_Low_K : Int) (i_High_N : Int) (i_High_K : Int) : Option (Bool) :=
  (f122 k i_Low_N i_Low_K i_High_N i_High_K).bind fun r0 =>
  bif r0 then
    bif decide (i_Low_K ≤ 5) then
      bif decide (i_High_K ≤ 5) then
        (f123 k i_Low_N i_Low_K i_High_N i_High_K).bind fun r1 =>
        bif decide (r1 < 0) then
          (f123 k (-8) 0 i_Low_N i_Low_K).bind fun r2 =>
          bif decide (r2 ≤ 0) then
            (f123 k i_High_N i_High_K 8 0).bind fun r3 =>
            some (decide (r3 ≤ 0))
          else
            some false
        else
          some false
      else
        some false
    else
      some false
  else
    some false
def s68 : Spec := ⟨false, [(.bool, false)], true, .bool, fun k xs => match xs with | [.agg [.int .i64 i_Low_N, .int .i64 i_Low_K, .int .i64 i_High_N, .int .i64 i_High_K]] => f68 k i_Low_N i_Low_K i_High_N i_High_K | _ => none⟩
def env20 : List (FuncId × Spec) := (68, s68) :: env19
theorem v68 (k : Nat) (i_Low_N : Int) (i_Low_K : Int) (i_High_N : Int) (i_High_K : Int) : runFn ti (envOf env19) 39 [] (finT ti true Go.Proofs.Try.f68.results.toList [(.bool, false)] (.bool)) k (bodyOf Go.Proofs.Try.f68) (initS 0 [.agg [.int .i64 i_Low_N, .int .i64 i_Low_K, .int .i64 i_High_N, .int .i64 i_High_K]]) = f68 k i_Low_N i_Low_K i_High_N i_High_K := by kernel_rfl
theorem m68 : Meets Go.Proofs.Try.prog 68 s68 := meets_of_run tiOk env19_ok mo Go.Proofs.Try.func68 (body := bodyOf Go.Proofs.Try.f68) (by kernel_rfl) (N := 39) (by kernel_rfl) (hs := []) (by
  intro k xs r h
  unfold s68 at h
  dsimp only at h
  split at h
  · exact ⟨Nat.le_of_ble_eq_true rfl, (v68 k _ _ _ _).trans h⟩
  · cases h)
theorem env20_ok : EnvOk Go.Proofs.Try.prog (envOf env20) := envOf_cons m68 Go.Proofs.Try.func68 (by kernel_rfl) (by kernel_rfl) env19_ok

-- spec.faAt
def h93 : Hints := [(1003, .lab [(1, .one (.frz 3 (Ty.int IntKind.i64))), (2, .one (.v)), (3, .one (.v)), (9, .one (.own 3 (Ty.int IntKind.i64))), (15, .one (.frz 3 (Ty.int IntKind.i64))), (16, .one (.v)), (17, .one (.v))]), (1008, .lab [(2, .one (.v)), (9, .one (.own 3 (Ty.int IntKind.i64))), (33, .one (.frz 3 (Ty.int IntKind.i64))), (34, .one (.v)), (35, .one (.v))])]
def F93_1003 (k : Nat) (rec1003 : List Int → Int → Int → List Int → List Int → Int → Int → Option (List (Int))) (rec1008 : Int → List Int → List Int → Int → Int → Option (List (Int))) (q : List Int) (i : Int) (fine : Int) (outs : List Int) (t15 : List Int) (t16 : Int) (t17 : Int) : Option (List (Int)) :=
  bif decide (t17 < t16) then
    bif boundA t17 (List.length t15) then
      bif boundA t17 (List.length outs) then
        bif Nat.blt (Int.toNat t17) (List.length outs) then
          (f90 k fine).bind fun r0 =>
          bif boundA t17 (List.length outs) then
            bif Nat.blt (Int.toNat t17) (List.length outs) then
              rec1003 q i fine (List.set outs (Int.toNat t17) (IntKind.wrap IntKind.i64 (List.getD outs (Int.toNat t17) 0 + IntKind.wrap IntKind.i64 (List.getD t15 (Int.toNat t17) 0 * r0)))) t15 t16 (IntKind.wrap IntKind.i64 (t17 + 1))
            else
              none
          else
            none
        else
          none
      else
        none
    else
      none
  else
    rec1008 i outs q ((↑(List.length q) : Int)) (0)
def F93_1008 (k : Nat) (rec1003 : List Int → Int → Int → List Int → List Int → Int → Int → Option (List (Int))) (rec1008 : Int → List Int → List Int → Int → Int → Option (List (Int))) (i : Int) (outs : List Int) (t33 : List Int) (t34 : Int) (t35 : Int) : Option (List (Int)) :=
  bif decide (t35 < t34) then
    bif boundA t35 (List.length t33) then
      bif boundA t35 (List.length outs) then
        bif Nat.blt (Int.toNat t35) (List.length outs) then
          bif boundA t35 (List.length outs) then
            bif Nat.blt (Int.toNat t35) (List.length outs) then
              rec1008 i (List.set outs (Int.toNat t35) (IntKind.wrap IntKind.i64 (List.getD outs (Int.toNat t35) 0 + IntKind.wrap IntKind.i64 (List.getD t33 (Int.toNat t35) 0 * i)))) t33 t34 (IntKind.wrap IntKind.i64 (t35 + 1))
            else
              none
          else
            none
        else
          none
      else
        none
    else
      none
  else
    some outs
def F93 (k : Nat) (rec1003 : List Int → Int → Int → List Int → List Int → Int → Int → Option (List (Int))) (rec1008 : Int → List Int → List Int → Int → Int → Option (List (Int))) (p : List (Int)) (q : List (Int)) (i : Int) (fine : Int) : Option (List (Int)) :=
  rec1003 q i fine (List.replicate (Int.toNat 6) (dflt (Ty.int IntKind.i64))) p ((↑(List.length p) : Int)) (0)
def l93 : Nat → (List Int → Int → Int → List Int → List Int → Int → Int → Option (List (Int))) × (Int → List Int → List Int → Int → Int → Option (List (Int)))
  | 0 => (fun _ _ _ _ _ _ _ => none, fun _ _ _ _ _ => none)
  | k + 1 => (F93_1003 k ((l93 k).1) ((l93 k).2), F93_1008 k ((l93 k).1) ((l93 k).2))
def f93 (k : Nat) (p : List (Int)) (q : List (Int)) (i : Int) (fine : Int) : Option (List (Int)) := F93 k ((l93 k).1) ((l93 k).2) p q i fine
def s93 : Spec := ⟨false, [(.slice 3 (.int .i64), false)], true, .slice 3 (.int .i64), fun k xs => match xs with | [.slc 3 (.int .i64) p, .slc 3 (.int .i64) q, .int .i64 i, .int .i64 fine] => f93 k p q i fine | _ => none⟩
def env21 : List (FuncId × Spec) := (93, s93) :: env20
noncomputable abbrev x93 := exec ti (envOf env20) 51 h93 (finT ti true Go.Proofs.Try.f93.results.toList [(.slice 3 (.int .i64), false)] (.slice 3 (.int .i64)))
noncomputable def k93_1003 : List It := stackAt [.r, .r, .l, .r, .b, .lb none] (bodyOf Go.Proofs.Try.f93) []
def t93_1003 (q : List Int) (i : Int) (fine : Int) (outs : List Int) (t15 : List Int) (t16 : Int) (t17 : Int) : St := [(2, Cell.val (AVal.slc 3 (Ty.int IntKind.i64) q)), (4, Cell.val (AVal.int IntKind.i64 i)), (6, Cell.val (AVal.int IntKind.i64 fine)), (18, Cell.val (AVal.ref 3 none)), (3, Cell.row true 3 (Ty.int IntKind.i64) outs), (30, Cell.val (AVal.slc 3 (Ty.int IntKind.i64) t15)), (32, Cell.val (AVal.int IntKind.i64 t16)), (34, Cell.val (AVal.int IntKind.i64 t17))]
noncomputable def k93_1008 : List It := stackAt [.r, .r, .r, .l, .r, .b, .lb none] (bodyOf Go.Proofs.Try.f93) []
def t93_1008 (i : Int) (outs : List Int) (t33 : List Int) (t34 : Int) (t35 : Int) : St := [(4, Cell.val (AVal.int IntKind.i64 i)), (18, Cell.val (AVal.ref 3 none)), (3, Cell.row true 3 (Ty.int IntKind.i64) outs), (66, Cell.val (AVal.slc 3 (Ty.int IntKind.i64) t33)), (68, Cell.val (AVal.int IntKind.i64 t34)), (70, Cell.val (AVal.int IntKind.i64 t35))]
theorem e93_1003 (k : Nat) (q : List Int) (i : Int) (fine : Int) (outs : List Int) (t15 : List Int) (t16 : Int) (t17 : Int) : x93 (k + 1) k93_1003 (t93_1003 q i fine outs t15 t16 t17) = F93_1003 k (fun (q : List Int) (i : Int) (fine : Int) (outs : List Int) (t15 : List Int) (t16 : Int) (t17 : Int) => x93 k k93_1003 (t93_1003 q i fine outs t15 t16 t17)) (fun (i : Int) (outs : List Int) (t33 : List Int) (t34 : Int) (t35 : Int) => x93 k k93_1008 (t93_1008 i outs t33 t34 t35)) q i fine outs t15 t16 t17 := by kernel_rfl
theorem e93_1008 (k : Nat) (i : Int) (outs : List Int) (t33 : List Int) (t34 : Int) (t35 : Int) : x93 (k + 1) k93_1008 (t93_1008 i outs t33 t34 t35) = F93_1008 k (fun (q : List Int) (i : Int) (fine : Int) (outs : List Int) (t15 : List Int) (t16 : Int) (t17 : Int) => x93 k k93_1003 (t93_1003 q i fine outs t15 t16 t17)) (fun (i : Int) (outs : List Int) (t33 : List Int) (t34 : Int) (t35 : Int) => x93 k k93_1008 (t93_1008 i outs t33 t34 t35)) i outs t33 t34 t35 := by kernel_rfl
theorem q93 : ∀ k : Nat, ((fun (q : List Int) (i : Int) (fine : Int) (outs : List Int) (t15 : List Int) (t16 : Int) (t17 : Int) => x93 k k93_1003 (t93_1003 q i fine outs t15 t16 t17)), (fun (i : Int) (outs : List Int) (t33 : List Int) (t34 : Int) (t35 : Int) => x93 k k93_1008 (t93_1008 i outs t33 t34 t35))) = l93 k
  | 0 => rfl
  | k + 1 => by
    have h := q93 k
    show _ = (F93_1003 k ((l93 k).1) ((l93 k).2), F93_1008 k ((l93 k).1) ((l93 k).2))
    rw [← h]
    exact (Prod.ext (funext fun q => funext fun i => funext fun fine => funext fun outs => funext fun t15 => funext fun t16 => funext fun t17 => e93_1003 k q i fine outs t15 t16 t17) (funext fun i => funext fun outs => funext fun t33 => funext fun t34 => funext fun t35 => e93_1008 k i outs t33 t34 t35))
theorem w93 (k : Nat) (p : List (Int)) (q : List (Int)) (i : Int) (fine : Int) : runFn ti (envOf env20) 51 h93 (finT ti true Go.Proofs.Try.f93.results.toList [(.slice 3 (.int .i64), false)] (.slice 3 (.int .i64))) k (bodyOf Go.Proofs.Try.f93) (initS 0 [.slc 3 (.int .i64) p, .slc 3 (.int .i64) q, .int .i64 i, .int .i64 fine]) = F93 k (fun (q : List Int) (i : Int) (fine : Int) (outs : List Int) (t15 : List Int) (t16 : Int) (t17 : Int) => x93 k k93_1003 (t93_1003 q i fine outs t15 t16 t17)) (fun (i : Int) (outs : List Int) (t33 : List Int) (t34 : Int) (t35 : Int) => x93 k k93_1008 (t93_1008 i outs t33 t34 t35)) p q i fine := by kernel_rfl
theorem v93 (k : Nat) (p : List (Int)) (q : List (Int)) (i : Int) (fine : Int) : runFn ti (envOf env20) 51 h93 (finT ti true Go.Proofs.Try.f93.results.toList [(.slice 3 (.int .i64), false)] (.slice 3 (.int .i64))) k (bodyOf Go.Proofs.Try.f93) (initS 0 [.slc 3 (.int .i64) p, .slc 3 (.int .i64) q, .int .i64 i, .int .i64 fine]) = f93 k p q i fine := by
  rw [w93]
  have h := q93 k
  unfold f93
  rw [← h]
theorem m93 : Meets Go.Proofs.Try.prog 93 s93 := meets_of_run tiOk env20_ok mo Go.Proofs.Try.func93 (body := bodyOf Go.Proofs.Try.f93) (by kernel_rfl) (N := 51) (by kernel_rfl) (hs := h93) (by
  intro k xs r h
  unfold s93 at h
  dsimp only at h
  split at h
  · exact ⟨Nat.le_of_ble_eq_true rfl, (v93 k _ _ _ _).trans h⟩
  · cases h)
theorem env21_ok : EnvOk Go.Proofs.Try.prog (envOf env21) := envOf_cons m93 Go.Proofs.Try.func93 (by kernel_rfl) (by kernel_rfl) env20_ok

-- spec.sgSign
def h186 : Hints := [(1003, .lab [(1, .one (.v)), (2, .one (.v)), (7, .one (.v)), (8, .one (.v)), (11, .one (.frz 3 (Ty.int IntKind.i64))), (12, .one (.v)), (13, .one (.v))])]
def F186_1003 (k : Nat) (rec1003 : Int → Int → Int → Int → List Int → Int → Int → Option (Int)) (n : Int) (k_ : Int) (sum : Int) (up : Int) (t11 : List Int) (t12 : Int) (t13 : Int) : Option (Int) :=
  bif decide (t13 < t12) then
    bif boundA t13 (List.length t11) then
      (f90 k k_).bind fun r0 =>
      rec1003 n k_ (IntKind.wrap IntKind.i64 (IntKind.wrap IntKind.i64 (sum * r0) + IntKind.wrap IntKind.i64 (List.getD t11 (Int.toNat t13) 0 * up))) (IntKind.wrap IntKind.i64 (up * n)) t11 t12 (IntKind.wrap IntKind.i64 (t13 + 1))
    else
      none
  else
    (f185 k sum).bind fun r1 =>
    some r1
def F186 (k : Nat) (rec1003 : Int → Int → Int → Int → List Int → Int → Int → Option (Int)) (p : List (Int)) (n : Int) (k_ : Int) : Option (Int) :=
  rec1003 n k_ (0) (1) p ((↑(List.length p) : Int)) (0)
def l186 : Nat → (Int → Int → Int → Int → List Int → Int → Int → Option (Int))
  | 0 => fun _ _ _ _ _ _ _ => none
  | k + 1 => F186_1003 k (l186 k)
def f186 (k : Nat) (p : List (Int)) (n : Int) (k_ : Int) : Option (Int) := F186 k (l186 k) p n k_
def s186 : Spec := ⟨false, [(.int .i64, false)], true, .int .i64, fun k xs => match xs with | [.slc 3 (.int .i64) p, .int .i64 n, .int .i64 k_] => f186 k p n k_ | _ => none⟩
def env22 : List (FuncId × Spec) := (186, s186) :: env21
noncomputable abbrev x186 := exec ti (envOf env21) 31 h186 (finT ti true Go.Proofs.Try.f186.results.toList [(.int .i64, false)] (.int .i64))
noncomputable def k186_1003 : List It := stackAt [.r, .r, .l, .r, .b, .lb none] (bodyOf Go.Proofs.Try.f186) []
def t186_1003 (n : Int) (k_ : Int) (sum : Int) (up : Int) (t11 : List Int) (t12 : Int) (t13 : Int) : St := [(2, Cell.val (AVal.int IntKind.i64 n)), (4, Cell.val (AVal.int IntKind.i64 k_)), (14, Cell.val (AVal.int IntKind.i64 sum)), (16, Cell.val (AVal.int IntKind.i64 up)), (22, Cell.val (AVal.slc 3 (Ty.int IntKind.i64) t11)), (24, Cell.val (AVal.int IntKind.i64 t12)), (26, Cell.val (AVal.int IntKind.i64 t13))]
theorem e186_1003 (k : Nat) (n : Int) (k_ : Int) (sum : Int) (up : Int) (t11 : List Int) (t12 : Int) (t13 : Int) : x186 (k + 1) k186_1003 (t186_1003 n k_ sum up t11 t12 t13) = F186_1003 k (fun (n : Int) (k_ : Int) (sum : Int) (up : Int) (t11 : List Int) (t12 : Int) (t13 : Int) => x186 k k186_1003 (t186_1003 n k_ sum up t11 t12 t13)) n k_ sum up t11 t12 t13 := by kernel_rfl
theorem q186 : ∀ k : Nat, (fun (n : Int) (k_ : Int) (sum : Int) (up : Int) (t11 : List Int) (t12 : Int) (t13 : Int) => x186 k k186_1003 (t186_1003 n k_ sum up t11 t12 t13)) = l186 k
  | 0 => rfl
  | k + 1 => by
    have h := q186 k
    show _ = F186_1003 k (l186 k)
    rw [← h]
    exact (funext fun n => funext fun k_ => funext fun sum => funext fun up => funext fun t11 => funext fun t12 => funext fun t13 => e186_1003 k n k_ sum up t11 t12 t13)
theorem w186 (k : Nat) (p : List (Int)) (n : Int) (k_ : Int) : runFn ti (envOf env21) 31 h186 (finT ti true Go.Proofs.Try.f186.results.toList [(.int .i64, false)] (.int .i64)) k (bodyOf Go.Proofs.Try.f186) (initS 0 [.slc 3 (.int .i64) p, .int .i64 n, .int .i64 k_]) = F186 k (fun (n : Int) (k_ : Int) (sum : Int) (up : Int) (t11 : List Int) (t12 : Int) (t13 : Int) => x186 k k186_1003 (t186_1003 n k_ sum up t11 t12 t13)) p n k_ := by kernel_rfl
theorem v186 (k : Nat) (p : List (Int)) (n : Int) (k_ : Int) : runFn ti (envOf env21) 31 h186 (finT ti true Go.Proofs.Try.f186.results.toList [(.int .i64, false)] (.int .i64)) k (bodyOf Go.Proofs.Try.f186) (initS 0 [.slc 3 (.int .i64) p, .int .i64 n, .int .i64 k_]) = f186 k p n k_ := by
  rw [w186]
  have h := q186 k
  unfold f186
  rw [← h]
theorem m186 : Meets Go.Proofs.Try.prog 186 s186 := meets_of_run tiOk env21_ok mo Go.Proofs.Try.func186 (body := bodyOf Go.Proofs.Try.f186) (by kernel_rfl) (N := 31) (by kernel_rfl) (hs := h186) (by
  intro k xs r h
  unfold s186 at h
  dsimp only at h
  split at h
  · exact ⟨Nat.le_of_ble_eq_true rfl, (v186 k _ _ _).trans h⟩
  · cases h)
theorem env22_ok : EnvOk Go.Proofs.Try.prog (envOf env22) := envOf_cons m186 Go.Proofs.Try.func186 (by kernel_rfl) (by kernel_rfl) env21_ok

-- spec.faSign
def f125 (k : Nat) (p : List (Int)) (q : List (Int)) (x_N : Int) (x_K : Int) (i : Int) (fine : Int) : Option (Int) :=
  (f93 k p q i fine).bind fun r0 =>
  (f186 k r0 x_N x_K).bind fun r1 =>
  some r1
def s125 : Spec := ⟨false, [(.int .i64, false)], true, .int .i64, fun k xs => match xs with | [.slc 3 (.int .i64) p, .slc 3 (.int .i64) q, .agg [.int .i64 x_N, .int .i64 x_K], .int .i64 i, .int .i64 fine] => f125 k p q x_N x_K i fine | _ => none⟩
def env23 : List (FuncId × Spec) := (125, s125) :: env22
theorem v125 (k : Nat) (p : List (Int)) (q : List (Int)) (x_N : Int) (x_K : Int) (i : Int) (fine : Int) : runFn ti (envOf env22) 21 [] (finT ti true Go.Proofs.Try.f125.results.toList [(.int .i64, false)] (.int .i64)) k (bodyOf Go.Proofs.Try.f125) (initS 0 [.slc 3 (.int .i64) p, .slc 3 (.int .i64) q, .agg [.int .i64 x_N, .int .i64 x_K], .int .i64 i, .int .i64 fine]) = f125 k p q x_N x_K i fine := by kernel_rfl
theorem m125 : Meets Go.Proofs.Try.prog 125 s125 := meets_of_run tiOk env22_ok mo Go.Proofs.Try.func125 (body := bodyOf Go.Proofs.Try.f125) (by kernel_rfl) (N := 21) (by kernel_rfl) (hs := []) (by
  intro k xs r h
  unfold s125 at h
  dsimp only at h
  split at h
  · exact ⟨Nat.le_of_ble_eq_true rfl, (v125 k _ _ _ _ _ _).trans h⟩
  · cases h)
theorem env23_ok : EnvOk Go.Proofs.Try.prog (envOf env23) := envOf_cons m125 Go.Proofs.Try.func125 (by kernel_rfl) (by kernel_rfl) env22_ok

-- spec.faCross
def f69 (k : Nat) (p : List (Int)) (q : List (Int)) (x_Low_N : Int) (x_Low_K : Int) (x_High_N : Int) (x_High_K : Int) (i : Int) (fine : Int) : Option (Bool) :=
  (f125 k p q x_Low_N x_Low_K i fine).bind fun r0 =>
  (f125 k p q x_High_N x_High_K i fine).bind fun r1 =>
  some (decide (IntKind.wrap IntKind.i64 (r0 * r1) < 0))
def s69 : Spec := ⟨false, [(.bool, false)], true, .bool, fun k xs => match xs with | [.slc 3 (.int .i64) p, .slc 3 (.int .i64) q, .agg [.int .i64 x_Low_N, .int .i64 x_Low_K, .int .i64 x_High_N, .int .i64 x_High_K], .int .i64 i, .int .i64 fine] => f69 k p q x_Low_N x_Low_K x_High_N x_High_K i fine | _ => none⟩
def env24 : List (FuncId × Spec) := (69, s69) :: env23
theorem v69 (k : Nat) (p : List (Int)) (q : List (Int)) (x_Low_N : Int) (x_Low_K : Int) (x_High_N : Int) (x_High_K : Int) (i : Int) (fine : Int) : runFn ti (envOf env23) 27 [] (finT ti true Go.Proofs.Try.f69.results.toList [(.bool, false)] (.bool)) k (bodyOf Go.Proofs.Try.f69) (initS 0 [.slc 3 (.int .i64) p, .slc 3 (.int .i64) q, .agg [.int .i64 x_Low_N, .int .i64 x_Low_K, .int .i64 x_High_N, .int .i64 x_High_K], .int .i64 i, .int .i64 fine]) = f69 k p q x_Low_N x_Low_K x_High_N x_High_K i fine := by kernel_rfl
theorem m69 : Meets Go.Proofs.Try.prog 69 s69 := meets_of_run tiOk env23_ok mo Go.Proofs.Try.func69 (body := bodyOf Go.Proofs.Try.f69) (by kernel_rfl) (N := 27) (by kernel_rfl) (hs := []) (by
  intro k xs r h
  unfold s69 at h
  dsimp only at h
  split at h
  · exact ⟨Nat.le_of_ble_eq_true rfl, (v69 k _ _ _ _ _ _ _ _).trans h⟩
  · cases h)
theorem env24_ok : EnvOk Go.Proofs.Try.prog (envOf env24) := envOf_cons m69 Go.Proofs.Try.func69 (by kernel_rfl) (by kernel_rfl) env23_ok

end Go.Proofs.YtbaeikcfchiiaaaE
