/- Functions, by the engine; printed. -/
import Derived.Test.YtnndolcjljhhcaaSL1
set_option maxRecDepth 100000
set_option maxHeartbeats 4000000
set_option linter.unusedVariables false
namespace Go.Proofs.YtnndolcjljhhcaaE
-- spec.dyFloor
def f147 (k : Nat) (a_N : Int) (a_K : Int) : Option (Int) :=
  (f107 k a_K).bind fun r0 =>
  (f175 k a_N r0).bind fun r1 =>
  some r1
def s147 : Spec := ⟨false, [(.int .i64, false)], true, .int .i64, fun k xs => match xs with | [.agg [.int .i64 a_N, .int .i64 a_K]] => f147 k a_N a_K | _ => none⟩
def env13 : List (FuncId × Spec) := (147, s147) :: env12
theorem v147 (k : Nat) (a_N : Int) (a_K : Int) : runFn ti (envOf env12) 9 [] (finT ti true Go.Proofs.Try.f147.results.toList [(.int .i64, false)] (.int .i64)) k (bodyOf Go.Proofs.Try.f147) (initS 0 [.agg [.int .i64 a_N, .int .i64 a_K]]) = f147 k a_N a_K := by kernel_rfl
theorem m147 : Meets Go.Proofs.Try.prog 147 s147 := meets_of_run tiOk env12_ok mo Go.Proofs.Try.func147 (body := bodyOf Go.Proofs.Try.f147) (by kernel_rfl) (N := 9) (by kernel_rfl) (hs := []) (by
  intro k xs r h
  unfold s147 at h
  dsimp only at h
  split at h
  · exact ⟨Nat.le_of_ble_eq_true rfl, (v147 k _ _).trans h⟩
  · cases h)
theorem env13_ok : EnvOk Go.Proofs.Try.prog (envOf env13) := envOf_cons m147 Go.Proofs.Try.func147 (by kernel_rfl) (by kernel_rfl) env12_ok

-- spec.l1Sign
def f148 (k : Nat) (n : Int) : Option (Int) :=
  bif decide (0 < n) then
    some (1)
  else
    bif decide (n < 0) then
      some (-1)
    else
      some (0)
def s148 : Spec := ⟨false, [(.int .i64, false)], true, .int .i64, fun k xs => match xs with | [.int .i64 n] => f148 k n | _ => none⟩
def env14 : List (FuncId × Spec) := (148, s148) :: env13
theorem v148 (k : Nat) (n : Int) : runFn ti (envOf env13) 9 [] (finT ti true Go.Proofs.Try.f148.results.toList [(.int .i64, false)] (.int .i64)) k (bodyOf Go.Proofs.Try.f148) (initS 0 [.int .i64 n]) = f148 k n := by kernel_rfl
theorem m148 : Meets Go.Proofs.Try.prog 148 s148 := meets_of_run tiOk env13_ok mo Go.Proofs.Try.func148 (body := bodyOf Go.Proofs.Try.f148) (by kernel_rfl) (N := 9) (by kernel_rfl) (hs := []) (by
  intro k xs r h
  unfold s148 at h
  dsimp only at h
  split at h
  · exact ⟨Nat.le_of_ble_eq_true rfl, (v148 k _).trans h⟩
  · cases h)
theorem env14_ok : EnvOk Go.Proofs.Try.prog (envOf env14) := envOf_cons m148 Go.Proofs.Try.func148 (by kernel_rfl) (by kernel_rfl) env13_ok

-- spec.dyAt
def h149 : Hints := [(1004, .lab [(1, .one (.v)), (2, .box 52 [.v, .v]), (6, .one (.v))])]
def F149_1004 (k : Nat) (rec1004 : Int → Int → Int → Int → Option (Int × Bool)) (k_ : Int) (as_0 : Int) (as_1 : Int) (i : Int) : Option (Int × Bool) :=
  bif decide (i < k_) then
    (f85 k as_0 (IntKind.wrap IntKind.i64 (0 - IntKind.wrap IntKind.i64 (1 * 2 ^ min (Int.toNat (IntKind.wrap IntKind.u64 60)) (IntKind.bits IntKind.i64)))) (IntKind.wrap IntKind.i64 (1 * 2 ^ min (Int.toNat (IntKind.wrap IntKind.u64 60)) (IntKind.bits IntKind.i64)))).bind fun r0 =>
    bif !r0 then
      some ((0, false))
    else
      rec1004 k_ (IntKind.wrap IntKind.i64 (as_0 * 2)) as_1 (IntKind.wrap IntKind.i64 (i + 1))
  else
    some ((as_0, true))
def F149 (k : Nat) (rec1004 : Int → Int → Int → Int → Option (Int × Bool)) (a_N : Int) (a_K : Int) (k_ : Int) : Option (Int × Bool) :=
  bif decide (a_N = 0) then
    some ((0, true))
  else
    rec1004 k_ a_N a_K a_K
def l149 : Nat → (Int → Int → Int → Int → Option (Int × Bool))
  | 0 => fun _ _ _ _ => none
  | k + 1 => F149_1004 k (l149 k)
def f149 (k : Nat) (a_N : Int) (a_K : Int) (k_ : Int) : Option (Int × Bool) := F149 k (l149 k) a_N a_K k_
def s149 : Spec := ⟨false, [(.int .i64, false), (.bool, false)], true, .pair (.int .i64) (.bool), fun k xs => match xs with | [.agg [.int .i64 a_N, .int .i64 a_K], .int .i64 k_] => f149 k a_N a_K k_ | _ => none⟩
def env15 : List (FuncId × Spec) := (149, s149) :: env14
noncomputable abbrev x149 := exec ti (envOf env14) 30 h149 (finT ti true Go.Proofs.Try.f149.results.toList [(.int .i64, false), (.bool, false)] (.pair (.int .i64) (.bool)))
noncomputable def k149_1004 : List It := stackAt [.r, .r, .l, .r, .b, .lb none] (bodyOf Go.Proofs.Try.f149) []
def t149_1004 (k_ : Int) (as_0 : Int) (as_1 : Int) (i : Int) : St := [(2, Cell.val (AVal.int IntKind.i64 k_)), (4, Cell.val (AVal.ptr 3 0)), (3, Cell.mem true 52 [AVal.int IntKind.i64 as_0, AVal.int IntKind.i64 as_1]), (12, Cell.val (AVal.int IntKind.i64 i))]
theorem e149_1004 (k : Nat) (k_ : Int) (as_0 : Int) (as_1 : Int) (i : Int) : x149 (k + 1) k149_1004 (t149_1004 k_ as_0 as_1 i) = F149_1004 k (fun (k_ : Int) (as_0 : Int) (as_1 : Int) (i : Int) => x149 k k149_1004 (t149_1004 k_ as_0 as_1 i)) k_ as_0 as_1 i := by kernel_rfl
theorem q149 : ∀ k : Nat, (fun (k_ : Int) (as_0 : Int) (as_1 : Int) (i : Int) => x149 k k149_1004 (t149_1004 k_ as_0 as_1 i)) = l149 k
  | 0 => rfl
  | k + 1 => by
    have h := q149 k
    show _ = F149_1004 k (l149 k)
    rw [← h]
    exact (funext fun k_ => funext fun as_0 => funext fun as_1 => funext fun i => e149_1004 k k_ as_0 as_1 i)
theorem w149 (k : Nat) (a_N : Int) (a_K : Int) (k_ : Int) : runFn ti (envOf env14) 30 h149 (finT ti true Go.Proofs.Try.f149.results.toList [(.int .i64, false), (.bool, false)] (.pair (.int .i64) (.bool))) k (bodyOf Go.Proofs.Try.f149) (initS 0 [.agg [.int .i64 a_N, .int .i64 a_K], .int .i64 k_]) = F149 k (fun (k_ : Int) (as_0 : Int) (as_1 : Int) (i : Int) => x149 k k149_1004 (t149_1004 k_ as_0 as_1 i)) a_N a_K k_ := by kernel_rfl
theorem v149 (k : Nat) (a_N : Int) (a_K : Int) (k_ : Int) : runFn ti (envOf env14) 30 h149 (finT ti true Go.Proofs.Try.f149.results.toList [(.int .i64, false), (.bool, false)] (.pair (.int .i64) (.bool))) k (bodyOf Go.Proofs.Try.f149) (initS 0 [.agg [.int .i64 a_N, .int .i64 a_K], .int .i64 k_]) = f149 k a_N a_K k_ := by
  rw [w149]
  have h := q149 k
  unfold f149
  rw [← h]
theorem m149 : Meets Go.Proofs.Try.prog 149 s149 := meets_of_run tiOk env14_ok mo Go.Proofs.Try.func149 (body := bodyOf Go.Proofs.Try.f149) (by kernel_rfl) (N := 30) (by kernel_rfl) (hs := h149) (by
  intro k xs r h
  unfold s149 at h
  dsimp only at h
  split at h
  · exact ⟨Nat.le_of_ble_eq_true rfl, (v149 k _ _ _).trans h⟩
  · cases h)
theorem env15_ok : EnvOk Go.Proofs.Try.prog (envOf env15) := envOf_cons m149 Go.Proofs.Try.func149 (by kernel_rfl) (by kernel_rfl) env14_ok

-- spec.dyCmp
def f117 (k : Nat) (a_N : Int) (a_K : Int) (b_N : Int) (b_K : Int) : Option (Int) :=
  (f147 k a_N a_K).bind fun r0 =>
  (f147 k b_N b_K).bind fun r1 =>
  bif !decide (r0 = r1) then
    (f148 k (IntKind.wrap IntKind.i64 (r0 - r1))).bind fun r2 =>
    some r2
  else
    (f107 k a_K).bind fun r3 =>
    (f149 k (IntKind.wrap IntKind.i64 (a_N - IntKind.wrap IntKind.i64 (r0 * r3))) a_K 24).bind fun r4 =>
    (f107 k b_K).bind fun r5 =>
    (f149 k (IntKind.wrap IntKind.i64 (b_N - IntKind.wrap IntKind.i64 (r1 * r5))) b_K 24).bind fun r6 =>
    (f148 k (IntKind.wrap IntKind.i64 (r4.fst - r6.fst))).bind fun r7 =>
    some r7
def s117 : Spec := ⟨false, [(.int .i64, false)], true, .int .i64, fun k xs => match xs with | [.agg [.int .i64 a_N, .int .i64 a_K], .agg [.int .i64 b_N, .int .i64 b_K]] => f117 k a_N a_K b_N b_K | _ => none⟩
def env16 : List (FuncId × Spec) := (117, s117) :: env15
theorem v117 (k : Nat) (a_N : Int) (a_K : Int) (b_N : Int) (b_K : Int) : runFn ti (envOf env15) 56 [] (finT ti true Go.Proofs.Try.f117.results.toList [(.int .i64, false)] (.int .i64)) k (bodyOf Go.Proofs.Try.f117) (initS 0 [.agg [.int .i64 a_N, .int .i64 a_K], .agg [.int .i64 b_N, .int .i64 b_K]]) = f117 k a_N a_K b_N b_K := by kernel_rfl
theorem m117 : Meets Go.Proofs.Try.prog 117 s117 := meets_of_run tiOk env15_ok mo Go.Proofs.Try.func117 (body := bodyOf Go.Proofs.Try.f117) (by kernel_rfl) (N := 56) (by kernel_rfl) (hs := []) (by
  intro k xs r h
  unfold s117 at h
  dsimp only at h
  split at h
  · exact ⟨Nat.le_of_ble_eq_true rfl, (v117 k _ _ _ _).trans h⟩
  · cases h)
theorem env16_ok : EnvOk Go.Proofs.Try.prog (envOf env16) := envOf_cons m117 Go.Proofs.Try.func117 (by kernel_rfl) (by kernel_rfl) env15_ok

-- spec.dyInt
def f118 (k : Nat) (n : Int) : Option (Int × Int) :=
  some ((n, 0))
def s118 : Spec := ⟨false, [(.pair (.int .i64) (.int .i64), true)], true, .pair (.int .i64) (.int .i64), fun k xs => match xs with | [.int .i64 n] => f118 k n | _ => none⟩
def env17 : List (FuncId × Spec) := (118, s118) :: env16
theorem v118 (k : Nat) (n : Int) : runFn ti (envOf env16) 5 [] (finT ti true Go.Proofs.Try.f118.results.toList [(.pair (.int .i64) (.int .i64), true)] (.pair (.int .i64) (.int .i64))) k (bodyOf Go.Proofs.Try.f118) (initS 0 [.int .i64 n]) = f118 k n := by kernel_rfl
theorem m118 : Meets Go.Proofs.Try.prog 118 s118 := meets_of_run tiOk env16_ok mo Go.Proofs.Try.func118 (body := bodyOf Go.Proofs.Try.f118) (by kernel_rfl) (N := 5) (by kernel_rfl) (hs := []) (by
  intro k xs r h
  unfold s118 at h
  dsimp only at h
  split at h
  · exact ⟨Nat.le_of_ble_eq_true rfl, (v118 k _).trans h⟩
  · cases h)
theorem env17_ok : EnvOk Go.Proofs.Try.prog (envOf env17) := envOf_cons m118 Go.Proofs.Try.func118 (by kernel_rfl) (by kernel_rfl) env16_ok

-- spec.dyGood
def f116 (k : Nat) (a_N : Int) (a_K : Int) : Option (Bool) :=
  (f85 k a_K 0 24).bind fun r0 =>
  bif r0 then
    (f85 k a_N (-1099511627776) 1099511627776).bind fun r1 =>
    bif r1 then
      bif decide (a_K = 0) then
        some true
      else
        some (!decide (Int.tmod a_N 2 = 0))
    else
      some false
  else
    some false
def s116 : Spec := ⟨false, [(.bool, false)], true, .bool, fun k xs => match xs with | [.agg [.int .i64 a_N, .int .i64 a_K]] => f116 k a_N a_K | _ => none⟩
def env18 : List (FuncId × Spec) := (116, s116) :: env17
theorem v116 (k : Nat) (a_N : Int) (a_K : Int) : runFn ti (envOf env17) 22 [] (finT ti true Go.Proofs.Try.f116.results.toList [(.bool, false)] (.bool)) k (bodyOf Go.Proofs.Try.f116) (initS 0 [.agg [.int .i64 a_N, .int .i64 a_K]]) = f116 k a_N a_K := by kernel_rfl
theorem m116 : Meets Go.Proofs.Try.prog 116 s116 := meets_of_run tiOk env17_ok mo Go.Proofs.Try.func116 (body := bodyOf Go.Proofs.Try.f116) (by kernel_rfl) (N := 22) (by kernel_rfl) (hs := []) (by
  intro k xs r h
  unfold s116 at h
  dsimp only at h
  split at h
  · exact ⟨Nat.le_of_ble_eq_true rfl, (v116 k _ _).trans h⟩
  · cases h)
theorem env18_ok : EnvOk Go.Proofs.Try.prog (envOf env18) := envOf_cons m116 Go.Proofs.Try.func116 (by kernel_rfl) (by kernel_rfl) env17_ok

-- spec.ivGood
def f131 (k : Nat) (i_Low_N : Int) (i_Low_K : Int) (i_High_N : Int) (i_High_K : Int) : Option (Bool) :=
  (f116 k i_Low_N i_Low_K).bind fun r0 =>
  bif r0 then
    (f116 k i_High_N i_High_K).bind fun r1 =>
    bif r1 then
      (f117 k i_Low_N i_Low_K i_High_N i_High_K).bind fun r2 =>
      some (decide (r2 ≤ 0))
    else
      some false
  else
    some false
def s131 : Spec := ⟨false, [(.bool, false)], true, .bool, fun k xs => match xs with | [.agg [.int .i64 i_Low_N, .int .i64 i_Low_K, .int .i64 i_High_N, .int .i64 i_High_K]] => f131 k i_Low_N i_Low_K i_High_N i_High_K | _ => none⟩
def env19 : List (FuncId × Spec) := (131, s131) :: env18
theorem v131 (k : Nat) (i_Low_N : Int) (i_Low_K : Int) (i_High_N : Int) (i_High_K : Int) : runFn ti (envOf env18) 19 [] (finT ti true Go.Proofs.Try.f131.results.toList [(.bool, false)] (.bool)) k (bodyOf Go.Proofs.Try.f131) (initS 0 [.agg [.int .i64 i_Low_N, .int .i64 i_Low_K, .int .i64 i_High_N, .int .i64 i_High_K]]) = f131 k i_Low_N i_Low_K i_High_N i_High_K := by kernel_rfl
theorem m131 : Meets Go.Proofs.Try.prog 131 s131 := meets_of_run tiOk env18_ok mo Go.Proofs.Try.func131 (body := bodyOf Go.Proofs.Try.f131) (by kernel_rfl) (N := 19) (by kernel_rfl) (hs := []) (by
  intro k xs r h
  unfold s131 at h
  dsimp only at h
  split at h
  · exact ⟨Nat.le_of_ble_eq_true rfl, (v131 k _ _ _ _).trans h⟩
  · cases h)
theorem env19_ok : EnvOk Go.Proofs.Try.prog (envOf env19) := envOf_cons m131 Go.Proofs.Try.func131 (by kernel_rfl) (by kernel_rfl) env18_ok

-- spec.deFit
def f96 (k : Nat) (i_Low_N : Int) (i_Low_K : Int) (i_High_N : Int) (i_High_K : Int) : Option (Bool) :=
  (f131 k i_Low_N i_Low_K i_High_N i_High_K).bind fun r0 =>
  bif r0 then
    bif decide (i_Low_K ≤ 5) then
      bif decide (i_High_K ≤ 5) then
        (f117 k i_Low_N i_Low_K i_High_N i_High_K).bind fun r1 =>
        bif decide (r1 < 0) then
          (f117 k (-8) 0 i_Low_N i_Low_K).bind fun r2 =>
          bif decide (r2 ≤ 0) then
            (f117 k i_High_N i_High_K 8 0).bind fun r3 =>
            some (decide (r3 ≤ 0))
          else
            some false
        else
          some false
      else
        some false
    else
      some false
  else
    some false
def s96 : Spec := ⟨false, [(.bool, false)], true, .bool, fun k xs => match xs with | [.agg [.int .i64 i_Low_N, .int .i64 i_Low_K, .int .i64 i_High_N, .int .i64 i_High_K]] => f96 k i_Low_N i_Low_K i_High_N i_High_K | _ => none⟩
def env20 : List (FuncId × Spec) := (96, s96) :: env19
theorem v96 (k : Nat) (i_Low_N : Int) (i_Low_K : Int) (i_High_N : Int) (i_High_K : Int) : runFn ti (envOf env19) 39 [] (finT ti true Go.Proofs.Try.f96.results.toList [(.bool, false)] (.bool)) k (bodyOf Go.Proofs.Try.f96) (initS 0 [.agg [.int .i64 i_Low_N, .int .i64 i_Low_K, .int .i64 i_High_N, .int .i64 i_High_K]]) = f96 k i_Low_N i_Low_K i_High_N i_High_K := by kernel_rfl
theorem m96 : Meets Go.Proofs.Try.prog 96 s96 := meets_of_run tiOk env19_ok mo Go.Proofs.Try.func96 (body := bodyOf Go.Proofs.Try.f96) (by kernel_rfl) (N := 39) (by kernel_rfl) (hs := []) (by
  intro k xs r h
  unfold s96 at h
  dsimp only at h
  split at h
  · exact ⟨Nat.le_of_ble_eq_true rfl, (v96 k _ _ _ _).trans h⟩
  · cases h)
theorem env20_ok : EnvOk Go.Proofs.Try.prog (envOf env20) := envOf_cons m96 Go.Proofs.Try.func96 (by kernel_rfl) (by kernel_rfl) env19_ok

-- spec.faAt
def h64 : Hints := [(1003, .lab [(1, .one (.frz 3 (Ty.int IntKind.i64))), (2, .one (.v)), (3, .one (.v)), (9, .one (.own 3 (Ty.int IntKind.i64))), (15, .one (.frz 3 (Ty.int IntKind.i64))), (16, .one (.v)), (17, .one (.v))]), (1008, .lab [(2, .one (.v)), (9, .one (.own 3 (Ty.int IntKind.i64))), (33, .one (.frz 3 (Ty.int IntKind.i64))), (34, .one (.v)), (35, .one (.v))])]
def F64_1003 (k : Nat) (rec1003 : List Int → Int → Int → List Int → List Int → Int → Int → Option (List (Int))) (rec1008 : Int → List Int → List Int → Int → Int → Option (List (Int))) (q : List Int) (i : Int) (fine : Int) (outs : List Int) (t15 : List Int) (t16 : Int) (t17 : Int) : Option (List (Int)) :=
  bif decide (t17 < t16) then
    bif boundA t17 (List.length t15) then
      bif boundA t17 (List.length outs) then
        bif Nat.blt (Int.toNat t17) (List.length outs) then
          (f107 k fine).bind fun r0 =>
          bif boundA t17 (List.length outs) then
            bif Nat.blt (Int.toNat t17) (List.length outs) then
              rec1003 q i fine (List.set outs (Int.toNat t17) (IntKind.wrap IntKind.i64 (List.getD outs (Int.toNat t17) 0 + IntKind.wrap IntKind.i64 (List.getD t15 (Int.toNat t17) 0 * r0)))) t15 t16 (IntKind.wrap IntKind.i64 (t17 + 1))
            else
              none
          else
            none
        else
          none
      else
        none
    else
      none
  else
    rec1008 i outs q ((↑(List.length q) : Int)) (0)
def F64_1008 (k : Nat) (rec1003 : List Int → Int → Int → List Int → List Int → Int → Int → Option (List (Int))) (rec1008 : Int → List Int → List Int → Int → Int → Option (List (Int))) (i : Int) (outs : List Int) (t33 : List Int) (t34 : Int) (t35 : Int) : Option (List (Int)) :=
  bif decide (t35 < t34) then
    bif boundA t35 (List.length t33) then
      bif boundA t35 (List.length outs) then
        bif Nat.blt (Int.toNat t35) (List.length outs) then
          bif boundA t35 (List.length outs) then
            bif Nat.blt (Int.toNat t35) (List.length outs) then
              rec1008 i (List.set outs (Int.toNat t35) (IntKind.wrap IntKind.i64 (List.getD outs (Int.toNat t35) 0 + IntKind.wrap IntKind.i64 (List.getD t33 (Int.toNat t35) 0 * i)))) t33 t34 (IntKind.wrap IntKind.i64 (t35 + 1))
            else
              none
          else
            none
        else
          none
      else
        none
    else
      none
  else
    some outs
def F64 (k : Nat) (rec1003 : List Int → Int → Int → List Int → List Int → Int → Int → Option (List (Int))) (rec1008 : Int → List Int → List Int → Int → Int → Option (List (Int))) (p : List (Int)) (q : List (Int)) (i : Int) (fine : Int) : Option (List (Int)) :=
  rec1003 q i fine (List.replicate (Int.toNat 6) (dflt (Ty.int IntKind.i64))) p ((↑(List.length p) : Int)) (0)
def l64 : Nat → (List Int → Int → Int → List Int → List Int → Int → Int → Option (List (Int))) × (Int → List Int → List Int → Int → Int → Option (List (Int)))
  | 0 => (fun _ _ _ _ _ _ _ => none, fun _ _ _ _ _ => none)
  | k + 1 => (F64_1003 k ((l64 k).1) ((l64 k).2), F64_1008 k ((l64 k).1) ((l64 k).2))
def f64 (k : Nat) (p : List (Int)) (q : List (Int)) (i : Int) (fine : Int) : Option (List (Int)) := F64 k ((l64 k).1) ((l64 k).2) p q i fine
def s64 : Spec := ⟨false, [(.slice 3 (.int .i64), false)], true, .slice 3 (.int .i64), fun k xs => match xs with | [.slc 3 (.int .i64) p, .slc 3 (.int .i64) q, .int .i64 i, .int .i64 fine] => f64 k p q i fine | _ => none⟩
def env21 : List (FuncId × Spec) := (64, s64) :: env20
noncomputable abbrev x64 := exec ti (envOf env20) 51 h64 (finT ti true Go.Proofs.Try.f64.results.toList [(.slice 3 (.int .i64), false)] (.slice 3 (.int .i64)))
noncomputable def k64_1003 : List It := stackAt [.r, .r, .l, .r, .b, .lb none] (bodyOf Go.Proofs.Try.f64) []
def t64_1003 (q : List Int) (i : Int) (fine : Int) (outs : List Int) (t15 : List Int) (t16 : Int) (t17 : Int) : St := [(2, Cell.val (AVal.slc 3 (Ty.int IntKind.i64) q)), (4, Cell.val (AVal.int IntKind.i64 i)), (6, Cell.val (AVal.int IntKind.i64 fine)), (18, Cell.val (AVal.ref 3 none)), (3, Cell.row true 3 (Ty.int IntKind.i64) outs), (30, Cell.val (AVal.slc 3 (Ty.int IntKind.i64) t15)), (32, Cell.val (AVal.int IntKind.i64 t16)), (34, Cell.val (AVal.int IntKind.i64 t17))]
noncomputable def k64_1008 : List It := stackAt [.r, .r, .r, .l, .r, .b, .lb none] (bodyOf Go.Proofs.Try.f64) []
def t64_1008 (i : Int) (outs : List Int) (t33 : List Int) (t34 : Int) (t35 : Int) : St := [(4, Cell.val (AVal.int IntKind.i64 i)), (18, Cell.val (AVal.ref 3 none)), (3, Cell.row true 3 (Ty.int IntKind.i64) outs), (66, Cell.val (AVal.slc 3 (Ty.int IntKind.i64) t33)), (68, Cell.val (AVal.int IntKind.i64 t34)), (70, Cell.val (AVal.int IntKind.i64 t35))]
theorem e64_1003 (k : Nat) (q : List Int) (i : Int) (fine : Int) (outs : List Int) (t15 : List Int) (t16 : Int) (t17 : Int) : x64 (k + 1) k64_1003 (t64_1003 q i fine outs t15 t16 t17) = F64_1003 k (fun (q : List Int) (i : Int) (fine : Int) (outs : List Int) (t15 : List Int) (t16 : Int) (t17 : Int) => x64 k k64_1003 (t64_1003 q i fine outs t15 t16 t17)) (fun (i : Int) (outs : List Int) (t33 : List Int) (t34 : Int) (t35 : Int) => x64 k k64_1008 (t64_1008 i outs t33 t34 t35)) q i fine outs t15 t16 t17 := by kernel_rfl
theorem e64_1008 (k : Nat) (i : Int) (outs : List Int) (t33 : List Int) (t34 : Int) (t35 : Int) : x64 (k + 1) k64_1008 (t64_1008 i outs t33 t34 t35) = F64_1008 k (fun (q : List Int) (i : Int) (fine : Int) (outs : List Int) (t15 : List Int) (t16 : Int) (t17 : Int) => x64 k k64_1003 (t64_1003 q i fine outs t15 t16 t17)) (fun (i : Int) (outs : List Int) (t33 : List Int) (t34 : Int) (t35 : Int) => x64 k k64_1008 (t64_1008 i outs t33 t34 t35)) i outs t33 t34 t35 := by kernel_rfl
theorem q64 : ∀ k : Nat, ((fun (q : List Int) (i : Int) (fine : Int) (outs : List Int) (t15 : List Int) (t16 : Int) (t17 : Int) => x64 k k64_1003 (t64_1003 q i fine outs t15 t16 t17)), (fun (i : Int) (outs : List Int) (t33 : List Int) (t34 : Int) (t35 : Int) => x64 k k64_1008 (t64_1008 i outs t33 t34 t35))) = l64 k
  | 0 => rfl
  | k + 1 => by
    have h := q64 k
    show _ = (F64_1003 k ((l64 k).1) ((l64 k).2), F64_1008 k ((l64 k).1) ((l64 k).2))
    rw [← h]
    exact (Prod.ext (funext fun q => funext fun i => funext fun fine => funext fun outs => funext fun t15 => funext fun t16 => funext fun t17 => e64_1003 k q i fine outs t15 t16 t17) (funext fun i => funext fun outs => funext fun t33 => funext fun t34 => funext fun t35 => e64_1008 k i outs t33 t34 t35))
theorem w64 (k : Nat) (p : List (Int)) (q : List (Int)) (i : Int) (fine : Int) : runFn ti (envOf env20) 51 h64 (finT ti true Go.Proofs.Try.f64.results.toList [(.slice 3 (.int .i64), false)] (.slice 3 (.int .i64))) k (bodyOf Go.Proofs.Try.f64) (initS 0 [.slc 3 (.int .i64) p, .slc 3 (.int .i64) q, .int .i64 i, .int .i64 fine]) = F64 k (fun (q : List Int) (i : Int) (fine : Int) (outs : List Int) (t15 : List Int) (t16 : Int) (t17 : Int) => x64 k k64_1003 (t64_1003 q i fine outs t15 t16 t17)) (fun (i : Int) (outs : List Int) (t33 : List Int) (t34 : Int) (t35 : Int) => x64 k k64_1008 (t64_1008 i outs t33 t34 t35)) p q i fine := by kernel_rfl
theorem v64 (k : Nat) (p : List (Int)) (q : List (Int)) (i : Int) (fine : Int) : runFn ti (envOf env20) 51 h64 (finT ti true Go.Proofs.Try.f64.results.toList [(.slice 3 (.int .i64), false)] (.slice 3 (.int .i64))) k (bodyOf Go.Proofs.Try.f64) (initS 0 [.slc 3 (.int .i64) p, .slc 3 (.int .i64) q, .int .i64 i, .int .i64 fine]) = f64 k p q i fine := by
  rw [w64]
  have h := q64 k
  unfold f64
  rw [← h]
theorem m64 : Meets Go.Proofs.Try.prog 64 s64 := meets_of_run tiOk env20_ok mo Go.Proofs.Try.func64 (body := bodyOf Go.Proofs.Try.f64) (by kernel_rfl) (N := 51) (by kernel_rfl) (hs := h64) (by
  intro k xs r h
  unfold s64 at h
  dsimp only at h
  split at h
  · exact ⟨Nat.le_of_ble_eq_true rfl, (v64 k _ _ _ _).trans h⟩
  · cases h)
theorem env21_ok : EnvOk Go.Proofs.Try.prog (envOf env21) := envOf_cons m64 Go.Proofs.Try.func64 (by kernel_rfl) (by kernel_rfl) env20_ok

-- spec.l1Most
def f162 (k : Nat) (a : Int) (b : Int) : Option (Int) :=
  bif decide (b < a) then
    some a
  else
    some b
def s162 : Spec := ⟨false, [(.int .i64, false)], true, .int .i64, fun k xs => match xs with | [.int .i64 a, .int .i64 b] => f162 k a b | _ => none⟩
def env22 : List (FuncId × Spec) := (162, s162) :: env21
theorem v162 (k : Nat) (a : Int) (b : Int) : runFn ti (envOf env21) 10 [] (finT ti true Go.Proofs.Try.f162.results.toList [(.int .i64, false)] (.int .i64)) k (bodyOf Go.Proofs.Try.f162) (initS 0 [.int .i64 a, .int .i64 b]) = f162 k a b := by kernel_rfl
theorem m162 : Meets Go.Proofs.Try.prog 162 s162 := meets_of_run tiOk env21_ok mo Go.Proofs.Try.func162 (body := bodyOf Go.Proofs.Try.f162) (by kernel_rfl) (N := 10) (by kernel_rfl) (hs := []) (by
  intro k xs r h
  unfold s162 at h
  dsimp only at h
  split at h
  · exact ⟨Nat.le_of_ble_eq_true rfl, (v162 k _ _).trans h⟩
  · cases h)
theorem env22_ok : EnvOk Go.Proofs.Try.prog (envOf env22) := envOf_cons m162 Go.Proofs.Try.func162 (by kernel_rfl) (by kernel_rfl) env21_ok

-- spec.sgProduct
def h163 : Hints := [(1005, .lab [(1, .one (.frz 3 (Ty.int IntKind.i64))), (5, .one (.own 3 (Ty.int IntKind.i64))), (25, .one (.frz 3 (Ty.int IntKind.i64))), (26, .one (.v)), (27, .one (.v))]), (1008, .lab [(1, .one (.frz 3 (Ty.int IntKind.i64))), (5, .one (.own 3 (Ty.int IntKind.i64))), (6, .one (.v)), (7, .one (.v)), (25, .one (.frz 3 (Ty.int IntKind.i64))), (26, .one (.v)), (27, .one (.v)), (32, .one (.frz 3 (Ty.int IntKind.i64))), (33, .one (.v)), (34, .one (.v))])]
def F163_1005 (k : Nat) (rec1005 : List Int → List Int → List Int → Int → Int → Option (List (Int))) (rec1008 : List Int → List Int → Int → Int → List Int → Int → Int → List Int → Int → Int → Option (List (Int))) (q : List Int) (outs : List Int) (t25 : List Int) (t26 : Int) (t27 : Int) : Option (List (Int)) :=
  bif decide (t27 < t26) then
    bif boundA t27 (List.length t25) then
      rec1008 q outs t27 (List.getD t25 (Int.toNat t27) 0) t25 t26 t27 q ((↑(List.length q) : Int)) (0)
    else
      none
  else
    some outs
def F163_1008 (k : Nat) (rec1005 : List Int → List Int → List Int → Int → Int → Option (List (Int))) (rec1008 : List Int → List Int → Int → Int → List Int → Int → Int → List Int → Int → Int → Option (List (Int))) (q : List Int) (outs : List Int) (i : Int) (a : Int) (t25 : List Int) (t26 : Int) (t27 : Int) (t32 : List Int) (t33 : Int) (t34 : Int) : Option (List (Int)) :=
  bif decide (t34 < t33) then
    bif boundA t34 (List.length t32) then
      bif boundA (IntKind.wrap IntKind.i64 (i + t34)) (List.length outs) then
        bif Nat.blt (Int.toNat (IntKind.wrap IntKind.i64 (i + t34))) (List.length outs) then
          bif boundA (IntKind.wrap IntKind.i64 (i + t34)) (List.length outs) then
            bif Nat.blt (Int.toNat (IntKind.wrap IntKind.i64 (i + t34))) (List.length outs) then
              rec1008 q (List.set outs (Int.toNat (IntKind.wrap IntKind.i64 (i + t34))) (IntKind.wrap IntKind.i64 (List.getD outs (Int.toNat (IntKind.wrap IntKind.i64 (i + t34))) 0 + IntKind.wrap IntKind.i64 (a * List.getD t32 (Int.toNat t34) 0)))) i a t25 t26 t27 t32 t33 (IntKind.wrap IntKind.i64 (t34 + 1))
            else
              none
          else
            none
        else
          none
      else
        none
    else
      none
  else
    rec1005 q outs t25 t26 (IntKind.wrap IntKind.i64 (t27 + 1))
def F163 (k : Nat) (rec1005 : List Int → List Int → List Int → Int → Int → Option (List (Int))) (rec1008 : List Int → List Int → Int → Int → List Int → Int → Int → List Int → Int → Int → Option (List (Int))) (p : List (Int)) (q : List (Int)) : Option (List (Int)) :=
  bif decide ((↑(List.length p) : Int) = 0) then
    some ([])
  else
    bif decide ((↑(List.length q) : Int) = 0) then
      some ([])
    else
      bif decide (0 ≤ IntKind.wrap IntKind.i64 (IntKind.wrap IntKind.i64 ((↑(List.length p) : Int) + (↑(List.length q) : Int)) - 1)) then
        bif decide (IntKind.wrap IntKind.i64 (IntKind.wrap IntKind.i64 ((↑(List.length p) : Int) + (↑(List.length q) : Int)) - 1) ≤ IntKind.wrap IntKind.i64 (IntKind.wrap IntKind.i64 ((↑(List.length p) : Int) + (↑(List.length q) : Int)) - 1)) then
          bif decide (IntKind.wrap IntKind.i64 (IntKind.wrap IntKind.i64 ((↑(List.length p) : Int) + (↑(List.length q) : Int)) - 1) * (↑8 : Int) ≤ 140737488355328) then
            rec1005 q (List.replicate (Int.toNat (IntKind.wrap IntKind.i64 (IntKind.wrap IntKind.i64 ((↑(List.length p) : Int) + (↑(List.length q) : Int)) - 1))) (dflt (Ty.int IntKind.i64))) p ((↑(List.length p) : Int)) (0)
          else
            none
        else
          none
      else
        none
def l163 : Nat → (List Int → List Int → List Int → Int → Int → Option (List (Int))) × (List Int → List Int → Int → Int → List Int → Int → Int → List Int → Int → Int → Option (List (Int)))
  | 0 => (fun _ _ _ _ _ => none, fun _ _ _ _ _ _ _ _ _ _ => none)
  | k + 1 => (F163_1005 k ((l163 k).1) ((l163 k).2), F163_1008 k ((l163 k).1) ((l163 k).2))
def f163 (k : Nat) (p : List (Int)) (q : List (Int)) : Option (List (Int)) := F163 k ((l163 k).1) ((l163 k).2) p q
def s163 : Spec := ⟨false, [(.slice 3 (.int .i64), false)], true, .slice 3 (.int .i64), fun k xs => match xs with | [.slc 3 (.int .i64) p, .slc 3 (.int .i64) q] => f163 k p q | _ => none⟩
def env23 : List (FuncId × Spec) := (163, s163) :: env22
noncomputable abbrev x163 := exec ti (envOf env22) 53 h163 (finT ti true Go.Proofs.Try.f163.results.toList [(.slice 3 (.int .i64), false)] (.slice 3 (.int .i64)))
noncomputable def k163_1005 : List It := stackAt [.r, .r, .r, .l, .r, .b, .lb none] (bodyOf Go.Proofs.Try.f163) []
def t163_1005 (q : List Int) (outs : List Int) (t25 : List Int) (t26 : Int) (t27 : Int) : St := [(2, Cell.val (AVal.slc 3 (Ty.int IntKind.i64) q)), (10, Cell.val (AVal.ref 3 none)), (3, Cell.row true 3 (Ty.int IntKind.i64) outs), (50, Cell.val (AVal.slc 3 (Ty.int IntKind.i64) t25)), (52, Cell.val (AVal.int IntKind.i64 t26)), (54, Cell.val (AVal.int IntKind.i64 t27))]
noncomputable def k163_1008 : List It := stackAt [.r, .r, .r, .l, .r, .b, .lb none, .r, .r, .l, .b, .r, .r, .b, .lb none] (bodyOf Go.Proofs.Try.f163) []
def t163_1008 (q : List Int) (outs : List Int) (i : Int) (a : Int) (t25 : List Int) (t26 : Int) (t27 : Int) (t32 : List Int) (t33 : Int) (t34 : Int) : St := [(2, Cell.val (AVal.slc 3 (Ty.int IntKind.i64) q)), (10, Cell.val (AVal.ref 3 none)), (3, Cell.row true 3 (Ty.int IntKind.i64) outs), (12, Cell.val (AVal.int IntKind.i64 i)), (14, Cell.val (AVal.int IntKind.i64 a)), (50, Cell.val (AVal.slc 3 (Ty.int IntKind.i64) t25)), (52, Cell.val (AVal.int IntKind.i64 t26)), (54, Cell.val (AVal.int IntKind.i64 t27)), (64, Cell.val (AVal.slc 3 (Ty.int IntKind.i64) t32)), (66, Cell.val (AVal.int IntKind.i64 t33)), (68, Cell.val (AVal.int IntKind.i64 t34))]
theorem e163_1005 (k : Nat) (q : List Int) (outs : List Int) (t25 : List Int) (t26 : Int) (t27 : Int) : x163 (k + 1) k163_1005 (t163_1005 q outs t25 t26 t27) = F163_1005 k (fun (q : List Int) (outs : List Int) (t25 : List Int) (t26 : Int) (t27 : Int) => x163 k k163_1005 (t163_1005 q outs t25 t26 t27)) (fun (q : List Int) (outs : List Int) (i : Int) (a : Int) (t25 : List Int) (t26 : Int) (t27 : Int) (t32 : List Int) (t33 : Int) (t34 : Int) => x163 k k163_1008 (t163_1008 q outs i a t25 t26 t27 t32 t33 t34)) q outs t25 t26 t27 := by kernel_rfl
theorem e163_1008 (k : Nat) (q : List Int) (outs : List Int) (i : Int) (a : Int) (t25 : List Int) (t26 : Int) (t27 : Int) (t32 : List Int) (t33 : Int) (t34 : Int) : x163 (k + 1) k163_1008 (t163_1008 q outs i a t25 t26 t27 t32 t33 t34) = F163_1008 k (fun (q : List Int) (outs : List Int) (t25 : List Int) (t26 : Int) (t27 : Int) => x163 k k163_1005 (t163_1005 q outs t25 t26 t27)) (fun (q : List Int) (outs : List Int) (i : Int) (a : Int) (t25 : List Int) (t26 : Int) (t27 : Int) (t32 : List Int) (t33 : Int) (t34 : Int) => x163 k k163_1008 (t163_1008 q outs i a t25 t26 t27 t32 t33 t34)) q outs i a t25 t26 t27 t32 t33 t34 := by kernel_rfl
theorem q163 : ∀ k : Nat, ((fun (q : List Int) (outs : List Int) (t25 : List Int) (t26 : Int) (t27 : Int) => x163 k k163_1005 (t163_1005 q outs t25 t26 t27)), (fun (q : List Int) (outs : List Int) (i : Int) (a : Int) (t25 : List Int) (t26 : Int) (t27 : Int) (t32 : List Int) (t33 : Int) (t34 : Int) => x163 k k163_1008 (t163_1008 q outs i a t25 t26 t27 t32 t33 t34))) = l163 k
  | 0 => rfl
  | k + 1 => by
    have h := q163 k
    show _ = (F163_1005 k ((l163 k).1) ((l163 k).2), F163_1008 k ((l163 k).1) ((l163 k).2))
    rw [← h]
    exact (Prod.ext (funext fun q => funext fun outs => funext fun t25 => funext fun t26 => funext fun t27 => e163_1005 k q outs t25 t26 t27) (funext fun q => funext fun outs => funext fun i => funext fun a => funext fun t25 => funext fun t26 => funext fun t27 => funext fun t32 => funext fun t33 => funext fun t34 => e163_1008 k q outs i a t25 t26 t27 t32 t33 t34))
theorem w163 (k : Nat) (p : List (Int)) (q : List (Int)) : runFn ti (envOf env22) 53 h163 (finT ti true Go.Proofs.Try.f163.results.toList [(.slice 3 (.int .i64), false)] (.slice 3 (.int .i64))) k (bodyOf Go.Proofs.Try.f163) (initS 0 [.slc 3 (.int .i64) p, .slc 3 (.int .i64) q]) = F163 k (fun (q : List Int) (outs : List Int) (t25 : List Int) (t26 : Int) (t27 : Int) => x163 k k163_1005 (t163_1005 q outs t25 t26 t27)) (fun (q : List Int) (outs : List Int) (i : Int) (a : Int) (t25 : List Int) (t26 : Int) (t27 : Int) (t32 : List Int) (t33 : Int) (t34 : Int) => x163 k k163_1008 (t163_1008 q outs i a t25 t26 t27 t32 t33 t34)) p q := by kernel_rfl
theorem v163 (k : Nat) (p : List (Int)) (q : List (Int)) : runFn ti (envOf env22) 53 h163 (finT ti true Go.Proofs.Try.f163.results.toList [(.slice 3 (.int .i64), false)] (.slice 3 (.int .i64))) k (bodyOf Go.Proofs.Try.f163) (initS 0 [.slc 3 (.int .i64) p, .slc 3 (.int .i64) q]) = f163 k p q := by
  rw [w163]
  have h := q163 k
  unfold f163
  rw [← h]
theorem m163 : Meets Go.Proofs.Try.prog 163 s163 := meets_of_run tiOk env22_ok mo Go.Proofs.Try.func163 (body := bodyOf Go.Proofs.Try.f163) (by kernel_rfl) (N := 53) (by kernel_rfl) (hs := h163) (by
  intro k xs r h
  unfold s163 at h
  dsimp only at h
  split at h
  · exact ⟨Nat.le_of_ble_eq_true rfl, (v163 k _ _).trans h⟩
  · cases h)
theorem env23_ok : EnvOk Go.Proofs.Try.prog (envOf env23) := envOf_cons m163 Go.Proofs.Try.func163 (by kernel_rfl) (by kernel_rfl) env22_ok

-- spec.deOver
def h132 : Hints := [(1007, .lab [(5, .one (.v)), (6, .one (.v)), (8, .one (.v)), (10, .one (.v)), (11, .one (.own 3 (Ty.int IntKind.i64))), (45, .one (.frz 3 (Ty.int IntKind.i64))), (46, .one (.v)), (47, .one (.v))]), (1011, .lab [(5, .one (.v)), (6, .one (.v)), (8, .one (.v)), (10, .one (.v)), (11, .one (.own 3 (Ty.int IntKind.i64))), (12, .one (.v)), (14, .one (.own 3 (Ty.int IntKind.i64))), (15, .one (.v)), (45, .one (.frz 3 (Ty.int IntKind.i64))), (46, .one (.v)), (47, .one (.v))]), (1017, .lab [(5, .one (.v)), (6, .one (.v)), (8, .one (.v)), (10, .one (.v)), (11, .one (.own 3 (Ty.int IntKind.i64))), (45, .one (.frz 3 (Ty.int IntKind.i64))), (46, .one (.v)), (47, .one (.v)), (74, .one (.own 3 (Ty.int IntKind.i64))), (75, .one (.v)), (76, .one (.v))])]
def F132_1007 (k : Nat) (rec1007 : Int → Int → Int → Int → List Int → List Int → Int → Int → Option (List (Int))) (rec1011 : Int → Int → Int → Int → List Int → Int → List Int → Int → List Int → Int → Int → Option (List (Int))) (rec1017 : Int → Int → Int → Int → List Int → List Int → Int → Int → List Int → Int → Int → Option (List (Int))) (t : Int) (o : Int) (r : Int) (a : Int) (ys : List Int) (t45 : List Int) (t46 : Int) (t47 : Int) : Option (List (Int)) :=
  bif decide (t47 < t46) then
    bif boundA t47 (List.length t45) then
      rec1011 t o r a ys t47 ([List.getD t45 (Int.toNat t47) 0]) (0) t45 t46 t47
    else
      none
  else
    some ys
def F132_1011 (k : Nat) (rec1007 : Int → Int → Int → Int → List Int → List Int → Int → Int → Option (List (Int))) (rec1011 : Int → Int → Int → Int → List Int → Int → List Int → Int → List Int → Int → Int → Option (List (Int))) (rec1017 : Int → Int → Int → Int → List Int → List Int → Int → Int → List Int → Int → Int → Option (List (Int))) (t : Int) (o : Int) (r : Int) (a : Int) (ys : List Int) (t12 : Int) (t14s : List Int) (t15 : Int) (t45 : List Int) (t46 : Int) (t47 : Int) : Option (List (Int)) :=
  bif decide (t15 < a) then
    bif decide (t15 < t12) then
      (f163 k t14s [o, r]).bind fun r0 =>
      rec1011 t o r a ys t12 r0 (IntKind.wrap IntKind.i64 (t15 + 1)) t45 t46 t47
    else
      (f107 k t).bind fun r1 =>
      (f107 k t).bind fun r2 =>
      (f163 k t14s [r1, r2]).bind fun r3 =>
      rec1011 t o r a ys t12 r3 (IntKind.wrap IntKind.i64 (t15 + 1)) t45 t46 t47
  else
    rec1017 t o r a ys t45 t46 t47 t14s ((↑(List.length t14s) : Int)) (0)
def F132_1017 (k : Nat) (rec1007 : Int → Int → Int → Int → List Int → List Int → Int → Int → Option (List (Int))) (rec1011 : Int → Int → Int → Int → List Int → Int → List Int → Int → List Int → Int → Int → Option (List (Int))) (rec1017 : Int → Int → Int → Int → List Int → List Int → Int → Int → List Int → Int → Int → Option (List (Int))) (t : Int) (o : Int) (r : Int) (a : Int) (ys : List Int) (t45 : List Int) (t46 : Int) (t47 : Int) (t74s : List Int) (t75 : Int) (t76 : Int) : Option (List (Int)) :=
  bif decide (t76 < t75) then
    bif boundA t76 (List.length t74s) then
      bif Nat.blt (Int.toNat t76) (List.length t74s) then
        bif boundA t76 (List.length ys) then
          bif Nat.blt (Int.toNat t76) (List.length ys) then
            bif boundA t76 (List.length ys) then
              bif Nat.blt (Int.toNat t76) (List.length ys) then
                rec1017 t o r a (List.set ys (Int.toNat t76) (IntKind.wrap IntKind.i64 (List.getD ys (Int.toNat t76) 0 + List.getD t74s (Int.toNat t76) 0))) t45 t46 t47 t74s t75 (IntKind.wrap IntKind.i64 (t76 + 1))
              else
                none
            else
              none
          else
            none
        else
          none
      else
        none
    else
      none
  else
    rec1007 t o r a ys t45 t46 (IntKind.wrap IntKind.i64 (t47 + 1))
def F132 (k : Nat) (rec1007 : Int → Int → Int → Int → List Int → List Int → Int → Int → Option (List (Int))) (rec1011 : Int → Int → Int → Int → List Int → Int → List Int → Int → List Int → Int → Int → Option (List (Int))) (rec1017 : Int → Int → Int → Int → List Int → List Int → Int → Int → List Int → Int → Int → Option (List (Int))) (L : List (Int)) (i_Low_N : Int) (i_Low_K : Int) (i_High_N : Int) (i_High_K : Int) : Option (List (Int)) :=
  (f162 k i_Low_K i_High_K).bind fun r0 =>
  (f149 k i_Low_N i_Low_K r0).bind fun r1 =>
  (f149 k i_High_N i_High_K r0).bind fun r2 =>
  bif decide (0 ≤ IntKind.wrap IntKind.i64 (IntKind.wrap IntKind.i64 ((↑(List.length L) : Int) - 1) + 1)) then
    bif decide (IntKind.wrap IntKind.i64 (IntKind.wrap IntKind.i64 ((↑(List.length L) : Int) - 1) + 1) ≤ IntKind.wrap IntKind.i64 (IntKind.wrap IntKind.i64 ((↑(List.length L) : Int) - 1) + 1)) then
      bif decide (IntKind.wrap IntKind.i64 (IntKind.wrap IntKind.i64 ((↑(List.length L) : Int) - 1) + 1) * (↑8 : Int) ≤ 140737488355328) then
        rec1007 r0 (r1.fst) (r2.fst) (IntKind.wrap IntKind.i64 ((↑(List.length L) : Int) - 1)) (List.replicate (Int.toNat (IntKind.wrap IntKind.i64 (IntKind.wrap IntKind.i64 ((↑(List.length L) : Int) - 1) + 1))) (dflt (Ty.int IntKind.i64))) L ((↑(List.length L) : Int)) (0)
      else
        none
    else
      none
  else
    none
def l132 : Nat → (Int → Int → Int → Int → List Int → List Int → Int → Int → Option (List (Int))) × (Int → Int → Int → Int → List Int → Int → List Int → Int → List Int → Int → Int → Option (List (Int))) × (Int → Int → Int → Int → List Int → List Int → Int → Int → List Int → Int → Int → Option (List (Int)))
  | 0 => (fun _ _ _ _ _ _ _ _ => none, fun _ _ _ _ _ _ _ _ _ _ _ => none, fun _ _ _ _ _ _ _ _ _ _ _ => none)
  | k + 1 => (F132_1007 k ((l132 k).1) ((l132 k).2.1) ((l132 k).2.2), F132_1011 k ((l132 k).1) ((l132 k).2.1) ((l132 k).2.2), F132_1017 k ((l132 k).1) ((l132 k).2.1) ((l132 k).2.2))
def f132 (k : Nat) (L : List (Int)) (i_Low_N : Int) (i_Low_K : Int) (i_High_N : Int) (i_High_K : Int) : Option (List (Int)) := F132 k ((l132 k).1) ((l132 k).2.1) ((l132 k).2.2) L i_Low_N i_Low_K i_High_N i_High_K
def s132 : Spec := ⟨false, [(.slice 3 (.int .i64), false)], true, .slice 3 (.int .i64), fun k xs => match xs with | [.slc 3 (.int .i64) L, .agg [.int .i64 i_Low_N, .int .i64 i_Low_K, .int .i64 i_High_N, .int .i64 i_High_K]] => f132 k L i_Low_N i_Low_K i_High_N i_High_K | _ => none⟩
def env24 : List (FuncId × Spec) := (132, s132) :: env23
noncomputable abbrev x132 := exec ti (envOf env23) 91 h132 (finT ti true Go.Proofs.Try.f132.results.toList [(.slice 3 (.int .i64), false)] (.slice 3 (.int .i64)))
noncomputable def k132_1007 : List It := stackAt [.r, .r, .r, .r, .r, .r, .l, .r, .b, .lb none] (bodyOf Go.Proofs.Try.f132) []
def t132_1007 (t : Int) (o : Int) (r : Int) (a : Int) (ys : List Int) (t45 : List Int) (t46 : Int) (t47 : Int) : St := [(10, Cell.val (AVal.int IntKind.i64 t)), (12, Cell.val (AVal.int IntKind.i64 o)), (16, Cell.val (AVal.int IntKind.i64 r)), (20, Cell.val (AVal.int IntKind.i64 a)), (22, Cell.val (AVal.ref 3 none)), (3, Cell.row true 3 (Ty.int IntKind.i64) ys), (90, Cell.val (AVal.slc 3 (Ty.int IntKind.i64) t45)), (92, Cell.val (AVal.int IntKind.i64 t46)), (94, Cell.val (AVal.int IntKind.i64 t47))]
noncomputable def k132_1011 : List It := stackAt [.r, .r, .r, .r, .r, .r, .l, .r, .b, .lb none, .r, .r, .l, .b, .r, .r, .l, .r, .b, .lb none] (bodyOf Go.Proofs.Try.f132) []
def t132_1011 (t : Int) (o : Int) (r : Int) (a : Int) (ys : List Int) (t12 : Int) (t14s : List Int) (t15 : Int) (t45 : List Int) (t46 : Int) (t47 : Int) : St := [(10, Cell.val (AVal.int IntKind.i64 t)), (12, Cell.val (AVal.int IntKind.i64 o)), (16, Cell.val (AVal.int IntKind.i64 r)), (20, Cell.val (AVal.int IntKind.i64 a)), (22, Cell.val (AVal.ref 3 none)), (3, Cell.row true 3 (Ty.int IntKind.i64) ys), (24, Cell.val (AVal.int IntKind.i64 t12)), (28, Cell.val (AVal.ref 5 none)), (5, Cell.row true 3 (Ty.int IntKind.i64) t14s), (30, Cell.val (AVal.int IntKind.i64 t15)), (90, Cell.val (AVal.slc 3 (Ty.int IntKind.i64) t45)), (92, Cell.val (AVal.int IntKind.i64 t46)), (94, Cell.val (AVal.int IntKind.i64 t47))]
noncomputable def k132_1017 : List It := stackAt [.r, .r, .r, .r, .r, .r, .l, .r, .b, .lb none, .r, .r, .l, .b, .r, .r, .r, .r, .b, .lb none] (bodyOf Go.Proofs.Try.f132) []
def t132_1017 (t : Int) (o : Int) (r : Int) (a : Int) (ys : List Int) (t45 : List Int) (t46 : Int) (t47 : Int) (t74s : List Int) (t75 : Int) (t76 : Int) : St := [(10, Cell.val (AVal.int IntKind.i64 t)), (12, Cell.val (AVal.int IntKind.i64 o)), (16, Cell.val (AVal.int IntKind.i64 r)), (20, Cell.val (AVal.int IntKind.i64 a)), (22, Cell.val (AVal.ref 3 none)), (3, Cell.row true 3 (Ty.int IntKind.i64) ys), (90, Cell.val (AVal.slc 3 (Ty.int IntKind.i64) t45)), (92, Cell.val (AVal.int IntKind.i64 t46)), (94, Cell.val (AVal.int IntKind.i64 t47)), (148, Cell.val (AVal.ref 5 none)), (5, Cell.row true 3 (Ty.int IntKind.i64) t74s), (150, Cell.val (AVal.int IntKind.i64 t75)), (152, Cell.val (AVal.int IntKind.i64 t76))]
theorem e132_1007 (k : Nat) (t : Int) (o : Int) (r : Int) (a : Int) (ys : List Int) (t45 : List Int) (t46 : Int) (t47 : Int) : x132 (k + 1) k132_1007 (t132_1007 t o r a ys t45 t46 t47) = F132_1007 k (fun (t : Int) (o : Int) (r : Int) (a : Int) (ys : List Int) (t45 : List Int) (t46 : Int) (t47 : Int) => x132 k k132_1007 (t132_1007 t o r a ys t45 t46 t47)) (fun (t : Int) (o : Int) (r : Int) (a : Int) (ys : List Int) (t12 : Int) (t14s : List Int) (t15 : Int) (t45 : List Int) (t46 : Int) (t47 : Int) => x132 k k132_1011 (t132_1011 t o r a ys t12 t14s t15 t45 t46 t47)) (fun (t : Int) (o : Int) (r : Int) (a : Int) (ys : List Int) (t45 : List Int) (t46 : Int) (t47 : Int) (t74s : List Int) (t75 : Int) (t76 : Int) => x132 k k132_1017 (t132_1017 t o r a ys t45 t46 t47 t74s t75 t76)) t o r a ys t45 t46 t47 := by kernel_rfl
theorem e132_1011 (k : Nat) (t : Int) (o : Int) (r : Int) (a : Int) (ys : List Int) (t12 : Int) (t14s : List Int) (t15 : Int) (t45 : List Int) (t46 : Int) (t47 : Int) : x132 (k + 1) k132_1011 (t132_1011 t o r a ys t12 t14s t15 t45 t46 t47) = F132_1011 k (fun (t : Int) (o : Int) (r : Int) (a : Int) (ys : List Int) (t45 : List Int) (t46 : Int) (t47 : Int) => x132 k k132_1007 (t132_1007 t o r a ys t45 t46 t47)) (fun (t : Int) (o : Int) (r : Int) (a : Int) (ys : List Int) (t12 : Int) (t14s : List Int) (t15 : Int) (t45 : List Int) (t46 : Int) (t47 : Int) => x132 k k132_1011 (t132_1011 t o r a ys t12 t14s t15 t45 t46 t47)) (fun (t : Int) (o : Int) (r : Int) (a : Int) (ys : List Int) (t45 : List Int) (t46 : Int) (t47 : Int) (t74s : List Int) (t75 : Int) (t76 : Int) => x132 k k132_1017 (t132_1017 t o r a ys t45 t46 t47 t74s t75 t76)) t o r a ys t12 t14s t15 t45 t46 t47 := by kernel_rfl
theorem e132_1017 (k : Nat) (t : Int) (o : Int) (r : Int) (a : Int) (ys : List Int) (t45 : List Int) (t46 : Int) (t47 : Int) (t74s : List Int) (t75 : Int) (t76 : Int) : x132 (k + 1) k132_1017 (t132_1017 t o r a ys t45 t46 t47 t74s t75 t76) = F132_1017 k (fun (t : Int) (o : Int) (r : Int) (a : Int) (ys : List Int) (t45 : List Int) (t46 : Int) (t47 : Int) => x132 k k132_1007 (t132_1007 t o r a ys t45 t46 t47)) (fun (t : Int) (o : Int) (r : Int) (a : Int) (ys : List Int) (t12 : Int) (t14s : List Int) (t15 : Int) (t45 : List Int) (t46 : Int) (t47 : Int) => x132 k k132_1011 (t132_1011 t o r a ys t12 t14s t15 t45 t46 t47)) (fun (t : Int) (o : Int) (r : Int) (a : Int) (ys : List Int) (t45 : List Int) (t46 : Int) (t47 : Int) (t74s : List Int) (t75 : Int) (t76 : Int) => x132 k k132_1017 (t132_1017 t o r a ys t45 t46 t47 t74s t75 t76)) t o r a ys t45 t46 t47 t74s t75 t76 := by kernel_rfl
theorem q132 : ∀ k : Nat, ((fun (t : Int) (o : Int) (r : Int) (a : Int) (ys : List Int) (t45 : List Int) (t46 : Int) (t47 : Int) => x132 k k132_1007 (t132_1007 t o r a ys t45 t46 t47)), (fun (t : Int) (o : Int) (r : Int) (a : Int) (ys : List Int) (t12 : Int) (t14s : List Int) (t15 : Int) (t45 : List Int) (t46 : Int) (t47 : Int) => x132 k k132_1011 (t132_1011 t o r a ys t12 t14s t15 t45 t46 t47)), (fun (t : Int) (o : Int) (r : Int) (a : Int) (ys : List Int) (t45 : List Int) (t46 : Int) (t47 : Int) (t74s : List Int) (t75 : Int) (t76 : Int) => x132 k k132_1017 (t132_1017 t o r a ys t45 t46 t47 t74s t75 t76))) = l132 k
  | 0 => rfl
  | k + 1 => by
    have h := q132 k
    show _ = (F132_1007 k ((l132 k).1) ((l132 k).2.1) ((l132 k).2.2), F132_1011 k ((l132 k).1) ((l132 k).2.1) ((l132 k).2.2), F132_1017 k ((l132 k).1) ((l132 k).2.1) ((l132 k).2.2))
    rw [← h]
    exact (Prod.ext (funext fun t => funext fun o => funext fun r => funext fun a => funext fun ys => funext fun t45 => funext fun t46 => funext fun t47 => e132_1007 k t o r a ys t45 t46 t47) (Prod.ext (funext fun t => funext fun o => funext fun r => funext fun a => funext fun ys => funext fun t12 => funext fun t14s => funext fun t15 => funext fun t45 => funext fun t46 => funext fun t47 => e132_1011 k t o r a ys t12 t14s t15 t45 t46 t47) (funext fun t => funext fun o => funext fun r => funext fun a => funext fun ys => funext fun t45 => funext fun t46 => funext fun t47 => funext fun t74s => funext fun t75 => funext fun t76 => e132_1017 k t o r a ys t45 t46 t47 t74s t75 t76)))
theorem w132 (k : Nat) (L : List (Int)) (i_Low_N : Int) (i_Low_K : Int) (i_High_N : Int) (i_High_K : Int) : runFn ti (envOf env23) 91 h132 (finT ti true Go.Proofs.Try.f132.results.toList [(.slice 3 (.int .i64), false)] (.slice 3 (.int .i64))) k (bodyOf Go.Proofs.Try.f132) (initS 0 [.slc 3 (.int .i64) L, .agg [.int .i64 i_Low_N, .int .i64 i_Low_K, .int .i64 i_High_N, .int .i64 i_High_K]]) = F132 k (fun (t : Int) (o : Int) (r : Int) (a : Int) (ys : List Int) (t45 : List Int) (t46 : Int) (t47 : Int) => x132 k k132_1007 (t132_1007 t o r a ys t45 t46 t47)) (fun (t : Int) (o : Int) (r : Int) (a : Int) (ys : List Int) (t12 : Int) (t14s : List Int) (t15 : Int) (t45 : List Int) (t46 : Int) (t47 : Int) => x132 k k132_1011 (t132_1011 t o r a ys t12 t14s t15 t45 t46 t47)) (fun (t : Int) (o : Int) (r : Int) (a : Int) (ys : List Int) (t45 : List Int) (t46 : Int) (t47 : Int) (t74s : List Int) (t75 : Int) (t76 : Int) => x132 k k132_1017 (t132_1017 t o r a ys t45 t46 t47 t74s t75 t76)) L i_Low_N i_Low_K i_High_N i_High_K := by kernel_rfl
theorem v132 (k : Nat) (L : List (Int)) (i_Low_N : Int) (i_Low_K : Int) (i_High_N : Int) (i_High_K : Int) : runFn ti (envOf env23) 91 h132 (finT ti true Go.Proofs.Try.f132.results.toList [(.slice 3 (.int .i64), false)] (.slice 3 (.int .i64))) k (bodyOf Go.Proofs.Try.f132) (initS 0 [.slc 3 (.int .i64) L, .agg [.int .i64 i_Low_N, .int .i64 i_Low_K, .int .i64 i_High_N, .int .i64 i_High_K]]) = f132 k L i_Low_N i_Low_K i_High_N i_High_K := by
  rw [w132]
  have h := q132 k
  unfold f132
  rw [← h]
theorem m132 : Meets Go.Proofs.Try.prog 132 s132 := meets_of_run tiOk env23_ok mo Go.Proofs.Try.func132 (body := bodyOf Go.Proofs.Try.f132) (by kernel_rfl) (N := 91) (by kernel_rfl) (hs := h132) (by
  intro k xs r h
  unfold s132 at h
  dsimp only at h
  split at h
  · exact ⟨Nat.le_of_ble_eq_true rfl, (v132 k _ _ _ _ _).trans h⟩
  · cases h)
theorem env24_ok : EnvOk Go.Proofs.Try.prog (envOf env24) := envOf_cons m132 Go.Proofs.Try.func132 (by kernel_rfl) (by kernel_rfl) env23_ok

end Go.Proofs.YtnndolcjljhhcaaE
