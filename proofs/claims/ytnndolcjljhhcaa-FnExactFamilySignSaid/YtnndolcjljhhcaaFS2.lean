/- Functions, by the engine; printed. -/
import Derived.Test.YtnndolcjljhhcaaFS1
set_option maxRecDepth 100000
set_option maxHeartbeats 4000000
set_option linter.unusedVariables false
namespace Go.Proofs.YtnndolcjljhhcaaE
-- spec.dyDown
def f175 (k : Nat) (a : Int) (b : Int) : Option (Int) :=
  bif !decide (b = 0) then
    bif !decide (b = 0) then
      bif decide (Int.tmod a b < 0) then
        some (IntKind.wrap IntKind.i64 (IntKind.wrap IntKind.i64 (Int.tdiv a b) - 1))
      else
        some (IntKind.wrap IntKind.i64 (Int.tdiv a b))
    else
      none
  else
    none
def s175 : Spec := ⟨false, [(.int .i64, false)], true, .int .i64, fun k xs => match xs with | [.int .i64 a, .int .i64 b] => f175 k a b | _ => none⟩
def env13 : List (FuncId × Spec) := (175, s175) :: env12
theorem v175 (k : Nat) (a : Int) (b : Int) : runFn ti (envOf env12) 16 [] (finT ti true Go.Proofs.Try.f175.results.toList [(.int .i64, false)] (.int .i64)) k (bodyOf Go.Proofs.Try.f175) (initS 0 [.int .i64 a, .int .i64 b]) = f175 k a b := by kernel_rfl
theorem m175 : Meets Go.Proofs.Try.prog 175 s175 := meets_of_run tiOk env12_ok mo Go.Proofs.Try.func175 (body := bodyOf Go.Proofs.Try.f175) (by kernel_rfl) (N := 16) (by kernel_rfl) (hs := []) (by
  intro k xs r h
  unfold s175 at h
  dsimp only at h
  split at h
  · exact ⟨Nat.le_of_ble_eq_true rfl, (v175 k _ _).trans h⟩
  · cases h)
theorem env13_ok : EnvOk Go.Proofs.Try.prog (envOf env13) := envOf_cons m175 Go.Proofs.Try.func175 (by kernel_rfl) (by kernel_rfl) env12_ok

-- spec.dyFloor
def f147 (k : Nat) (a_N : Int) (a_K : Int) : Option (Int) :=
  (f107 k a_K).bind fun r0 =>
  (f175 k a_N r0).bind fun r1 =>
  some r1
def s147 : Spec := ⟨false, [(.int .i64, false)], true, .int .i64, fun k xs => match xs with | [.agg [.int .i64 a_N, .int .i64 a_K]] => f147 k a_N a_K | _ => none⟩
def env14 : List (FuncId × Spec) := (147, s147) :: env13
theorem v147 (k : Nat) (a_N : Int) (a_K : Int) : runFn ti (envOf env13) 9 [] (finT ti true Go.Proofs.Try.f147.results.toList [(.int .i64, false)] (.int .i64)) k (bodyOf Go.Proofs.Try.f147) (initS 0 [.agg [.int .i64 a_N, .int .i64 a_K]]) = f147 k a_N a_K := by kernel_rfl
theorem m147 : Meets Go.Proofs.Try.prog 147 s147 := meets_of_run tiOk env13_ok mo Go.Proofs.Try.func147 (body := bodyOf Go.Proofs.Try.f147) (by kernel_rfl) (N := 9) (by kernel_rfl) (hs := []) (by
  intro k xs r h
  unfold s147 at h
  dsimp only at h
  split at h
  · exact ⟨Nat.le_of_ble_eq_true rfl, (v147 k _ _).trans h⟩
  · cases h)
theorem env14_ok : EnvOk Go.Proofs.Try.prog (envOf env14) := envOf_cons m147 Go.Proofs.Try.func147 (by kernel_rfl) (by kernel_rfl) env13_ok

-- spec.l1Sign
def f148 (k : Nat) (n : Int) : Option (Int) :=
  bif decide (0 < n) then
    some (1)
  else
    bif decide (n < 0) then
      some (-1)
    else
      some (0)
def s148 : Spec := ⟨false, [(.int .i64, false)], true, .int .i64, fun k xs => match xs with | [.int .i64 n] => f148 k n | _ => none⟩
def env15 : List (FuncId × Spec) := (148, s148) :: env14
theorem v148 (k : Nat) (n : Int) : runFn ti (envOf env14) 9 [] (finT ti true Go.Proofs.Try.f148.results.toList [(.int .i64, false)] (.int .i64)) k (bodyOf Go.Proofs.Try.f148) (initS 0 [.int .i64 n]) = f148 k n := by kernel_rfl
theorem m148 : Meets Go.Proofs.Try.prog 148 s148 := meets_of_run tiOk env14_ok mo Go.Proofs.Try.func148 (body := bodyOf Go.Proofs.Try.f148) (by kernel_rfl) (N := 9) (by kernel_rfl) (hs := []) (by
  intro k xs r h
  unfold s148 at h
  dsimp only at h
  split at h
  · exact ⟨Nat.le_of_ble_eq_true rfl, (v148 k _).trans h⟩
  · cases h)
theorem env15_ok : EnvOk Go.Proofs.Try.prog (envOf env15) := envOf_cons m148 Go.Proofs.Try.func148 (by kernel_rfl) (by kernel_rfl) env14_ok

-- spec.dyAt
def h149 : Hints := [(1004, .lab [(1, .one (.v)), (2, .box 52 [.v, .v]), (6, .one (.v))])]
def F149_1004 (k : Nat) (rec1004 : Int → Int → Int → Int → Option (Int × Bool)) (k_ : Int) (as_0 : Int) (as_1 : Int) (i : Int) : Option (Int × Bool) :=
  bif decide (i < k_) then
    (f85 k as_0 (IntKind.wrap IntKind.i64 (0 - IntKind.wrap IntKind.i64 (1 * 2 ^ min (Int.toNat (IntKind.wrap IntKind.u64 60)) (IntKind.bits IntKind.i64)))) (IntKind.wrap IntKind.i64 (1 * 2 ^ min (Int.toNat (IntKind.wrap IntKind.u64 60)) (IntKind.bits IntKind.i64)))).bind fun r0 =>
    bif !r0 then
      some ((0, false))
    else
      rec1004 k_ (IntKind.wrap IntKind.i64 (as_0 * 2)) as_1 (IntKind.wrap IntKind.i64 (i + 1))
  else
    some ((as_0, true))
def F149 (k : Nat) (rec1004 : Int → Int → Int → Int → Option (Int × Bool)) (a_N : Int) (a_K : Int) (k_ : Int) : Option (Int × Bool) :=
  bif decide (a_N = 0) then
    some ((0, true))
  else
    rec1004 k_ a_N a_K a_K
def l149 : Nat → (Int → Int → Int → Int → Option (Int × Bool))
  | 0 => fun _ _ _ _ => none
  | k + 1 => F149_1004 k (l149 k)
def f149 (k : Nat) (a_N : Int) (a_K : Int) (k_ : Int) : Option (Int × Bool) := F149 k (l149 k) a_N a_K k_
def s149 : Spec := ⟨false, [(.int .i64, false), (.bool, false)], true, .pair (.int .i64) (.bool), fun k xs => match xs with | [.agg [.int .i64 a_N, .int .i64 a_K], .int .i64 k_] => f149 k a_N a_K k_ | _ => none⟩
def env16 : List (FuncId × Spec) := (149, s149) :: env15
noncomputable abbrev x149 := exec ti (envOf env15) 30 h149 (finT ti true Go.Proofs.Try.f149.results.toList [(.int .i64, false), (.bool, false)] (.pair (.int .i64) (.bool)))
noncomputable def k149_1004 : List It := stackAt [.r, .r, .l, .r, .b, .lb none] (bodyOf Go.Proofs.Try.f149) []
def t149_1004 (k_ : Int) (as_0 : Int) (as_1 : Int) (i : Int) : St := [(2, Cell.val (AVal.int IntKind.i64 k_)), (4, Cell.val (AVal.ptr 3 0)), (3, Cell.mem true 52 [AVal.int IntKind.i64 as_0, AVal.int IntKind.i64 as_1]), (12, Cell.val (AVal.int IntKind.i64 i))]
theorem e149_1004 (k : Nat) (k_ : Int) (as_0 : Int) (as_1 : Int) (i : Int) : x149 (k + 1) k149_1004 (t149_1004 k_ as_0 as_1 i) = F149_1004 k (fun (k_ : Int) (as_0 : Int) (as_1 : Int) (i : Int) => x149 k k149_1004 (t149_1004 k_ as_0 as_1 i)) k_ as_0 as_1 i := by kernel_rfl
theorem q149 : ∀ k : Nat, (fun (k_ : Int) (as_0 : Int) (as_1 : Int) (i : Int) => x149 k k149_1004 (t149_1004 k_ as_0 as_1 i)) = l149 k
  | 0 => rfl
  | k + 1 => by
    have h := q149 k
    show _ = F149_1004 k (l149 k)
    rw [← h]
    exact (funext fun k_ => funext fun as_0 => funext fun as_1 => funext fun i => e149_1004 k k_ as_0 as_1 i)
theorem w149 (k : Nat) (a_N : Int) (a_K : Int) (k_ : Int) : runFn ti (envOf env15) 30 h149 (finT ti true Go.Proofs.Try.f149.results.toList [(.int .i64, false), (.bool, false)] (.pair (.int .i64) (.bool))) k (bodyOf Go.Proofs.Try.f149) (initS 0 [.agg [.int .i64 a_N, .int .i64 a_K], .int .i64 k_]) = F149 k (fun (k_ : Int) (as_0 : Int) (as_1 : Int) (i : Int) => x149 k k149_1004 (t149_1004 k_ as_0 as_1 i)) a_N a_K k_ := by kernel_rfl
theorem v149 (k : Nat) (a_N : Int) (a_K : Int) (k_ : Int) : runFn ti (envOf env15) 30 h149 (finT ti true Go.Proofs.Try.f149.results.toList [(.int .i64, false), (.bool, false)] (.pair (.int .i64) (.bool))) k (bodyOf Go.Proofs.Try.f149) (initS 0 [.agg [.int .i64 a_N, .int .i64 a_K], .int .i64 k_]) = f149 k a_N a_K k_ := by
  rw [w149]
  have h := q149 k
  unfold f149
  rw [← h]
theorem m149 : Meets Go.Proofs.Try.prog 149 s149 := meets_of_run tiOk env15_ok mo Go.Proofs.Try.func149 (body := bodyOf Go.Proofs.Try.f149) (by kernel_rfl) (N := 30) (by kernel_rfl) (hs := h149) (by
  intro k xs r h
  unfold s149 at h
  dsimp only at h
  split at h
  · exact ⟨Nat.le_of_ble_eq_true rfl, (v149 k _ _ _).trans h⟩
  · cases h)
theorem env16_ok : EnvOk Go.Proofs.Try.prog (envOf env16) := envOf_cons m149 Go.Proofs.Try.func149 (by kernel_rfl) (by kernel_rfl) env15_ok

-- spec.dyCmp
def f117 (k : Nat) (a_N : Int) (a_K : Int) (b_N : Int) (b_K : Int) : Option (Int) :=
  (f147 k a_N a_K).bind fun r0 =>
  (f147 k b_N b_K).bind fun r1 =>
  bif !decide (r0 = r1) then
    (f148 k (IntKind.wrap IntKind.i64 (r0 - r1))).bind fun r2 =>
    some r2
  else
    (f107 k a_K).bind fun r3 =>
    (f149 k (IntKind.wrap IntKind.i64 (a_N - IntKind.wrap IntKind.i64 (r0 * r3))) a_K 24).bind fun r4 =>
    (f107 k b_K).bind fun r5 =>
    (f149 k (IntKind.wrap IntKind.i64 (b_N - IntKind.wrap IntKind.i64 (r1 * r5))) b_K 24).bind fun r6 =>
    (f148 k (IntKind.wrap IntKind.i64 (r4.fst - r6.fst))).bind fun r7 =>
    some r7
def s117 : Spec := ⟨false, [(.int .i64, false)], true, .int .i64, fun k xs => match xs with | [.agg [.int .i64 a_N, .int .i64 a_K], .agg [.int .i64 b_N, .int .i64 b_K]] => f117 k a_N a_K b_N b_K | _ => none⟩
def env17 : List (FuncId × Spec) := (117, s117) :: env16
theorem v117 (k : Nat) (a_N : Int) (a_K : Int) (b_N : Int) (b_K : Int) : runFn ti (envOf env16) 56 [] (finT ti true Go.Proofs.Try.f117.results.toList [(.int .i64, false)] (.int .i64)) k (bodyOf Go.Proofs.Try.f117) (initS 0 [.agg [.int .i64 a_N, .int .i64 a_K], .agg [.int .i64 b_N, .int .i64 b_K]]) = f117 k a_N a_K b_N b_K := by kernel_rfl
theorem m117 : Meets Go.Proofs.Try.prog 117 s117 := meets_of_run tiOk env16_ok mo Go.Proofs.Try.func117 (body := bodyOf Go.Proofs.Try.f117) (by kernel_rfl) (N := 56) (by kernel_rfl) (hs := []) (by
  intro k xs r h
  unfold s117 at h
  dsimp only at h
  split at h
  · exact ⟨Nat.le_of_ble_eq_true rfl, (v117 k _ _ _ _).trans h⟩
  · cases h)
theorem env17_ok : EnvOk Go.Proofs.Try.prog (envOf env17) := envOf_cons m117 Go.Proofs.Try.func117 (by kernel_rfl) (by kernel_rfl) env16_ok

-- spec.dyInt
def f118 (k : Nat) (n : Int) : Option (Int × Int) :=
  some ((n, 0))
def s118 : Spec := ⟨false, [(.pair (.int .i64) (.int .i64), true)], true, .pair (.int .i64) (.int .i64), fun k xs => match xs with | [.int .i64 n] => f118 k n | _ => none⟩
def env18 : List (FuncId × Spec) := (118, s118) :: env17
theorem v118 (k : Nat) (n : Int) : runFn ti (envOf env17) 5 [] (finT ti true Go.Proofs.Try.f118.results.toList [(.pair (.int .i64) (.int .i64), true)] (.pair (.int .i64) (.int .i64))) k (bodyOf Go.Proofs.Try.f118) (initS 0 [.int .i64 n]) = f118 k n := by kernel_rfl
theorem m118 : Meets Go.Proofs.Try.prog 118 s118 := meets_of_run tiOk env17_ok mo Go.Proofs.Try.func118 (body := bodyOf Go.Proofs.Try.f118) (by kernel_rfl) (N := 5) (by kernel_rfl) (hs := []) (by
  intro k xs r h
  unfold s118 at h
  dsimp only at h
  split at h
  · exact ⟨Nat.le_of_ble_eq_true rfl, (v118 k _).trans h⟩
  · cases h)
theorem env18_ok : EnvOk Go.Proofs.Try.prog (envOf env18) := envOf_cons m118 Go.Proofs.Try.func118 (by kernel_rfl) (by kernel_rfl) env17_ok

-- spec.faX
def f86 (k : Nat) (x_N : Int) (x_K : Int) : Option (Bool) :=
  (f116 k x_N x_K).bind fun r0 =>
  bif r0 then
    bif decide (x_K ≤ 5) then
      (f117 k (-8) 0 x_N x_K).bind fun r1 =>
      bif decide (r1 ≤ 0) then
        (f117 k x_N x_K 8 0).bind fun r2 =>
        some (decide (r2 ≤ 0))
      else
        some false
    else
      some false
  else
    some false
def s86 : Spec := ⟨false, [(.bool, false)], true, .bool, fun k xs => match xs with | [.agg [.int .i64 x_N, .int .i64 x_K]] => f86 k x_N x_K | _ => none⟩
def env19 : List (FuncId × Spec) := (86, s86) :: env18
theorem v86 (k : Nat) (x_N : Int) (x_K : Int) : runFn ti (envOf env18) 22 [] (finT ti true Go.Proofs.Try.f86.results.toList [(.bool, false)] (.bool)) k (bodyOf Go.Proofs.Try.f86) (initS 0 [.agg [.int .i64 x_N, .int .i64 x_K]]) = f86 k x_N x_K := by kernel_rfl
theorem m86 : Meets Go.Proofs.Try.prog 86 s86 := meets_of_run tiOk env18_ok mo Go.Proofs.Try.func86 (body := bodyOf Go.Proofs.Try.f86) (by kernel_rfl) (N := 22) (by kernel_rfl) (hs := []) (by
  intro k xs r h
  unfold s86 at h
  dsimp only at h
  split at h
  · exact ⟨Nat.le_of_ble_eq_true rfl, (v86 k _ _).trans h⟩
  · cases h)
theorem env19_ok : EnvOk Go.Proofs.Try.prog (envOf env19) := envOf_cons m86 Go.Proofs.Try.func86 (by kernel_rfl) (by kernel_rfl) env18_ok

-- spec.faAt
def h64 : Hints := [(1003, .lab [(1, .one (.frz 3 (Ty.int IntKind.i64))), (2, .one (.v)), (3, .one (.v)), (9, .one (.own 3 (Ty.int IntKind.i64))), (15, .one (.frz 3 (Ty.int IntKind.i64))), (16, .one (.v)), (17, .one (.v))]), (1008, .lab [(2, .one (.v)), (9, .one (.own 3 (Ty.int IntKind.i64))), (33, .one (.frz 3 (Ty.int IntKind.i64))), (34, .one (.v)), (35, .one (.v))])]
def F64_1003 (k : Nat) (rec1003 : List Int → Int → Int → List Int → List Int → Int → Int → Option (List (Int))) (rec1008 : Int → List Int → List Int → Int → Int → Option (List (Int))) (q : List Int) (i : Int) (fine : Int) (outs : List Int) (t15 : List Int) (t16 : Int) (t17 : Int) : Option (List (Int)) :=
  bif decide (t17 < t16) then
    bif boundA t17 (List.length t15) then
      bif boundA t17 (List.length outs) then
        bif Nat.blt (Int.toNat t17) (List.length outs) then
          (f107 k fine).bind fun r0 =>
          bif boundA t17 (List.length outs) then
            bif Nat.blt (Int.toNat t17) (List.length outs) then
              rec1003 q i fine (List.set outs (Int.toNat t17) (IntKind.wrap IntKind.i64 (List.getD outs (Int.toNat t17) 0 + IntKind.wrap IntKind.i64 (List.getD t15 (Int.toNat t17) 0 * r0)))) t15 t16 (IntKind.wrap IntKind.i64 (t17 + 1))
            else
              none
          else
            none
        else
          none
      else
        none
    else
      none
  else
    rec1008 i outs q ((↑(List.length q) : Int)) (0)
def F64_1008 (k : Nat) (rec1003 : List Int → Int → Int → List Int → List Int → Int → Int → Option (List (Int))) (rec1008 : Int → List Int → List Int → Int → Int → Option (List (Int))) (i : Int) (outs : List Int) (t33 : List Int) (t34 : Int) (t35 : Int) : Option (List (Int)) :=
  bif decide (t35 < t34) then
    bif boundA t35 (List.length t33) then
      bif boundA t35 (List.length outs) then
        bif Nat.blt (Int.toNat t35) (List.length outs) then
          bif boundA t35 (List.length outs) then
            bif Nat.blt (Int.toNat t35) (List.length outs) then
              rec1008 i (List.set outs (Int.toNat t35) (IntKind.wrap IntKind.i64 (List.getD outs (Int.toNat t35) 0 + IntKind.wrap IntKind.i64 (List.getD t33 (Int.toNat t35) 0 * i)))) t33 t34 (IntKind.wrap IntKind.i64 (t35 + 1))
            else
              none
          else
            none
        else
          none
      else
        none
    else
      none
  else
    some outs
def F64 (k : Nat) (rec1003 : List Int → Int → Int → List Int → List Int → Int → Int → Option (List (Int))) (rec1008 : Int → List Int → List Int → Int → Int → Option (List (Int))) (p : List (Int)) (q : List (Int)) (i : Int) (fine : Int) : Option (List (Int)) :=
  rec1003 q i fine (List.replicate (Int.toNat 6) (dflt (Ty.int IntKind.i64))) p ((↑(List.length p) : Int)) (0)
def l64 : Nat → (List Int → Int → Int → List Int → List Int → Int → Int → Option (List (Int))) × (Int → List Int → List Int → Int → Int → Option (List (Int)))
  | 0 => (fun _ _ _ _ _ _ _ => none, fun _ _ _ _ _ => none)
  | k + 1 => (F64_1003 k ((l64 k).1) ((l64 k).2), F64_1008 k ((l64 k).1) ((l64 k).2))
def f64 (k : Nat) (p : List (Int)) (q : List (Int)) (i : Int) (fine : Int) : Option (List (Int)) := F64 k ((l64 k).1) ((l64 k).2) p q i fine
def s64 : Spec := ⟨false, [(.slice 3 (.int .i64), false)], true, .slice 3 (.int .i64), fun k xs => match xs with | [.slc 3 (.int .i64) p, .slc 3 (.int .i64) q, .int .i64 i, .int .i64 fine] => f64 k p q i fine | _ => none⟩
def env20 : List (FuncId × Spec) := (64, s64) :: env19
noncomputable abbrev x64 := exec ti (envOf env19) 51 h64 (finT ti true Go.Proofs.Try.f64.results.toList [(.slice 3 (.int .i64), false)] (.slice 3 (.int .i64)))
noncomputable def k64_1003 : List It := stackAt [.r, .r, .l, .r, .b, .lb none] (bodyOf Go.Proofs.Try.f64) []
def t64_1003 (q : List Int) (i : Int) (fine : Int) (outs : List Int) (t15 : List Int) (t16 : Int) (t17 : Int) : St := [(2, Cell.val (AVal.slc 3 (Ty.int IntKind.i64) q)), (4, Cell.val (AVal.int IntKind.i64 i)), (6, Cell.val (AVal.int IntKind.i64 fine)), (18, Cell.val (AVal.ref 3 none)), (3, Cell.row true 3 (Ty.int IntKind.i64) outs), (30, Cell.val (AVal.slc 3 (Ty.int IntKind.i64) t15)), (32, Cell.val (AVal.int IntKind.i64 t16)), (34, Cell.val (AVal.int IntKind.i64 t17))]
noncomputable def k64_1008 : List It := stackAt [.r, .r, .r, .l, .r, .b, .lb none] (bodyOf Go.Proofs.Try.f64) []
def t64_1008 (i : Int) (outs : List Int) (t33 : List Int) (t34 : Int) (t35 : Int) : St := [(4, Cell.val (AVal.int IntKind.i64 i)), (18, Cell.val (AVal.ref 3 none)), (3, Cell.row true 3 (Ty.int IntKind.i64) outs), (66, Cell.val (AVal.slc 3 (Ty.int IntKind.i64) t33)), (68, Cell.val (AVal.int IntKind.i64 t34)), (70, Cell.val (AVal.int IntKind.i64 t35))]
theorem e64_1003 (k : Nat) (q : List Int) (i : Int) (fine : Int) (outs : List Int) (t15 : List Int) (t16 : Int) (t17 : Int) : x64 (k + 1) k64_1003 (t64_1003 q i fine outs t15 t16 t17) = F64_1003 k (fun (q : List Int) (i : Int) (fine : Int) (outs : List Int) (t15 : List Int) (t16 : Int) (t17 : Int) => x64 k k64_1003 (t64_1003 q i fine outs t15 t16 t17)) (fun (i : Int) (outs : List Int) (t33 : List Int) (t34 : Int) (t35 : Int) => x64 k k64_1008 (t64_1008 i outs t33 t34 t35)) q i fine outs t15 t16 t17 := by kernel_rfl
theorem e64_1008 (k : Nat) (i : Int) (outs : List Int) (t33 : List Int) (t34 : Int) (t35 : Int) : x64 (k + 1) k64_1008 (t64_1008 i outs t33 t34 t35) = F64_1008 k (fun (q : List Int) (i : Int) (fine : Int) (outs : List Int) (t15 : List Int) (t16 : Int) (t17 : Int) => x64 k k64_1003 (t64_1003 q i fine outs t15 t16 t17)) (fun (i : Int) (outs : List Int) (t33 : List Int) (t34 : Int) (t35 : Int) => x64 k k64_1008 (t64_1008 i outs t33 t34 t35)) i outs t33 t34 t35 := by kernel_rfl
theorem q64 : ∀ k : Nat, ((fun (q : List Int) (i : Int) (fine : Int) (outs : List Int) (t15 : List Int) (t16 : Int) (t17 : Int) => x64 k k64_1003 (t64_1003 q i fine outs t15 t16 t17)), (fun (i : Int) (outs : List Int) (t33 : List Int) (t34 : Int) (t35 : Int) => x64 k k64_1008 (t64_1008 i outs t33 t34 t35))) = l64 k
  | 0 => rfl
  | k + 1 => by
    have h := q64 k
    show _ = (F64_1003 k ((l64 k).1) ((l64 k).2), F64_1008 k ((l64 k).1) ((l64 k).2))
    rw [← h]
    exact (Prod.ext (funext fun q => funext fun i => funext fun fine => funext fun outs => funext fun t15 => funext fun t16 => funext fun t17 => e64_1003 k q i fine outs t15 t16 t17) (funext fun i => funext fun outs => funext fun t33 => funext fun t34 => funext fun t35 => e64_1008 k i outs t33 t34 t35))
theorem w64 (k : Nat) (p : List (Int)) (q : List (Int)) (i : Int) (fine : Int) : runFn ti (envOf env19) 51 h64 (finT ti true Go.Proofs.Try.f64.results.toList [(.slice 3 (.int .i64), false)] (.slice 3 (.int .i64))) k (bodyOf Go.Proofs.Try.f64) (initS 0 [.slc 3 (.int .i64) p, .slc 3 (.int .i64) q, .int .i64 i, .int .i64 fine]) = F64 k (fun (q : List Int) (i : Int) (fine : Int) (outs : List Int) (t15 : List Int) (t16 : Int) (t17 : Int) => x64 k k64_1003 (t64_1003 q i fine outs t15 t16 t17)) (fun (i : Int) (outs : List Int) (t33 : List Int) (t34 : Int) (t35 : Int) => x64 k k64_1008 (t64_1008 i outs t33 t34 t35)) p q i fine := by kernel_rfl
theorem v64 (k : Nat) (p : List (Int)) (q : List (Int)) (i : Int) (fine : Int) : runFn ti (envOf env19) 51 h64 (finT ti true Go.Proofs.Try.f64.results.toList [(.slice 3 (.int .i64), false)] (.slice 3 (.int .i64))) k (bodyOf Go.Proofs.Try.f64) (initS 0 [.slc 3 (.int .i64) p, .slc 3 (.int .i64) q, .int .i64 i, .int .i64 fine]) = f64 k p q i fine := by
  rw [w64]
  have h := q64 k
  unfold f64
  rw [← h]
theorem m64 : Meets Go.Proofs.Try.prog 64 s64 := meets_of_run tiOk env19_ok mo Go.Proofs.Try.func64 (body := bodyOf Go.Proofs.Try.f64) (by kernel_rfl) (N := 51) (by kernel_rfl) (hs := h64) (by
  intro k xs r h
  unfold s64 at h
  dsimp only at h
  split at h
  · exact ⟨Nat.le_of_ble_eq_true rfl, (v64 k _ _ _ _).trans h⟩
  · cases h)
theorem env20_ok : EnvOk Go.Proofs.Try.prog (envOf env20) := envOf_cons m64 Go.Proofs.Try.func64 (by kernel_rfl) (by kernel_rfl) env19_ok

-- spec.sgSign
def h150 : Hints := [(1003, .lab [(1, .one (.v)), (2, .one (.v)), (7, .one (.v)), (8, .one (.v)), (11, .one (.frz 3 (Ty.int IntKind.i64))), (12, .one (.v)), (13, .one (.v))])]
def F150_1003 (k : Nat) (rec1003 : Int → Int → Int → Int → List Int → Int → Int → Option (Int)) (n : Int) (k_ : Int) (sum : Int) (up : Int) (t11 : List Int) (t12 : Int) (t13 : Int) : Option (Int) :=
  bif decide (t13 < t12) then
    bif boundA t13 (List.length t11) then
      (f107 k k_).bind fun r0 =>
      rec1003 n k_ (IntKind.wrap IntKind.i64 (IntKind.wrap IntKind.i64 (sum * r0) + IntKind.wrap IntKind.i64 (List.getD t11 (Int.toNat t13) 0 * up))) (IntKind.wrap IntKind.i64 (up * n)) t11 t12 (IntKind.wrap IntKind.i64 (t13 + 1))
    else
      none
  else
    (f148 k sum).bind fun r1 =>
    some r1
def F150 (k : Nat) (rec1003 : Int → Int → Int → Int → List Int → Int → Int → Option (Int)) (p : List (Int)) (n : Int) (k_ : Int) : Option (Int) :=
  rec1003 n k_ (0) (1) p ((↑(List.length p) : Int)) (0)
def l150 : Nat → (Int → Int → Int → Int → List Int → Int → Int → Option (Int))
  | 0 => fun _ _ _ _ _ _ _ => none
  | k + 1 => F150_1003 k (l150 k)
def f150 (k : Nat) (p : List (Int)) (n : Int) (k_ : Int) : Option (Int) := F150 k (l150 k) p n k_
def s150 : Spec := ⟨false, [(.int .i64, false)], true, .int .i64, fun k xs => match xs with | [.slc 3 (.int .i64) p, .int .i64 n, .int .i64 k_] => f150 k p n k_ | _ => none⟩
def env21 : List (FuncId × Spec) := (150, s150) :: env20
noncomputable abbrev x150 := exec ti (envOf env20) 31 h150 (finT ti true Go.Proofs.Try.f150.results.toList [(.int .i64, false)] (.int .i64))
noncomputable def k150_1003 : List It := stackAt [.r, .r, .l, .r, .b, .lb none] (bodyOf Go.Proofs.Try.f150) []
def t150_1003 (n : Int) (k_ : Int) (sum : Int) (up : Int) (t11 : List Int) (t12 : Int) (t13 : Int) : St := [(2, Cell.val (AVal.int IntKind.i64 n)), (4, Cell.val (AVal.int IntKind.i64 k_)), (14, Cell.val (AVal.int IntKind.i64 sum)), (16, Cell.val (AVal.int IntKind.i64 up)), (22, Cell.val (AVal.slc 3 (Ty.int IntKind.i64) t11)), (24, Cell.val (AVal.int IntKind.i64 t12)), (26, Cell.val (AVal.int IntKind.i64 t13))]
theorem e150_1003 (k : Nat) (n : Int) (k_ : Int) (sum : Int) (up : Int) (t11 : List Int) (t12 : Int) (t13 : Int) : x150 (k + 1) k150_1003 (t150_1003 n k_ sum up t11 t12 t13) = F150_1003 k (fun (n : Int) (k_ : Int) (sum : Int) (up : Int) (t11 : List Int) (t12 : Int) (t13 : Int) => x150 k k150_1003 (t150_1003 n k_ sum up t11 t12 t13)) n k_ sum up t11 t12 t13 := by kernel_rfl
theorem q150 : ∀ k : Nat, (fun (n : Int) (k_ : Int) (sum : Int) (up : Int) (t11 : List Int) (t12 : Int) (t13 : Int) => x150 k k150_1003 (t150_1003 n k_ sum up t11 t12 t13)) = l150 k
  | 0 => rfl
  | k + 1 => by
    have h := q150 k
    show _ = F150_1003 k (l150 k)
    rw [← h]
    exact (funext fun n => funext fun k_ => funext fun sum => funext fun up => funext fun t11 => funext fun t12 => funext fun t13 => e150_1003 k n k_ sum up t11 t12 t13)
theorem w150 (k : Nat) (p : List (Int)) (n : Int) (k_ : Int) : runFn ti (envOf env20) 31 h150 (finT ti true Go.Proofs.Try.f150.results.toList [(.int .i64, false)] (.int .i64)) k (bodyOf Go.Proofs.Try.f150) (initS 0 [.slc 3 (.int .i64) p, .int .i64 n, .int .i64 k_]) = F150 k (fun (n : Int) (k_ : Int) (sum : Int) (up : Int) (t11 : List Int) (t12 : Int) (t13 : Int) => x150 k k150_1003 (t150_1003 n k_ sum up t11 t12 t13)) p n k_ := by kernel_rfl
theorem v150 (k : Nat) (p : List (Int)) (n : Int) (k_ : Int) : runFn ti (envOf env20) 31 h150 (finT ti true Go.Proofs.Try.f150.results.toList [(.int .i64, false)] (.int .i64)) k (bodyOf Go.Proofs.Try.f150) (initS 0 [.slc 3 (.int .i64) p, .int .i64 n, .int .i64 k_]) = f150 k p n k_ := by
  rw [w150]
  have h := q150 k
  unfold f150
  rw [← h]
theorem m150 : Meets Go.Proofs.Try.prog 150 s150 := meets_of_run tiOk env20_ok mo Go.Proofs.Try.func150 (body := bodyOf Go.Proofs.Try.f150) (by kernel_rfl) (N := 31) (by kernel_rfl) (hs := h150) (by
  intro k xs r h
  unfold s150 at h
  dsimp only at h
  split at h
  · exact ⟨Nat.le_of_ble_eq_true rfl, (v150 k _ _ _).trans h⟩
  · cases h)
theorem env21_ok : EnvOk Go.Proofs.Try.prog (envOf env21) := envOf_cons m150 Go.Proofs.Try.func150 (by kernel_rfl) (by kernel_rfl) env20_ok

-- spec.faSign
def f119 (k : Nat) (p : List (Int)) (q : List (Int)) (x_N : Int) (x_K : Int) (i : Int) (fine : Int) : Option (Int) :=
  (f64 k p q i fine).bind fun r0 =>
  (f150 k r0 x_N x_K).bind fun r1 =>
  some r1
def s119 : Spec := ⟨false, [(.int .i64, false)], true, .int .i64, fun k xs => match xs with | [.slc 3 (.int .i64) p, .slc 3 (.int .i64) q, .agg [.int .i64 x_N, .int .i64 x_K], .int .i64 i, .int .i64 fine] => f119 k p q x_N x_K i fine | _ => none⟩
def env22 : List (FuncId × Spec) := (119, s119) :: env21
theorem v119 (k : Nat) (p : List (Int)) (q : List (Int)) (x_N : Int) (x_K : Int) (i : Int) (fine : Int) : runFn ti (envOf env21) 21 [] (finT ti true Go.Proofs.Try.f119.results.toList [(.int .i64, false)] (.int .i64)) k (bodyOf Go.Proofs.Try.f119) (initS 0 [.slc 3 (.int .i64) p, .slc 3 (.int .i64) q, .agg [.int .i64 x_N, .int .i64 x_K], .int .i64 i, .int .i64 fine]) = f119 k p q x_N x_K i fine := by kernel_rfl
theorem m119 : Meets Go.Proofs.Try.prog 119 s119 := meets_of_run tiOk env21_ok mo Go.Proofs.Try.func119 (body := bodyOf Go.Proofs.Try.f119) (by kernel_rfl) (N := 21) (by kernel_rfl) (hs := []) (by
  intro k xs r h
  unfold s119 at h
  dsimp only at h
  split at h
  · exact ⟨Nat.le_of_ble_eq_true rfl, (v119 k _ _ _ _ _ _).trans h⟩
  · cases h)
theorem env22_ok : EnvOk Go.Proofs.Try.prog (envOf env22) := envOf_cons m119 Go.Proofs.Try.func119 (by kernel_rfl) (by kernel_rfl) env21_ok

-- spec.faBoth
def f87 (k : Nat) (p : List (Int)) (q : List (Int)) (x_N : Int) (x_K : Int) (i : Int) (k_ : Int) (fine : Int) : Option (Int) :=
  (f119 k p q x_N x_K i fine).bind fun r0 =>
  (f119 k p q x_N x_K k_ fine).bind fun r1 =>
  bif !decide (r1 = r0) then
    some (0)
  else
    some r0
def s87 : Spec := ⟨false, [(.int .i64, false)], true, .int .i64, fun k xs => match xs with | [.slc 3 (.int .i64) p, .slc 3 (.int .i64) q, .agg [.int .i64 x_N, .int .i64 x_K], .int .i64 i, .int .i64 k_, .int .i64 fine] => f87 k p q x_N x_K i k_ fine | _ => none⟩
def env23 : List (FuncId × Spec) := (87, s87) :: env22
theorem v87 (k : Nat) (p : List (Int)) (q : List (Int)) (x_N : Int) (x_K : Int) (i : Int) (k_ : Int) (fine : Int) : runFn ti (envOf env22) 29 [] (finT ti true Go.Proofs.Try.f87.results.toList [(.int .i64, false)] (.int .i64)) k (bodyOf Go.Proofs.Try.f87) (initS 0 [.slc 3 (.int .i64) p, .slc 3 (.int .i64) q, .agg [.int .i64 x_N, .int .i64 x_K], .int .i64 i, .int .i64 k_, .int .i64 fine]) = f87 k p q x_N x_K i k_ fine := by kernel_rfl
theorem m87 : Meets Go.Proofs.Try.prog 87 s87 := meets_of_run tiOk env22_ok mo Go.Proofs.Try.func87 (body := bodyOf Go.Proofs.Try.f87) (by kernel_rfl) (N := 29) (by kernel_rfl) (hs := []) (by
  intro k xs r h
  unfold s87 at h
  dsimp only at h
  split at h
  · exact ⟨Nat.le_of_ble_eq_true rfl, (v87 k _ _ _ _ _ _ _).trans h⟩
  · cases h)
theorem env23_ok : EnvOk Go.Proofs.Try.prog (envOf env23) := envOf_cons m87 Go.Proofs.Try.func87 (by kernel_rfl) (by kernel_rfl) env22_ok

-- spec.FamilySign
def f42 (k : Nat) (p : List (Int)) (q : List (Int)) (x_N : Int) (x_K : Int) (i : Int) (k_ : Int) (fine : Int) : Option (Int × Bool) :=
  (f62 k p q i fine).bind fun r0 =>
  bif !r0 then
    some ((0, false))
  else
    (f62 k p q k_ fine).bind fun r1 =>
    bif !r1 then
      some ((0, false))
    else
      (f86 k x_N x_K).bind fun r2 =>
      bif !r2 then
        some ((0, false))
      else
        (f87 k p q x_N x_K i k_ fine).bind fun r3 =>
        some ((r3, true))
def s42 : Spec := ⟨false, [(.int .i64, false), (.bool, false)], true, .pair (.int .i64) (.bool), fun k xs => match xs with | [.slc 3 (.int .i64) p, .slc 3 (.int .i64) q, .agg [.int .i64 x_N, .int .i64 x_K], .int .i64 i, .int .i64 k_, .int .i64 fine] => f42 k p q x_N x_K i k_ fine | _ => none⟩
def env24 : List (FuncId × Spec) := (42, s42) :: env23
theorem v42 (k : Nat) (p : List (Int)) (q : List (Int)) (x_N : Int) (x_K : Int) (i : Int) (k_ : Int) (fine : Int) : runFn ti (envOf env23) 40 [] (finT ti true Go.Proofs.Try.f42.results.toList [(.int .i64, false), (.bool, false)] (.pair (.int .i64) (.bool))) k (bodyOf Go.Proofs.Try.f42) (initS 0 [.slc 3 (.int .i64) p, .slc 3 (.int .i64) q, .agg [.int .i64 x_N, .int .i64 x_K], .int .i64 i, .int .i64 k_, .int .i64 fine]) = f42 k p q x_N x_K i k_ fine := by kernel_rfl
theorem m42 : Meets Go.Proofs.Try.prog 42 s42 := meets_of_run tiOk env23_ok mo Go.Proofs.Try.func42 (body := bodyOf Go.Proofs.Try.f42) (by kernel_rfl) (N := 40) (by kernel_rfl) (hs := []) (by
  intro k xs r h
  unfold s42 at h
  dsimp only at h
  split at h
  · exact ⟨Nat.le_of_ble_eq_true rfl, (v42 k _ _ _ _ _ _ _).trans h⟩
  · cases h)
theorem env24_ok : EnvOk Go.Proofs.Try.prog (envOf env24) := envOf_cons m42 Go.Proofs.Try.func42 (by kernel_rfl) (by kernel_rfl) env23_ok

end Go.Proofs.YtnndolcjljhhcaaE
