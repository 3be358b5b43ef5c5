/- Functions, by the engine; printed. -/
import Derived.Test.YtbaeikcfchiiaaaNF0
set_option maxRecDepth 100000
set_option maxHeartbeats 4000000
set_option linter.unusedVariables false
namespace Go.Proofs.YtbaeikcfchiiaaaE
-- spec.l1In
noncomputable def f121 (k : Nat) (n : Int) (lo : Int) (hi : Int) : Option (Bool) :=
  bif decide (lo ≤ n) then
    some (decide (n ≤ hi))
  else
    some false
noncomputable def s121 : Spec := ⟨false, [(.bool, false)], true, .bool, fun k xs => match xs with | [.int .i64 n, .int .i64 lo, .int .i64 hi] => f121 k n lo hi | _ => none⟩
noncomputable def env1 : List (FuncId × Spec) := (121, s121) :: env0
theorem v121 (k : Nat) (n : Int) (lo : Int) (hi : Int) : runFn ti (envOf env0) 15 [] (finT ti true Go.Proofs.Try.f121.results.toList [(.bool, false)] (.bool)) k (bodyOf Go.Proofs.Try.f121) (initS 0 [.int .i64 n, .int .i64 lo, .int .i64 hi]) = f121 k n lo hi := by kernel_rfl
theorem m121 : Meets Go.Proofs.Try.prog 121 s121 := meets_of_run tiOk env0_ok mo Go.Proofs.Try.func121 (body := bodyOf Go.Proofs.Try.f121) (by kernel_rfl) (N := 15) (by kernel_rfl) (hs := []) (by
  intro k xs r h
  unfold s121 at h
  dsimp only at h
  split at h
  · exact ⟨Nat.le_of_ble_eq_true rfl, (v121 k _ _ _).trans h⟩
  · cases h)
theorem env1_ok : EnvOk Go.Proofs.Try.prog (envOf env1) := envOf_cons m121 Go.Proofs.Try.func121 (by kernel_rfl) (by kernel_rfl) env0_ok

-- spec.l1All
def h213 : Hints := [(1002, .lab [(1, .one (.v)), (2, .one (.v)), (9, .one (.frz 3 (Ty.int IntKind.i64))), (10, .one (.v)), (11, .one (.v))])]
noncomputable def F213_1002 (k : Nat) (rec1002 : Int → Int → List Int → Int → Int → Option (Bool)) (lo : Int) (hi : Int) (t9 : List Int) (t10 : Int) (t11 : Int) : Option (Bool) :=
  bif decide (t11 < t10) then
    bif boundA t11 (List.length t9) then
      (f121 k (List.getD t9 (Int.toNat t11) 0) lo hi).bind fun r0 =>
      bif !r0 then
        some false
      else
        rec1002 lo hi t9 t10 (IntKind.wrap IntKind.i64 (t11 + 1))
    else
      none
  else
    some true
noncomputable def F213 (k : Nat) (rec1002 : Int → Int → List Int → Int → Int → Option (Bool)) (l : List (Int)) (lo : Int) (hi : Int) : Option (Bool) :=
  rec1002 lo hi l ((↑(List.length l) : Int)) (0)
noncomputable def l213 : Nat → (Int → Int → List Int → Int → Int → Option (Bool))
  | 0 => fun _ _ _ _ _ => none
  | k + 1 => F213_1002 k (l213 k)
noncomputable def f213 (k : Nat) (l : List (Int)) (lo : Int) (hi : Int) : Option (Bool) := F213 k (l213 k) l lo hi
noncomputable def s213 : Spec := ⟨false, [(.bool, false)], true, .bool, fun k xs => match xs with | [.slc 3 (.int .i64) l, .int .i64 lo, .int .i64 hi] => f213 k l lo hi | _ => none⟩
noncomputable def env2 : List (FuncId × Spec) := (213, s213) :: env1
noncomputable abbrev x213 := exec ti (envOf env1) 21 h213 (finT ti true Go.Proofs.Try.f213.results.toList [(.bool, false)] (.bool))
noncomputable def k213_1002 : List It := stackAt [.r, .l, .r, .b, .lb none] (bodyOf Go.Proofs.Try.f213) []
def t213_1002 (lo : Int) (hi : Int) (t9 : List Int) (t10 : Int) (t11 : Int) : St := [(2, Cell.val (AVal.int IntKind.i64 lo)), (4, Cell.val (AVal.int IntKind.i64 hi)), (18, Cell.val (AVal.slc 3 (Ty.int IntKind.i64) t9)), (20, Cell.val (AVal.int IntKind.i64 t10)), (22, Cell.val (AVal.int IntKind.i64 t11))]
theorem e213_1002 (k : Nat) (lo : Int) (hi : Int) (t9 : List Int) (t10 : Int) (t11 : Int) : x213 (k + 1) k213_1002 (t213_1002 lo hi t9 t10 t11) = F213_1002 k (fun (lo : Int) (hi : Int) (t9 : List Int) (t10 : Int) (t11 : Int) => x213 k k213_1002 (t213_1002 lo hi t9 t10 t11)) lo hi t9 t10 t11 := by kernel_rfl
theorem q213 : ∀ k : Nat, (fun (lo : Int) (hi : Int) (t9 : List Int) (t10 : Int) (t11 : Int) => x213 k k213_1002 (t213_1002 lo hi t9 t10 t11)) = l213 k
  | 0 => rfl
  | k + 1 => by
    have h := q213 k
    show _ = F213_1002 k (l213 k)
    rw [← h]
    exact (funext fun lo => funext fun hi => funext fun t9 => funext fun t10 => funext fun t11 => e213_1002 k lo hi t9 t10 t11)
theorem w213 (k : Nat) (l : List (Int)) (lo : Int) (hi : Int) : runFn ti (envOf env1) 21 h213 (finT ti true Go.Proofs.Try.f213.results.toList [(.bool, false)] (.bool)) k (bodyOf Go.Proofs.Try.f213) (initS 0 [.slc 3 (.int .i64) l, .int .i64 lo, .int .i64 hi]) = F213 k (fun (lo : Int) (hi : Int) (t9 : List Int) (t10 : Int) (t11 : Int) => x213 k k213_1002 (t213_1002 lo hi t9 t10 t11)) l lo hi := by kernel_rfl
theorem v213 (k : Nat) (l : List (Int)) (lo : Int) (hi : Int) : runFn ti (envOf env1) 21 h213 (finT ti true Go.Proofs.Try.f213.results.toList [(.bool, false)] (.bool)) k (bodyOf Go.Proofs.Try.f213) (initS 0 [.slc 3 (.int .i64) l, .int .i64 lo, .int .i64 hi]) = f213 k l lo hi := by
  rw [w213]
  have h := q213 k
  unfold f213
  rw [← h]
theorem m213 : Meets Go.Proofs.Try.prog 213 s213 := meets_of_run tiOk env1_ok mo Go.Proofs.Try.func213 (body := bodyOf Go.Proofs.Try.f213) (by kernel_rfl) (N := 21) (by kernel_rfl) (hs := h213) (by
  intro k xs r h
  unfold s213 at h
  dsimp only at h
  split at h
  · exact ⟨Nat.le_of_ble_eq_true rfl, (v213 k _ _ _).trans h⟩
  · cases h)
theorem env2_ok : EnvOk Go.Proofs.Try.prog (envOf env2) := envOf_cons m213 Go.Proofs.Try.func213 (by kernel_rfl) (by kernel_rfl) env1_ok

-- spec.sgGood
noncomputable def f212 (k : Nat) (p : List (Int)) : Option (Bool) :=
  bif decide (9 < (↑(List.length p) : Int)) then
    some false
  else
    (f213 k p (-1000000) 1000000).bind fun r0 =>
    bif !r0 then
      some false
    else
      bif decide ((↑(List.length p) : Int) = 0) then
        some true
      else
        bif boundA (IntKind.wrap IntKind.i64 ((↑(List.length p) : Int) - 1)) (List.length p) then
          some (!decide (List.getD p (Int.toNat (IntKind.wrap IntKind.i64 ((↑(List.length p) : Int) - 1))) 0 = 0))
        else
          none
noncomputable def s212 : Spec := ⟨false, [(.bool, false)], true, .bool, fun k xs => match xs with | [.slc 3 (.int .i64) p] => f212 k p | _ => none⟩
noncomputable def env3 : List (FuncId × Spec) := (212, s212) :: env2
theorem v212 (k : Nat) (p : List (Int)) : runFn ti (envOf env2) 23 [] (finT ti true Go.Proofs.Try.f212.results.toList [(.bool, false)] (.bool)) k (bodyOf Go.Proofs.Try.f212) (initS 0 [.slc 3 (.int .i64) p]) = f212 k p := by kernel_rfl
theorem m212 : Meets Go.Proofs.Try.prog 212 s212 := meets_of_run tiOk env2_ok mo Go.Proofs.Try.func212 (body := bodyOf Go.Proofs.Try.f212) (by kernel_rfl) (N := 23) (by kernel_rfl) (hs := []) (by
  intro k xs r h
  unfold s212 at h
  dsimp only at h
  split at h
  · exact ⟨Nat.le_of_ble_eq_true rfl, (v212 k _).trans h⟩
  · cases h)
theorem env3_ok : EnvOk Go.Proofs.Try.prog (envOf env3) := envOf_cons m212 Go.Proofs.Try.func212 (by kernel_rfl) (by kernel_rfl) env2_ok

-- spec.deGood
noncomputable def f147 (k : Nat) (p : List (Int)) : Option (Bool) :=
  (f212 k p).bind fun r0 =>
  bif r0 then
    (f121 k (↑(List.length p) : Int) 1 6).bind fun r1 =>
    bif r1 then
      (f213 k p (-1000) 1000).bind fun r2 =>
      some r2
    else
      some false
  else
    some false
noncomputable def s147 : Spec := ⟨false, [(.bool, false)], true, .bool, fun k xs => match xs with | [.slc 3 (.int .i64) p] => f147 k p | _ => none⟩
noncomputable def env4 : List (FuncId × Spec) := (147, s147) :: env3
theorem v147 (k : Nat) (p : List (Int)) : runFn ti (envOf env3) 14 [] (finT ti true Go.Proofs.Try.f147.results.toList [(.bool, false)] (.bool)) k (bodyOf Go.Proofs.Try.f147) (initS 0 [.slc 3 (.int .i64) p]) = f147 k p := by kernel_rfl
theorem m147 : Meets Go.Proofs.Try.prog 147 s147 := meets_of_run tiOk env3_ok mo Go.Proofs.Try.func147 (body := bodyOf Go.Proofs.Try.f147) (by kernel_rfl) (N := 14) (by kernel_rfl) (hs := []) (by
  intro k xs r h
  unfold s147 at h
  dsimp only at h
  split at h
  · exact ⟨Nat.le_of_ble_eq_true rfl, (v147 k _).trans h⟩
  · cases h)
theorem env4_ok : EnvOk Go.Proofs.Try.prog (envOf env4) := envOf_cons m147 Go.Proofs.Try.func147 (by kernel_rfl) (by kernel_rfl) env3_ok

-- spec.faAsked
noncomputable def f89 (k : Nat) (p : List (Int)) (q : List (Int)) (fine : Int) : Option (Bool) :=
  (f147 k p).bind fun r0 =>
  bif r0 then
    (f147 k q).bind fun r1 =>
    bif r1 then
      (f121 k fine 0 4).bind fun r2 =>
      some r2
    else
      some false
  else
    some false
noncomputable def s89 : Spec := ⟨false, [(.bool, false)], true, .bool, fun k xs => match xs with | [.slc 3 (.int .i64) p, .slc 3 (.int .i64) q, .int .i64 fine] => f89 k p q fine | _ => none⟩
noncomputable def env5 : List (FuncId × Spec) := (89, s89) :: env4
theorem v89 (k : Nat) (p : List (Int)) (q : List (Int)) (fine : Int) : runFn ti (envOf env4) 17 [] (finT ti true Go.Proofs.Try.f89.results.toList [(.bool, false)] (.bool)) k (bodyOf Go.Proofs.Try.f89) (initS 0 [.slc 3 (.int .i64) p, .slc 3 (.int .i64) q, .int .i64 fine]) = f89 k p q fine := by kernel_rfl
theorem m89 : Meets Go.Proofs.Try.prog 89 s89 := meets_of_run tiOk env4_ok mo Go.Proofs.Try.func89 (body := bodyOf Go.Proofs.Try.f89) (by kernel_rfl) (N := 17) (by kernel_rfl) (hs := []) (by
  intro k xs r h
  unfold s89 at h
  dsimp only at h
  split at h
  · exact ⟨Nat.le_of_ble_eq_true rfl, (v89 k _ _ _).trans h⟩
  · cases h)
theorem env5_ok : EnvOk Go.Proofs.Try.prog (envOf env5) := envOf_cons m89 Go.Proofs.Try.func89 (by kernel_rfl) (by kernel_rfl) env4_ok

-- spec.dyPower
noncomputable def f90 (k : Nat) (k_ : Int) : Option (Int) :=
  bif !decide (IntKind.wrap IntKind.u64 k_ < 0) then
    some (IntKind.wrap IntKind.i64 (1 * 2 ^ min (Int.toNat (IntKind.wrap IntKind.u64 k_)) (IntKind.bits IntKind.i64)))
  else
    none
noncomputable def s90 : Spec := ⟨false, [(.int .i64, false)], true, .int .i64, fun k xs => match xs with | [.int .i64 k_] => f90 k k_ | _ => none⟩
noncomputable def env6 : List (FuncId × Spec) := (90, s90) :: env5
theorem v90 (k : Nat) (k_ : Int) : runFn ti (envOf env5) 6 [] (finT ti true Go.Proofs.Try.f90.results.toList [(.int .i64, false)] (.int .i64)) k (bodyOf Go.Proofs.Try.f90) (initS 0 [.int .i64 k_]) = f90 k k_ := by kernel_rfl
theorem m90 : Meets Go.Proofs.Try.prog 90 s90 := meets_of_run tiOk env5_ok mo Go.Proofs.Try.func90 (body := bodyOf Go.Proofs.Try.f90) (by kernel_rfl) (N := 6) (by kernel_rfl) (hs := []) (by
  intro k xs r h
  unfold s90 at h
  dsimp only at h
  split at h
  · exact ⟨Nat.le_of_ble_eq_true rfl, (v90 k _).trans h⟩
  · cases h)
theorem env6_ok : EnvOk Go.Proofs.Try.prog (envOf env6) := envOf_cons m90 Go.Proofs.Try.func90 (by kernel_rfl) (by kernel_rfl) env5_ok

-- spec.faMoment
noncomputable def f67 (k : Nat) (p : List (Int)) (q : List (Int)) (i : Int) (fine : Int) : Option (Bool) :=
  (f89 k p q fine).bind fun r0 =>
  bif r0 then
    (f90 k fine).bind fun r1 =>
    (f121 k i 0 r1).bind fun r2 =>
    some r2
  else
    some false
noncomputable def s67 : Spec := ⟨false, [(.bool, false)], true, .bool, fun k xs => match xs with | [.slc 3 (.int .i64) p, .slc 3 (.int .i64) q, .int .i64 i, .int .i64 fine] => f67 k p q i fine | _ => none⟩
noncomputable def env7 : List (FuncId × Spec) := (67, s67) :: env6
theorem v67 (k : Nat) (p : List (Int)) (q : List (Int)) (i : Int) (fine : Int) : runFn ti (envOf env6) 19 [] (finT ti true Go.Proofs.Try.f67.results.toList [(.bool, false)] (.bool)) k (bodyOf Go.Proofs.Try.f67) (initS 0 [.slc 3 (.int .i64) p, .slc 3 (.int .i64) q, .int .i64 i, .int .i64 fine]) = f67 k p q i fine := by kernel_rfl
theorem m67 : Meets Go.Proofs.Try.prog 67 s67 := meets_of_run tiOk env6_ok mo Go.Proofs.Try.func67 (body := bodyOf Go.Proofs.Try.f67) (by kernel_rfl) (N := 19) (by kernel_rfl) (hs := []) (by
  intro k xs r h
  unfold s67 at h
  dsimp only at h
  split at h
  · exact ⟨Nat.le_of_ble_eq_true rfl, (v67 k _ _ _ _).trans h⟩
  · cases h)
theorem env7_ok : EnvOk Go.Proofs.Try.prog (envOf env7) := envOf_cons m67 Go.Proofs.Try.func67 (by kernel_rfl) (by kernel_rfl) env6_ok

-- spec.dyAt
def h171 : Hints := [(1004, .lab [(1, .one (.v)), (2, .box 27 [.v, .v]), (6, .one (.v))])]
noncomputable def F171_1004 (k : Nat) (rec1004 : Int → Int → Int → Int → Option (Int × Bool)) (k_ : Int) (as_0 : Int) (as_1 : Int) (i : Int) : Option (Int × Bool) :=
  bif decide (i < k_) then
    (f121 k as_0 (IntKind.wrap IntKind.i64 (0 - IntKind.wrap IntKind.i64 (1 * 2 ^ min (Int.toNat (IntKind.wrap IntKind.u64 60)) (IntKind.bits IntKind.i64)))) (IntKind.wrap IntKind.i64 (1 * 2 ^ min (Int.toNat (IntKind.wrap IntKind.u64 60)) (IntKind.bits IntKind.i64)))).bind fun r0 =>
    bif !r0 then
      some ((0, false))
    else
      rec1004 k_ (IntKind.wrap IntKind.i64 (as_0 * 2)) as_1 (IntKind.wrap IntKind.i64 (i + 1))
  else
    some ((as_0, true))
noncomputable def F171 (k : Nat) (rec1004 : Int → Int → Int → Int → Option (Int × Bool)) (a_N : Int) (a_K : Int) (k_ : Int) : Option (Int × Bool) :=
  bif decide (a_N = 0) then
    some ((0, true))
  else
    rec1004 k_ a_N a_K a_K
noncomputable def l171 : Nat → (Int → Int → Int → Int → Option (Int × Bool))
  | 0 => fun _ _ _ _ => none
  | k + 1 => F171_1004 k (l171 k)
noncomputable def f171 (k : Nat) (a_N : Int) (a_K : Int) (k_ : Int) : Option (Int × Bool) := F171 k (l171 k) a_N a_K k_
noncomputable def s171 : Spec := ⟨false, [(.int .i64, false), (.bool, false)], true, .pair (.int .i64) (.bool), fun k xs => match xs with | [.agg [.int .i64 a_N, .int .i64 a_K], .int .i64 k_] => f171 k a_N a_K k_ | _ => none⟩
noncomputable def env8 : List (FuncId × Spec) := (171, s171) :: env7
noncomputable abbrev x171 := exec ti (envOf env7) 30 h171 (finT ti true Go.Proofs.Try.f171.results.toList [(.int .i64, false), (.bool, false)] (.pair (.int .i64) (.bool)))
noncomputable def k171_1004 : List It := stackAt [.r, .r, .l, .r, .b, .lb none] (bodyOf Go.Proofs.Try.f171) []
def t171_1004 (k_ : Int) (as_0 : Int) (as_1 : Int) (i : Int) : St := [(2, Cell.val (AVal.int IntKind.i64 k_)), (4, Cell.val (AVal.ptr 3 0)), (3, Cell.mem true 27 [AVal.int IntKind.i64 as_0, AVal.int IntKind.i64 as_1]), (12, Cell.val (AVal.int IntKind.i64 i))]
theorem e171_1004 (k : Nat) (k_ : Int) (as_0 : Int) (as_1 : Int) (i : Int) : x171 (k + 1) k171_1004 (t171_1004 k_ as_0 as_1 i) = F171_1004 k (fun (k_ : Int) (as_0 : Int) (as_1 : Int) (i : Int) => x171 k k171_1004 (t171_1004 k_ as_0 as_1 i)) k_ as_0 as_1 i := by kernel_rfl
theorem q171 : ∀ k : Nat, (fun (k_ : Int) (as_0 : Int) (as_1 : Int) (i : Int) => x171 k k171_1004 (t171_1004 k_ as_0 as_1 i)) = l171 k
  | 0 => rfl
  | k + 1 => by
    have h := q171 k
    show _ = F171_1004 k (l171 k)
    rw [← h]
    exact (funext fun k_ => funext fun as_0 => funext fun as_1 => funext fun i => e171_1004 k k_ as_0 as_1 i)
theorem w171 (k : Nat) (a_N : Int) (a_K : Int) (k_ : Int) : runFn ti (envOf env7) 30 h171 (finT ti true Go.Proofs.Try.f171.results.toList [(.int .i64, false), (.bool, false)] (.pair (.int .i64) (.bool))) k (bodyOf Go.Proofs.Try.f171) (initS 0 [.agg [.int .i64 a_N, .int .i64 a_K], .int .i64 k_]) = F171 k (fun (k_ : Int) (as_0 : Int) (as_1 : Int) (i : Int) => x171 k k171_1004 (t171_1004 k_ as_0 as_1 i)) a_N a_K k_ := by kernel_rfl
theorem v171 (k : Nat) (a_N : Int) (a_K : Int) (k_ : Int) : runFn ti (envOf env7) 30 h171 (finT ti true Go.Proofs.Try.f171.results.toList [(.int .i64, false), (.bool, false)] (.pair (.int .i64) (.bool))) k (bodyOf Go.Proofs.Try.f171) (initS 0 [.agg [.int .i64 a_N, .int .i64 a_K], .int .i64 k_]) = f171 k a_N a_K k_ := by
  rw [w171]
  have h := q171 k
  unfold f171
  rw [← h]
theorem m171 : Meets Go.Proofs.Try.prog 171 s171 := meets_of_run tiOk env7_ok mo Go.Proofs.Try.func171 (body := bodyOf Go.Proofs.Try.f171) (by kernel_rfl) (N := 30) (by kernel_rfl) (hs := h171) (by
  intro k xs r h
  unfold s171 at h
  dsimp only at h
  split at h
  · exact ⟨Nat.le_of_ble_eq_true rfl, (v171 k _ _ _).trans h⟩
  · cases h)
theorem env8_ok : EnvOk Go.Proofs.Try.prog (envOf env8) := envOf_cons m171 Go.Proofs.Try.func171 (by kernel_rfl) (by kernel_rfl) env7_ok

-- spec.dyDown
noncomputable def f237 (k : Nat) (a : Int) (b : Int) : Option (Int) :=
  bif !decide (b = 0) then
    bif !decide (b = 0) then
      bif decide (Int.tmod a b < 0) then
        some (IntKind.wrap IntKind.i64 (IntKind.wrap IntKind.i64 (Int.tdiv a b) - 1))
      else
        some (IntKind.wrap IntKind.i64 (Int.tdiv a b))
    else
      none
  else
    none
noncomputable def s237 : Spec := ⟨false, [(.int .i64, false)], true, .int .i64, fun k xs => match xs with | [.int .i64 a, .int .i64 b] => f237 k a b | _ => none⟩
noncomputable def env9 : List (FuncId × Spec) := (237, s237) :: env8
theorem v237 (k : Nat) (a : Int) (b : Int) : runFn ti (envOf env8) 16 [] (finT ti true Go.Proofs.Try.f237.results.toList [(.int .i64, false)] (.int .i64)) k (bodyOf Go.Proofs.Try.f237) (initS 0 [.int .i64 a, .int .i64 b]) = f237 k a b := by kernel_rfl
theorem m237 : Meets Go.Proofs.Try.prog 237 s237 := meets_of_run tiOk env8_ok mo Go.Proofs.Try.func237 (body := bodyOf Go.Proofs.Try.f237) (by kernel_rfl) (N := 16) (by kernel_rfl) (hs := []) (by
  intro k xs r h
  unfold s237 at h
  dsimp only at h
  split at h
  · exact ⟨Nat.le_of_ble_eq_true rfl, (v237 k _ _).trans h⟩
  · cases h)
theorem env9_ok : EnvOk Go.Proofs.Try.prog (envOf env9) := envOf_cons m237 Go.Proofs.Try.func237 (by kernel_rfl) (by kernel_rfl) env8_ok

-- spec.dyFloor
noncomputable def f184 (k : Nat) (a_N : Int) (a_K : Int) : Option (Int) :=
  (f90 k a_K).bind fun r0 =>
  (f237 k a_N r0).bind fun r1 =>
  some r1
noncomputable def s184 : Spec := ⟨false, [(.int .i64, false)], true, .int .i64, fun k xs => match xs with | [.agg [.int .i64 a_N, .int .i64 a_K]] => f184 k a_N a_K | _ => none⟩
noncomputable def env10 : List (FuncId × Spec) := (184, s184) :: env9
theorem v184 (k : Nat) (a_N : Int) (a_K : Int) : runFn ti (envOf env9) 9 [] (finT ti true Go.Proofs.Try.f184.results.toList [(.int .i64, false)] (.int .i64)) k (bodyOf Go.Proofs.Try.f184) (initS 0 [.agg [.int .i64 a_N, .int .i64 a_K]]) = f184 k a_N a_K := by kernel_rfl
theorem m184 : Meets Go.Proofs.Try.prog 184 s184 := meets_of_run tiOk env9_ok mo Go.Proofs.Try.func184 (body := bodyOf Go.Proofs.Try.f184) (by kernel_rfl) (N := 9) (by kernel_rfl) (hs := []) (by
  intro k xs r h
  unfold s184 at h
  dsimp only at h
  split at h
  · exact ⟨Nat.le_of_ble_eq_true rfl, (v184 k _ _).trans h⟩
  · cases h)
theorem env10_ok : EnvOk Go.Proofs.Try.prog (envOf env10) := envOf_cons m184 Go.Proofs.Try.func184 (by kernel_rfl) (by kernel_rfl) env9_ok

-- spec.l1Sign
noncomputable def f185 (k : Nat) (n : Int) : Option (Int) :=
  bif decide (0 < n) then
    some (1)
  else
    bif decide (n < 0) then
      some (-1)
    else
      some (0)
noncomputable def s185 : Spec := ⟨false, [(.int .i64, false)], true, .int .i64, fun k xs => match xs with | [.int .i64 n] => f185 k n | _ => none⟩
noncomputable def env11 : List (FuncId × Spec) := (185, s185) :: env10
theorem v185 (k : Nat) (n : Int) : runFn ti (envOf env10) 9 [] (finT ti true Go.Proofs.Try.f185.results.toList [(.int .i64, false)] (.int .i64)) k (bodyOf Go.Proofs.Try.f185) (initS 0 [.int .i64 n]) = f185 k n := by kernel_rfl
theorem m185 : Meets Go.Proofs.Try.prog 185 s185 := meets_of_run tiOk env10_ok mo Go.Proofs.Try.func185 (body := bodyOf Go.Proofs.Try.f185) (by kernel_rfl) (N := 9) (by kernel_rfl) (hs := []) (by
  intro k xs r h
  unfold s185 at h
  dsimp only at h
  split at h
  · exact ⟨Nat.le_of_ble_eq_true rfl, (v185 k _).trans h⟩
  · cases h)
theorem env11_ok : EnvOk Go.Proofs.Try.prog (envOf env11) := envOf_cons m185 Go.Proofs.Try.func185 (by kernel_rfl) (by kernel_rfl) env10_ok

-- spec.dyCmp
noncomputable def f123 (k : Nat) (a_N : Int) (a_K : Int) (b_N : Int) (b_K : Int) : Option (Int) :=
  (f184 k a_N a_K).bind fun r0 =>
  (f184 k b_N b_K).bind fun r1 =>
  bif !decide (r0 = r1) then
    (f185 k (IntKind.wrap IntKind.i64 (r0 - r1))).bind fun r2 =>
    some r2
  else
    (f90 k a_K).bind fun r3 =>
    (f171 k (IntKind.wrap IntKind.i64 (a_N - IntKind.wrap IntKind.i64 (r0 * r3))) a_K 24).bind fun r4 =>
    (f90 k b_K).bind fun r5 =>
    (f171 k (IntKind.wrap IntKind.i64 (b_N - IntKind.wrap IntKind.i64 (r1 * r5))) b_K 24).bind fun r6 =>
    (f185 k (IntKind.wrap IntKind.i64 (r4.fst - r6.fst))).bind fun r7 =>
    some r7
noncomputable def s123 : Spec := ⟨false, [(.int .i64, false)], true, .int .i64, fun k xs => match xs with | [.agg [.int .i64 a_N, .int .i64 a_K], .agg [.int .i64 b_N, .int .i64 b_K]] => f123 k a_N a_K b_N b_K | _ => none⟩
noncomputable def env12 : List (FuncId × Spec) := (123, s123) :: env11
theorem v123 (k : Nat) (a_N : Int) (a_K : Int) (b_N : Int) (b_K : Int) : runFn ti (envOf env11) 56 [] (finT ti true Go.Proofs.Try.f123.results.toList [(.int .i64, false)] (.int .i64)) k (bodyOf Go.Proofs.Try.f123) (initS 0 [.agg [.int .i64 a_N, .int .i64 a_K], .agg [.int .i64 b_N, .int .i64 b_K]]) = f123 k a_N a_K b_N b_K := by kernel_rfl
theorem m123 : Meets Go.Proofs.Try.prog 123 s123 := meets_of_run tiOk env11_ok mo Go.Proofs.Try.func123 (body := bodyOf Go.Proofs.Try.f123) (by kernel_rfl) (N := 56) (by kernel_rfl) (hs := []) (by
  intro k xs r h
  unfold s123 at h
  dsimp only at h
  split at h
  · exact ⟨Nat.le_of_ble_eq_true rfl, (v123 k _ _ _ _).trans h⟩
  · cases h)
theorem env12_ok : EnvOk Go.Proofs.Try.prog (envOf env12) := envOf_cons m123 Go.Proofs.Try.func123 (by kernel_rfl) (by kernel_rfl) env11_ok

end Go.Proofs.YtbaeikcfchiiaaaE
