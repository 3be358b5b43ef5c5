/- Functions, by the engine; printed. -/
import Derived.Test.YtbaeikcfchiiaaaCT0
set_option maxRecDepth 100000
set_option maxHeartbeats 4000000
set_option linter.unusedVariables false
namespace Go.Proofs.YtbaeikcfchiiaaaE
-- laws.roomBehind
def f71 (k : Nat) (n : Int) : Option (Int) :=
  bif decide (Int.tmod n 6 = 5) then
    some (0)
  else
    bif decide (Int.tmod n 3 = 0) then
      some (1)
    else
      some n
def s71 : Spec := ⟨false, [(.int .i64, false)], true, .int .i64, fun k xs => match xs with | [.int .i64 n] => f71 k n | _ => none⟩
def env1 : List (FuncId × Spec) := (71, s71) :: env0
theorem v71 (k : Nat) (n : Int) : runFn ti (envOf env0) 10 [] (finT ti true Go.Proofs.Try.f71.results.toList [(.int .i64, false)] (.int .i64)) k (bodyOf Go.Proofs.Try.f71) (initS 0 [.int .i64 n]) = f71 k n := by kernel_rfl
theorem m71 : Meets Go.Proofs.Try.prog 71 s71 := meets_of_run tiOk env0_ok mo Go.Proofs.Try.func71 (body := bodyOf Go.Proofs.Try.f71) (by kernel_rfl) (N := 10) (by kernel_rfl) (hs := []) (by
  intro k xs r h
  unfold s71 at h
  dsimp only at h
  split at h
  · exact ⟨Nat.le_of_ble_eq_true rfl, (v71 k _).trans h⟩
  · cases h)
theorem env1_ok : EnvOk Go.Proofs.Try.prog (envOf env1) := envOf_cons m71 Go.Proofs.Try.func71 (by kernel_rfl) (by kernel_rfl) env0_ok

-- laws.toIntS
def h15 : Hints := [(1005, .lab [(0, .one (.frz 3 (Ty.int IntKind.i64))), (5, .one (.own 3 (Ty.int IntKind.i64))), (6, .one (.v))]), (1009, .lab [(0, .one (.frz 3 (Ty.int IntKind.i64))), (5, .one (.own 3 (Ty.int IntKind.i64))), (7, .one (.v))])]
def F15_1005 (k : Nat) (rec1005 : List Int → List Int → Int → Option (List (Int) × Nat)) (rec1009 : List Int → List Int → Int → Option (List (Int) × Nat)) (a : List Int) (outs : List Int) (i : Int) : Option (List (Int) × Nat) :=
  bif decide (i < (↑(List.length a) : Int)) then
    bif boundA i (List.length a) then
      bif boundA i (List.length outs) then
        bif Nat.blt (Int.toNat i) (List.length outs) then
          rec1005 a (List.set outs (Int.toNat i) (List.getD a (Int.toNat i) 0)) (IntKind.wrap IntKind.i64 (i + 1))
        else
          none
      else
        none
    else
      none
  else
    rec1009 a outs ((↑(List.length a) : Int))
def F15_1009 (k : Nat) (rec1005 : List Int → List Int → Int → Option (List (Int) × Nat)) (rec1009 : List Int → List Int → Int → Option (List (Int) × Nat)) (a : List Int) (outs : List Int) (i : Int) : Option (List (Int) × Nat) :=
  bif decide (i < (↑(List.length outs) : Int)) then
    bif boundA i (List.length outs) then
      bif Nat.blt (Int.toNat i) (List.length outs) then
        rec1009 a (List.set outs (Int.toNat i) (-7000000000000000101)) (IntKind.wrap IntKind.i64 (i + 1))
      else
        none
    else
      none
  else
    bif boundE (↑(List.length a) : Int) (List.length outs) then
      some ((outs, Option.getD (some (Int.toNat (↑(List.length a) : Int))) (List.length outs)))
    else
      none
def F15 (k : Nat) (rec1005 : List Int → List Int → Int → Option (List (Int) × Nat)) (rec1009 : List Int → List Int → Int → Option (List (Int) × Nat)) (a : List (Int)) (bare : Bool) : Option (List (Int) × Nat) :=
  bif bare then
    bif decide ((↑(List.length a) : Int) = 0) then
      some (([], 0))
    else
      (f71 k (↑(List.length a) : Int)).bind fun r0 =>
      bif decide (0 ≤ IntKind.wrap IntKind.i64 ((↑(List.length a) : Int) + r0)) then
        bif decide (IntKind.wrap IntKind.i64 ((↑(List.length a) : Int) + r0) ≤ IntKind.wrap IntKind.i64 ((↑(List.length a) : Int) + r0)) then
          bif decide (IntKind.wrap IntKind.i64 ((↑(List.length a) : Int) + r0) * (↑8 : Int) ≤ 140737488355328) then
            rec1005 a (List.replicate (Int.toNat (IntKind.wrap IntKind.i64 ((↑(List.length a) : Int) + r0))) (dflt (Ty.int IntKind.i64))) (0)
          else
            none
        else
          none
      else
        none
  else
    (f71 k (↑(List.length a) : Int)).bind fun r1 =>
    bif decide (0 ≤ IntKind.wrap IntKind.i64 ((↑(List.length a) : Int) + r1)) then
      bif decide (IntKind.wrap IntKind.i64 ((↑(List.length a) : Int) + r1) ≤ IntKind.wrap IntKind.i64 ((↑(List.length a) : Int) + r1)) then
        bif decide (IntKind.wrap IntKind.i64 ((↑(List.length a) : Int) + r1) * (↑8 : Int) ≤ 140737488355328) then
          rec1005 a (List.replicate (Int.toNat (IntKind.wrap IntKind.i64 ((↑(List.length a) : Int) + r1))) (dflt (Ty.int IntKind.i64))) (0)
        else
          none
      else
        none
    else
      none
def l15 : Nat → (List Int → List Int → Int → Option (List (Int) × Nat)) × (List Int → List Int → Int → Option (List (Int) × Nat))
  | 0 => (fun _ _ _ => none, fun _ _ _ => none)
  | k + 1 => (F15_1005 k ((l15 k).1) ((l15 k).2), F15_1009 k ((l15 k).1) ((l15 k).2))
def f15 (k : Nat) (a : List (Int)) (bare : Bool) : Option (List (Int) × Nat) := F15 k ((l15 k).1) ((l15 k).2) a bare
def s15 : Spec := ⟨false, [(.vslice 3 (.int .i64), false)], true, .vslice 3 (.int .i64), fun k xs => match xs with | [.slc 3 (.int .i64) a, .bool bare] => f15 k a bare | _ => none⟩
def env2 : List (FuncId × Spec) := (15, s15) :: env1
noncomputable abbrev x15 := exec tiV (envOf env1) 49 h15 (finT tiV true Go.Proofs.Try.f15.results.toList [(.vslice 3 (.int .i64), false)] (.vslice 3 (.int .i64)))
noncomputable def k15_1005 : List It := stackAt [.r, .r, .r, .l, .r, .b, .lb none] (bodyOf Go.Proofs.Try.f15) []
def t15_1005 (a : List Int) (outs : List Int) (i : Int) : St := [(0, Cell.val (AVal.slc 3 (Ty.int IntKind.i64) a)), (10, Cell.val (AVal.ref 3 none)), (3, Cell.row true 3 (Ty.int IntKind.i64) outs), (12, Cell.val (AVal.int IntKind.i64 i))]
noncomputable def k15_1009 : List It := stackAt [.r, .r, .r, .r, .l, .r, .b, .lb none] (bodyOf Go.Proofs.Try.f15) []
def t15_1009 (a : List Int) (outs : List Int) (i : Int) : St := [(0, Cell.val (AVal.slc 3 (Ty.int IntKind.i64) a)), (10, Cell.val (AVal.ref 3 none)), (3, Cell.row true 3 (Ty.int IntKind.i64) outs), (14, Cell.val (AVal.int IntKind.i64 i))]
theorem e15_1005 (k : Nat) (a : List Int) (outs : List Int) (i : Int) : x15 (k + 1) k15_1005 (t15_1005 a outs i) = F15_1005 k (fun (a : List Int) (outs : List Int) (i : Int) => x15 k k15_1005 (t15_1005 a outs i)) (fun (a : List Int) (outs : List Int) (i : Int) => x15 k k15_1009 (t15_1009 a outs i)) a outs i := by kernel_rfl
theorem e15_1009 (k : Nat) (a : List Int) (outs : List Int) (i : Int) : x15 (k + 1) k15_1009 (t15_1009 a outs i) = F15_1009 k (fun (a : List Int) (outs : List Int) (i : Int) => x15 k k15_1005 (t15_1005 a outs i)) (fun (a : List Int) (outs : List Int) (i : Int) => x15 k k15_1009 (t15_1009 a outs i)) a outs i := by kernel_rfl
theorem q15 : ∀ k : Nat, ((fun (a : List Int) (outs : List Int) (i : Int) => x15 k k15_1005 (t15_1005 a outs i)), (fun (a : List Int) (outs : List Int) (i : Int) => x15 k k15_1009 (t15_1009 a outs i))) = l15 k
  | 0 => rfl
  | k + 1 => by
    have h := q15 k
    show _ = (F15_1005 k ((l15 k).1) ((l15 k).2), F15_1009 k ((l15 k).1) ((l15 k).2))
    rw [← h]
    exact (Prod.ext (funext fun a => funext fun outs => funext fun i => e15_1005 k a outs i) (funext fun a => funext fun outs => funext fun i => e15_1009 k a outs i))
theorem w15 (k : Nat) (a : List (Int)) (bare : Bool) : runFn tiV (envOf env1) 49 h15 (finT tiV true Go.Proofs.Try.f15.results.toList [(.vslice 3 (.int .i64), false)] (.vslice 3 (.int .i64))) k (bodyOf Go.Proofs.Try.f15) (initS 0 [.slc 3 (.int .i64) a, .bool bare]) = F15 k (fun (a : List Int) (outs : List Int) (i : Int) => x15 k k15_1005 (t15_1005 a outs i)) (fun (a : List Int) (outs : List Int) (i : Int) => x15 k k15_1009 (t15_1009 a outs i)) a bare := by kernel_rfl
theorem v15 (k : Nat) (a : List (Int)) (bare : Bool) : runFn tiV (envOf env1) 49 h15 (finT tiV true Go.Proofs.Try.f15.results.toList [(.vslice 3 (.int .i64), false)] (.vslice 3 (.int .i64))) k (bodyOf Go.Proofs.Try.f15) (initS 0 [.slc 3 (.int .i64) a, .bool bare]) = f15 k a bare := by
  rw [w15]
  have h := q15 k
  unfold f15
  rw [← h]
theorem m15 : Meets Go.Proofs.Try.prog 15 s15 := meets_of_run tiVOk env1_ok mo Go.Proofs.Try.func15 (body := bodyOf Go.Proofs.Try.f15) (by kernel_rfl) (N := 49) (by kernel_rfl) (hs := h15) (by
  intro k xs r h
  unfold s15 at h
  dsimp only at h
  split at h
  · exact ⟨Nat.le_of_ble_eq_true rfl, (v15 k _ _).trans h⟩
  · cases h)
theorem env2_ok : EnvOk Go.Proofs.Try.prog (envOf env2) := envOf_cons m15 Go.Proofs.Try.func15 (by kernel_rfl) (by kernel_rfl) env1_ok

-- laws.eqIntS
def h31 : Hints := [(1004, .lab [(0, .one (.frz 3 (Ty.int IntKind.i64))), (1, .one (.frz 3 (Ty.int IntKind.i64))), (5, .one (.v))])]
def F31_1004 (k : Nat) (rec1004 : List Int → List Int → Int → Option (Bool)) (a : List Int) (b : List Int) (i : Int) : Option (Bool) :=
  bif decide (i < (↑(List.length a) : Int)) then
    bif boundA i (List.length a) then
      bif boundA i (List.length b) then
        bif !decide (List.getD a (Int.toNat i) 0 = List.getD b (Int.toNat i) 0) then
          some false
        else
          rec1004 a b (IntKind.wrap IntKind.i64 (i + 1))
      else
        none
    else
      none
  else
    some true
def F31 (k : Nat) (rec1004 : List Int → List Int → Int → Option (Bool)) (a : List (Int)) (b : List (Int)) : Option (Bool) :=
  bif !decide ((↑(List.length a) : Int) = (↑(List.length b) : Int)) then
    some false
  else
    rec1004 a b (0)
def l31 : Nat → (List Int → List Int → Int → Option (Bool))
  | 0 => fun _ _ _ => none
  | k + 1 => F31_1004 k (l31 k)
def f31 (k : Nat) (a : List (Int)) (b : List (Int)) : Option (Bool) := F31 k (l31 k) a b
def s31 : Spec := ⟨false, [(.bool, false)], true, .bool, fun k xs => match xs with | [.slc 3 (.int .i64) a, .slc 3 (.int .i64) b] => f31 k a b | _ => none⟩
def env3 : List (FuncId × Spec) := (31, s31) :: env2
noncomputable abbrev x31 := exec ti (envOf env2) 26 h31 (finT ti true Go.Proofs.Try.f31.results.toList [(.bool, false)] (.bool))
noncomputable def k31_1004 : List It := stackAt [.r, .r, .l, .r, .b, .lb none] (bodyOf Go.Proofs.Try.f31) []
def t31_1004 (a : List Int) (b : List Int) (i : Int) : St := [(0, Cell.val (AVal.slc 3 (Ty.int IntKind.i64) a)), (2, Cell.val (AVal.slc 3 (Ty.int IntKind.i64) b)), (10, Cell.val (AVal.int IntKind.i64 i))]
theorem e31_1004 (k : Nat) (a : List Int) (b : List Int) (i : Int) : x31 (k + 1) k31_1004 (t31_1004 a b i) = F31_1004 k (fun (a : List Int) (b : List Int) (i : Int) => x31 k k31_1004 (t31_1004 a b i)) a b i := by kernel_rfl
theorem q31 : ∀ k : Nat, (fun (a : List Int) (b : List Int) (i : Int) => x31 k k31_1004 (t31_1004 a b i)) = l31 k
  | 0 => rfl
  | k + 1 => by
    have h := q31 k
    show _ = F31_1004 k (l31 k)
    rw [← h]
    exact (funext fun a => funext fun b => funext fun i => e31_1004 k a b i)
theorem w31 (k : Nat) (a : List (Int)) (b : List (Int)) : runFn ti (envOf env2) 26 h31 (finT ti true Go.Proofs.Try.f31.results.toList [(.bool, false)] (.bool)) k (bodyOf Go.Proofs.Try.f31) (initS 0 [.slc 3 (.int .i64) a, .slc 3 (.int .i64) b]) = F31 k (fun (a : List Int) (b : List Int) (i : Int) => x31 k k31_1004 (t31_1004 a b i)) a b := by kernel_rfl
theorem v31 (k : Nat) (a : List (Int)) (b : List (Int)) : runFn ti (envOf env2) 26 h31 (finT ti true Go.Proofs.Try.f31.results.toList [(.bool, false)] (.bool)) k (bodyOf Go.Proofs.Try.f31) (initS 0 [.slc 3 (.int .i64) a, .slc 3 (.int .i64) b]) = f31 k a b := by
  rw [w31]
  have h := q31 k
  unfold f31
  rw [← h]
theorem m31 : Meets Go.Proofs.Try.prog 31 s31 := meets_of_run tiOk env2_ok mo Go.Proofs.Try.func31 (body := bodyOf Go.Proofs.Try.f31) (by kernel_rfl) (N := 26) (by kernel_rfl) (hs := h31) (by
  intro k xs r h
  unfold s31 at h
  dsimp only at h
  split at h
  · exact ⟨Nat.le_of_ble_eq_true rfl, (v31 k _ _).trans h⟩
  · cases h)
theorem env3_ok : EnvOk Go.Proofs.Try.prog (envOf env3) := envOf_cons m31 Go.Proofs.Try.func31 (by kernel_rfl) (by kernel_rfl) env2_ok

-- laws.intactIntS
def f19 (k : Nat) (x : List (Int)) (x_n : Nat) (y : List (Int)) (y_n : Nat) : Option (Bool) :=
  (f71 k (↑y_n : Int)).bind fun r0 =>
  bif decide ((↑x_n : Int) = (↑y_n : Int)) then
    bif boundE (IntKind.wrap IntKind.i64 ((↑y_n : Int) + r0)) (List.length x) then
      bif decide (0 ≤ 0) && decide (0 ≤ IntKind.wrap IntKind.i64 ((↑y_n : Int) + r0)) then
        bif boundE (IntKind.wrap IntKind.i64 ((↑y_n : Int) + r0)) (List.length y) then
          bif decide (0 ≤ 0) && decide (0 ≤ IntKind.wrap IntKind.i64 ((↑y_n : Int) + r0)) then
            (f31 k (List.drop (Int.toNat 0) (List.take (Int.toNat (IntKind.wrap IntKind.i64 ((↑y_n : Int) + r0))) x)) (List.drop (Int.toNat 0) (List.take (Int.toNat (IntKind.wrap IntKind.i64 ((↑y_n : Int) + r0))) y))).bind fun r1 =>
            some r1
          else
            none
        else
          none
      else
        none
    else
      none
  else
    some false
def s19 : Spec := ⟨true, [(.bool, false)], true, .bool, fun k xs => match xs with | [.vslc 3 (.int .i64) x x_n, .vslc 3 (.int .i64) y y_n] => f19 k x x_n y y_n | _ => none⟩
def env4 : List (FuncId × Spec) := (19, s19) :: env3
theorem v19 (k : Nat) (x : List (Int)) (x_n : Nat) (y : List (Int)) (y_n : Nat) : runFn tiV (envOf env3) 26 [] (finT tiV true Go.Proofs.Try.f19.results.toList [(.bool, false)] (.bool)) k (bodyOf Go.Proofs.Try.f19) (initS 0 [.vslc 3 (.int .i64) x x_n, .vslc 3 (.int .i64) y y_n]) = f19 k x x_n y y_n := by kernel_rfl
theorem m19 : Meets Go.Proofs.Try.prog 19 s19 := meets_of_run tiVOk env3_ok mo Go.Proofs.Try.func19 (body := bodyOf Go.Proofs.Try.f19) (by kernel_rfl) (N := 26) (by kernel_rfl) (hs := []) (by
  intro k xs r h
  unfold s19 at h
  dsimp only at h
  split at h
  · exact ⟨Nat.le_of_ble_eq_true rfl, (v19 k _ _ _ _).trans h⟩
  · cases h)
theorem env4_ok : EnvOk Go.Proofs.Try.prog (envOf env4) := envOf_cons m19 Go.Proofs.Try.func19 (by kernel_rfl) (by kernel_rfl) env3_ok

-- laws.szIntervalS
def f62 (k : Nat) (a : List ((Int × Int) × Int × Int)) (left : Int) : Option (Int) :=
  bif decide (IntKind.wrap IntKind.i64 (left - (↑(List.length a) : Int)) < 0) then
    some (-1)
  else
    some (IntKind.wrap IntKind.i64 (left - (↑(List.length a) : Int)))
def s62 : Spec := ⟨false, [(.int .i64, false)], true, .int .i64, fun k xs => match xs with | [.slc 26 (.pair (.pair (.int .i64) (.int .i64)) (.pair (.int .i64) (.int .i64))) a, .int .i64 left] => f62 k a left | _ => none⟩
def env5 : List (FuncId × Spec) := (62, s62) :: env4
theorem v62 (k : Nat) (a : List ((Int × Int) × Int × Int)) (left : Int) : runFn ti (envOf env4) 12 [] (finT ti true Go.Proofs.Try.f62.results.toList [(.int .i64, false)] (.int .i64)) k (bodyOf Go.Proofs.Try.f62) (initS 0 [.slc 26 (.pair (.pair (.int .i64) (.int .i64)) (.pair (.int .i64) (.int .i64))) a, .int .i64 left]) = f62 k a left := by kernel_rfl
theorem m62 : Meets Go.Proofs.Try.prog 62 s62 := meets_of_run tiOk env4_ok mo Go.Proofs.Try.func62 (body := bodyOf Go.Proofs.Try.f62) (by kernel_rfl) (N := 12) (by kernel_rfl) (hs := []) (by
  intro k xs r h
  unfold s62 at h
  dsimp only at h
  split at h
  · exact ⟨Nat.le_of_ble_eq_true rfl, (v62 k _ _).trans h⟩
  · cases h)
theorem env5_ok : EnvOk Go.Proofs.Try.prog (envOf env5) := envOf_cons m62 Go.Proofs.Try.func62 (by kernel_rfl) (by kernel_rfl) env4_ok

-- spec.l1In
def f121 (k : Nat) (n : Int) (lo : Int) (hi : Int) : Option (Bool) :=
  bif decide (lo ≤ n) then
    some (decide (n ≤ hi))
  else
    some false
def s121 : Spec := ⟨false, [(.bool, false)], true, .bool, fun k xs => match xs with | [.int .i64 n, .int .i64 lo, .int .i64 hi] => f121 k n lo hi | _ => none⟩
def env6 : List (FuncId × Spec) := (121, s121) :: env5
theorem v121 (k : Nat) (n : Int) (lo : Int) (hi : Int) : runFn ti (envOf env5) 15 [] (finT ti true Go.Proofs.Try.f121.results.toList [(.bool, false)] (.bool)) k (bodyOf Go.Proofs.Try.f121) (initS 0 [.int .i64 n, .int .i64 lo, .int .i64 hi]) = f121 k n lo hi := by kernel_rfl
theorem m121 : Meets Go.Proofs.Try.prog 121 s121 := meets_of_run tiOk env5_ok mo Go.Proofs.Try.func121 (body := bodyOf Go.Proofs.Try.f121) (by kernel_rfl) (N := 15) (by kernel_rfl) (hs := []) (by
  intro k xs r h
  unfold s121 at h
  dsimp only at h
  split at h
  · exact ⟨Nat.le_of_ble_eq_true rfl, (v121 k _ _ _).trans h⟩
  · cases h)
theorem env6_ok : EnvOk Go.Proofs.Try.prog (envOf env6) := envOf_cons m121 Go.Proofs.Try.func121 (by kernel_rfl) (by kernel_rfl) env5_ok

-- spec.l1All
def h213 : Hints := [(1002, .lab [(1, .one (.v)), (2, .one (.v)), (9, .one (.frz 3 (Ty.int IntKind.i64))), (10, .one (.v)), (11, .one (.v))])]
def F213_1002 (k : Nat) (rec1002 : Int → Int → List Int → Int → Int → Option (Bool)) (lo : Int) (hi : Int) (t9 : List Int) (t10 : Int) (t11 : Int) : Option (Bool) :=
  bif decide (t11 < t10) then
    bif boundA t11 (List.length t9) then
      (f121 k (List.getD t9 (Int.toNat t11) 0) lo hi).bind fun r0 =>
      bif !r0 then
        some false
      else
        rec1002 lo hi t9 t10 (IntKind.wrap IntKind.i64 (t11 + 1))
    else
      none
  else
    some true
def F213 (k : Nat) (rec1002 : Int → Int → List Int → Int → Int → Option (Bool)) (l : List (Int)) (lo : Int) (hi : Int) : Option (Bool) :=
  rec1002 lo hi l ((↑(List.length l) : Int)) (0)
def l213 : Nat → (Int → Int → List Int → Int → Int → Option (Bool))
  | 0 => fun _ _ _ _ _ => none
  | k + 1 => F213_1002 k (l213 k)
def f213 (k : Nat) (l : List (Int)) (lo : Int) (hi : Int) : Option (Bool) := F213 k (l213 k) l lo hi
def s213 : Spec := ⟨false, [(.bool, false)], true, .bool, fun k xs => match xs with | [.slc 3 (.int .i64) l, .int .i64 lo, .int .i64 hi] => f213 k l lo hi | _ => none⟩
def env7 : List (FuncId × Spec) := (213, s213) :: env6
noncomputable abbrev x213 := exec ti (envOf env6) 21 h213 (finT ti true Go.Proofs.Try.f213.results.toList [(.bool, false)] (.bool))
noncomputable def k213_1002 : List It := stackAt [.r, .l, .r, .b, .lb none] (bodyOf Go.Proofs.Try.f213) []
def t213_1002 (lo : Int) (hi : Int) (t9 : List Int) (t10 : Int) (t11 : Int) : St := [(2, Cell.val (AVal.int IntKind.i64 lo)), (4, Cell.val (AVal.int IntKind.i64 hi)), (18, Cell.val (AVal.slc 3 (Ty.int IntKind.i64) t9)), (20, Cell.val (AVal.int IntKind.i64 t10)), (22, Cell.val (AVal.int IntKind.i64 t11))]
theorem e213_1002 (k : Nat) (lo : Int) (hi : Int) (t9 : List Int) (t10 : Int) (t11 : Int) : x213 (k + 1) k213_1002 (t213_1002 lo hi t9 t10 t11) = F213_1002 k (fun (lo : Int) (hi : Int) (t9 : List Int) (t10 : Int) (t11 : Int) => x213 k k213_1002 (t213_1002 lo hi t9 t10 t11)) lo hi t9 t10 t11 := by kernel_rfl
theorem q213 : ∀ k : Nat, (fun (lo : Int) (hi : Int) (t9 : List Int) (t10 : Int) (t11 : Int) => x213 k k213_1002 (t213_1002 lo hi t9 t10 t11)) = l213 k
  | 0 => rfl
  | k + 1 => by
    have h := q213 k
    show _ = F213_1002 k (l213 k)
    rw [← h]
    exact (funext fun lo => funext fun hi => funext fun t9 => funext fun t10 => funext fun t11 => e213_1002 k lo hi t9 t10 t11)
theorem w213 (k : Nat) (l : List (Int)) (lo : Int) (hi : Int) : runFn ti (envOf env6) 21 h213 (finT ti true Go.Proofs.Try.f213.results.toList [(.bool, false)] (.bool)) k (bodyOf Go.Proofs.Try.f213) (initS 0 [.slc 3 (.int .i64) l, .int .i64 lo, .int .i64 hi]) = F213 k (fun (lo : Int) (hi : Int) (t9 : List Int) (t10 : Int) (t11 : Int) => x213 k k213_1002 (t213_1002 lo hi t9 t10 t11)) l lo hi := by kernel_rfl
theorem v213 (k : Nat) (l : List (Int)) (lo : Int) (hi : Int) : runFn ti (envOf env6) 21 h213 (finT ti true Go.Proofs.Try.f213.results.toList [(.bool, false)] (.bool)) k (bodyOf Go.Proofs.Try.f213) (initS 0 [.slc 3 (.int .i64) l, .int .i64 lo, .int .i64 hi]) = f213 k l lo hi := by
  rw [w213]
  have h := q213 k
  unfold f213
  rw [← h]
theorem m213 : Meets Go.Proofs.Try.prog 213 s213 := meets_of_run tiOk env6_ok mo Go.Proofs.Try.func213 (body := bodyOf Go.Proofs.Try.f213) (by kernel_rfl) (N := 21) (by kernel_rfl) (hs := h213) (by
  intro k xs r h
  unfold s213 at h
  dsimp only at h
  split at h
  · exact ⟨Nat.le_of_ble_eq_true rfl, (v213 k _ _ _).trans h⟩
  · cases h)
theorem env7_ok : EnvOk Go.Proofs.Try.prog (envOf env7) := envOf_cons m213 Go.Proofs.Try.func213 (by kernel_rfl) (by kernel_rfl) env6_ok

-- spec.sgGood
def f212 (k : Nat) (p : List (Int)) : Option (Bool) :=
  bif decide (9 < (↑(List.length p) : Int)) then
    some false
  else
    (f213 k p (-1000000) 1000000).bind fun r0 =>
    bif !r0 then
      some false
    else
      bif decide ((↑(List.length p) : Int) = 0) then
        some true
      else
        bif boundA (IntKind.wrap IntKind.i64 ((↑(List.length p) : Int) - 1)) (List.length p) then
          some (!decide (List.getD p (Int.toNat (IntKind.wrap IntKind.i64 ((↑(List.length p) : Int) - 1))) 0 = 0))
        else
          none
def s212 : Spec := ⟨false, [(.bool, false)], true, .bool, fun k xs => match xs with | [.slc 3 (.int .i64) p] => f212 k p | _ => none⟩
def env8 : List (FuncId × Spec) := (212, s212) :: env7
theorem v212 (k : Nat) (p : List (Int)) : runFn ti (envOf env7) 23 [] (finT ti true Go.Proofs.Try.f212.results.toList [(.bool, false)] (.bool)) k (bodyOf Go.Proofs.Try.f212) (initS 0 [.slc 3 (.int .i64) p]) = f212 k p := by kernel_rfl
theorem m212 : Meets Go.Proofs.Try.prog 212 s212 := meets_of_run tiOk env7_ok mo Go.Proofs.Try.func212 (body := bodyOf Go.Proofs.Try.f212) (by kernel_rfl) (N := 23) (by kernel_rfl) (hs := []) (by
  intro k xs r h
  unfold s212 at h
  dsimp only at h
  split at h
  · exact ⟨Nat.le_of_ble_eq_true rfl, (v212 k _).trans h⟩
  · cases h)
theorem env8_ok : EnvOk Go.Proofs.Try.prog (envOf env8) := envOf_cons m212 Go.Proofs.Try.func212 (by kernel_rfl) (by kernel_rfl) env7_ok

-- spec.deGood
def f147 (k : Nat) (p : List (Int)) : Option (Bool) :=
  (f212 k p).bind fun r0 =>
  bif r0 then
    (f121 k (↑(List.length p) : Int) 1 6).bind fun r1 =>
    bif r1 then
      (f213 k p (-1000) 1000).bind fun r2 =>
      some r2
    else
      some false
  else
    some false
def s147 : Spec := ⟨false, [(.bool, false)], true, .bool, fun k xs => match xs with | [.slc 3 (.int .i64) p] => f147 k p | _ => none⟩
def env9 : List (FuncId × Spec) := (147, s147) :: env8
theorem v147 (k : Nat) (p : List (Int)) : runFn ti (envOf env8) 14 [] (finT ti true Go.Proofs.Try.f147.results.toList [(.bool, false)] (.bool)) k (bodyOf Go.Proofs.Try.f147) (initS 0 [.slc 3 (.int .i64) p]) = f147 k p := by kernel_rfl
theorem m147 : Meets Go.Proofs.Try.prog 147 s147 := meets_of_run tiOk env8_ok mo Go.Proofs.Try.func147 (body := bodyOf Go.Proofs.Try.f147) (by kernel_rfl) (N := 14) (by kernel_rfl) (hs := []) (by
  intro k xs r h
  unfold s147 at h
  dsimp only at h
  split at h
  · exact ⟨Nat.le_of_ble_eq_true rfl, (v147 k _).trans h⟩
  · cases h)
theorem env9_ok : EnvOk Go.Proofs.Try.prog (envOf env9) := envOf_cons m147 Go.Proofs.Try.func147 (by kernel_rfl) (by kernel_rfl) env8_ok

-- spec.faAsked
def f89 (k : Nat) (p : List (Int)) (q : List (Int)) (fine : Int) : Option (Bool) :=
  (f147 k p).bind fun r0 =>
  bif r0 then
    (f147 k q).bind fun r1 =>
    bif r1 then
      (f121 k fine 0 4).bind fun r2 =>
      some r2
    else
      some false
  else
    some false
def s89 : Spec := ⟨false, [(.bool, false)], true, .bool, fun k xs => match xs with | [.slc 3 (.int .i64) p, .slc 3 (.int .i64) q, .int .i64 fine] => f89 k p q fine | _ => none⟩
def env10 : List (FuncId × Spec) := (89, s89) :: env9
theorem v89 (k : Nat) (p : List (Int)) (q : List (Int)) (fine : Int) : runFn ti (envOf env9) 17 [] (finT ti true Go.Proofs.Try.f89.results.toList [(.bool, false)] (.bool)) k (bodyOf Go.Proofs.Try.f89) (initS 0 [.slc 3 (.int .i64) p, .slc 3 (.int .i64) q, .int .i64 fine]) = f89 k p q fine := by kernel_rfl
theorem m89 : Meets Go.Proofs.Try.prog 89 s89 := meets_of_run tiOk env9_ok mo Go.Proofs.Try.func89 (body := bodyOf Go.Proofs.Try.f89) (by kernel_rfl) (N := 17) (by kernel_rfl) (hs := []) (by
  intro k xs r h
  unfold s89 at h
  dsimp only at h
  split at h
  · exact ⟨Nat.le_of_ble_eq_true rfl, (v89 k _ _ _).trans h⟩
  · cases h)
theorem env10_ok : EnvOk Go.Proofs.Try.prog (envOf env10) := envOf_cons m89 Go.Proofs.Try.func89 (by kernel_rfl) (by kernel_rfl) env9_ok

-- spec.dyPower
def f90 (k : Nat) (k_ : Int) : Option (Int) :=
  bif !decide (IntKind.wrap IntKind.u64 k_ < 0) then
    some (IntKind.wrap IntKind.i64 (1 * 2 ^ min (Int.toNat (IntKind.wrap IntKind.u64 k_)) (IntKind.bits IntKind.i64)))
  else
    none
def s90 : Spec := ⟨false, [(.int .i64, false)], true, .int .i64, fun k xs => match xs with | [.int .i64 k_] => f90 k k_ | _ => none⟩
def env11 : List (FuncId × Spec) := (90, s90) :: env10
theorem v90 (k : Nat) (k_ : Int) : runFn ti (envOf env10) 6 [] (finT ti true Go.Proofs.Try.f90.results.toList [(.int .i64, false)] (.int .i64)) k (bodyOf Go.Proofs.Try.f90) (initS 0 [.int .i64 k_]) = f90 k k_ := by kernel_rfl
theorem m90 : Meets Go.Proofs.Try.prog 90 s90 := meets_of_run tiOk env10_ok mo Go.Proofs.Try.func90 (body := bodyOf Go.Proofs.Try.f90) (by kernel_rfl) (N := 6) (by kernel_rfl) (hs := []) (by
  intro k xs r h
  unfold s90 at h
  dsimp only at h
  split at h
  · exact ⟨Nat.le_of_ble_eq_true rfl, (v90 k _).trans h⟩
  · cases h)
theorem env11_ok : EnvOk Go.Proofs.Try.prog (envOf env11) := envOf_cons m90 Go.Proofs.Try.func90 (by kernel_rfl) (by kernel_rfl) env10_ok

-- spec.dyAt
def h171 : Hints := [(1004, .lab [(1, .one (.v)), (2, .box 27 [.v, .v]), (6, .one (.v))])]
def F171_1004 (k : Nat) (rec1004 : Int → Int → Int → Int → Option (Int × Bool)) (k_ : Int) (as_0 : Int) (as_1 : Int) (i : Int) : Option (Int × Bool) :=
  bif decide (i < k_) then
    (f121 k as_0 (IntKind.wrap IntKind.i64 (0 - IntKind.wrap IntKind.i64 (1 * 2 ^ min (Int.toNat (IntKind.wrap IntKind.u64 60)) (IntKind.bits IntKind.i64)))) (IntKind.wrap IntKind.i64 (1 * 2 ^ min (Int.toNat (IntKind.wrap IntKind.u64 60)) (IntKind.bits IntKind.i64)))).bind fun r0 =>
    bif !r0 then
      some ((0, false))
    else
      rec1004 k_ (IntKind.wrap IntKind.i64 (as_0 * 2)) as_1 (IntKind.wrap IntKind.i64 (i + 1))
  else
    some ((as_0, true))
def F171 (k : Nat) (rec1004 : Int → Int → Int → Int → Option (Int × Bool)) (a_N : Int) (a_K : Int) (k_ : Int) : Option (Int × Bool) :=
  bif decide (a_N = 0) then
    some ((0, true))
  else
    rec1004 k_ a_N a_K a_K
def l171 : Nat → (Int → Int → Int → Int → Option (Int × Bool))
  | 0 => fun _ _ _ _ => none
  | k + 1 => F171_1004 k (l171 k)
def f171 (k : Nat) (a_N : Int) (a_K : Int) (k_ : Int) : Option (Int × Bool) := F171 k (l171 k) a_N a_K k_
def s171 : Spec := ⟨false, [(.int .i64, false), (.bool, false)], true, .pair (.int .i64) (.bool), fun k xs => match xs with | [.agg [.int .i64 a_N, .int .i64 a_K], .int .i64 k_] => f171 k a_N a_K k_ | _ => none⟩
def env12 : List (FuncId × Spec) := (171, s171) :: env11
noncomputable abbrev x171 := exec ti (envOf env11) 30 h171 (finT ti true Go.Proofs.Try.f171.results.toList [(.int .i64, false), (.bool, false)] (.pair (.int .i64) (.bool)))
noncomputable def k171_1004 : List It := stackAt [.r, .r, .l, .r, .b, .lb none] (bodyOf Go.Proofs.Try.f171) []
def t171_1004 (k_ : Int) (as_0 : Int) (as_1 : Int) (i : Int) : St := [(2, Cell.val (AVal.int IntKind.i64 k_)), (4, Cell.val (AVal.ptr 3 0)), (3, Cell.mem true 27 [AVal.int IntKind.i64 as_0, AVal.int IntKind.i64 as_1]), (12, Cell.val (AVal.int IntKind.i64 i))]
theorem e171_1004 (k : Nat) (k_ : Int) (as_0 : Int) (as_1 : Int) (i : Int) : x171 (k + 1) k171_1004 (t171_1004 k_ as_0 as_1 i) = F171_1004 k (fun (k_ : Int) (as_0 : Int) (as_1 : Int) (i : Int) => x171 k k171_1004 (t171_1004 k_ as_0 as_1 i)) k_ as_0 as_1 i := by kernel_rfl
theorem q171 : ∀ k : Nat, (fun (k_ : Int) (as_0 : Int) (as_1 : Int) (i : Int) => x171 k k171_1004 (t171_1004 k_ as_0 as_1 i)) = l171 k
  | 0 => rfl
  | k + 1 => by
    have h := q171 k
    show _ = F171_1004 k (l171 k)
    rw [← h]
    exact (funext fun k_ => funext fun as_0 => funext fun as_1 => funext fun i => e171_1004 k k_ as_0 as_1 i)
theorem w171 (k : Nat) (a_N : Int) (a_K : Int) (k_ : Int) : runFn ti (envOf env11) 30 h171 (finT ti true Go.Proofs.Try.f171.results.toList [(.int .i64, false), (.bool, false)] (.pair (.int .i64) (.bool))) k (bodyOf Go.Proofs.Try.f171) (initS 0 [.agg [.int .i64 a_N, .int .i64 a_K], .int .i64 k_]) = F171 k (fun (k_ : Int) (as_0 : Int) (as_1 : Int) (i : Int) => x171 k k171_1004 (t171_1004 k_ as_0 as_1 i)) a_N a_K k_ := by kernel_rfl
theorem v171 (k : Nat) (a_N : Int) (a_K : Int) (k_ : Int) : runFn ti (envOf env11) 30 h171 (finT ti true Go.Proofs.Try.f171.results.toList [(.int .i64, false), (.bool, false)] (.pair (.int .i64) (.bool))) k (bodyOf Go.Proofs.Try.f171) (initS 0 [.agg [.int .i64 a_N, .int .i64 a_K], .int .i64 k_]) = f171 k a_N a_K k_ := by
  rw [w171]
  have h := q171 k
  unfold f171
  rw [← h]
theorem m171 : Meets Go.Proofs.Try.prog 171 s171 := meets_of_run tiOk env11_ok mo Go.Proofs.Try.func171 (body := bodyOf Go.Proofs.Try.f171) (by kernel_rfl) (N := 30) (by kernel_rfl) (hs := h171) (by
  intro k xs r h
  unfold s171 at h
  dsimp only at h
  split at h
  · exact ⟨Nat.le_of_ble_eq_true rfl, (v171 k _ _ _).trans h⟩
  · cases h)
theorem env12_ok : EnvOk Go.Proofs.Try.prog (envOf env12) := envOf_cons m171 Go.Proofs.Try.func171 (by kernel_rfl) (by kernel_rfl) env11_ok

end Go.Proofs.YtbaeikcfchiiaaaE
