/- Functions, by the engine; printed. -/
import Derived.Test.YtnndolcjljhhcaaSL0
set_option maxRecDepth 100000
set_option maxHeartbeats 4000000
set_option linter.unusedVariables false
namespace Go.Proofs.YtnndolcjljhhcaaE
-- laws.roomBehind
def f65 (k : Nat) (n : Int) : Option (Int) :=
  bif decide (Int.tmod n 6 = 5) then
    some (0)
  else
    bif decide (Int.tmod n 3 = 0) then
      some (1)
    else
      some n
def s65 : Spec := ⟨false, [(.int .i64, false)], true, .int .i64, fun k xs => match xs with | [.int .i64 n] => f65 k n | _ => none⟩
def env1 : List (FuncId × Spec) := (65, s65) :: env0
theorem v65 (k : Nat) (n : Int) : runFn ti (envOf env0) 10 [] (finT ti true Go.Proofs.Try.f65.results.toList [(.int .i64, false)] (.int .i64)) k (bodyOf Go.Proofs.Try.f65) (initS 0 [.int .i64 n]) = f65 k n := by kernel_rfl
theorem m65 : Meets Go.Proofs.Try.prog 65 s65 := meets_of_run tiOk env0_ok mo Go.Proofs.Try.func65 (body := bodyOf Go.Proofs.Try.f65) (by kernel_rfl) (N := 10) (by kernel_rfl) (hs := []) (by
  intro k xs r h
  unfold s65 at h
  dsimp only at h
  split at h
  · exact ⟨Nat.le_of_ble_eq_true rfl, (v65 k _).trans h⟩
  · cases h)
theorem env1_ok : EnvOk Go.Proofs.Try.prog (envOf env1) := envOf_cons m65 Go.Proofs.Try.func65 (by kernel_rfl) (by kernel_rfl) env0_ok

-- laws.toIntS
def h15 : Hints := [(1005, .lab [(0, .one (.frz 3 (Ty.int IntKind.i64))), (5, .one (.own 3 (Ty.int IntKind.i64))), (6, .one (.v))]), (1009, .lab [(0, .one (.frz 3 (Ty.int IntKind.i64))), (5, .one (.own 3 (Ty.int IntKind.i64))), (7, .one (.v))])]
def F15_1005 (k : Nat) (rec1005 : List Int → List Int → Int → Option (List (Int) × Nat)) (rec1009 : List Int → List Int → Int → Option (List (Int) × Nat)) (a : List Int) (outs : List Int) (i : Int) : Option (List (Int) × Nat) :=
  bif decide (i < (↑(List.length a) : Int)) then
    bif boundA i (List.length a) then
      bif boundA i (List.length outs) then
        bif Nat.blt (Int.toNat i) (List.length outs) then
          rec1005 a (List.set outs (Int.toNat i) (List.getD a (Int.toNat i) 0)) (IntKind.wrap IntKind.i64 (i + 1))
        else
          none
      else
        none
    else
      none
  else
    rec1009 a outs ((↑(List.length a) : Int))
def F15_1009 (k : Nat) (rec1005 : List Int → List Int → Int → Option (List (Int) × Nat)) (rec1009 : List Int → List Int → Int → Option (List (Int) × Nat)) (a : List Int) (outs : List Int) (i : Int) : Option (List (Int) × Nat) :=
  bif decide (i < (↑(List.length outs) : Int)) then
    bif boundA i (List.length outs) then
      bif Nat.blt (Int.toNat i) (List.length outs) then
        rec1009 a (List.set outs (Int.toNat i) (-7000000000000000101)) (IntKind.wrap IntKind.i64 (i + 1))
      else
        none
    else
      none
  else
    bif boundE (↑(List.length a) : Int) (List.length outs) then
      some ((outs, Option.getD (some (Int.toNat (↑(List.length a) : Int))) (List.length outs)))
    else
      none
def F15 (k : Nat) (rec1005 : List Int → List Int → Int → Option (List (Int) × Nat)) (rec1009 : List Int → List Int → Int → Option (List (Int) × Nat)) (a : List (Int)) (bare : Bool) : Option (List (Int) × Nat) :=
  bif bare then
    bif decide ((↑(List.length a) : Int) = 0) then
      some (([], 0))
    else
      (f65 k (↑(List.length a) : Int)).bind fun r0 =>
      bif decide (0 ≤ IntKind.wrap IntKind.i64 ((↑(List.length a) : Int) + r0)) then
        bif decide (IntKind.wrap IntKind.i64 ((↑(List.length a) : Int) + r0) ≤ IntKind.wrap IntKind.i64 ((↑(List.length a) : Int) + r0)) then
          bif decide (IntKind.wrap IntKind.i64 ((↑(List.length a) : Int) + r0) * (↑8 : Int) ≤ 140737488355328) then
            rec1005 a (List.replicate (Int.toNat (IntKind.wrap IntKind.i64 ((↑(List.length a) : Int) + r0))) (dflt (Ty.int IntKind.i64))) (0)
          else
            none
        else
          none
      else
        none
  else
    (f65 k (↑(List.length a) : Int)).bind fun r1 =>
    bif decide (0 ≤ IntKind.wrap IntKind.i64 ((↑(List.length a) : Int) + r1)) then
      bif decide (IntKind.wrap IntKind.i64 ((↑(List.length a) : Int) + r1) ≤ IntKind.wrap IntKind.i64 ((↑(List.length a) : Int) + r1)) then
        bif decide (IntKind.wrap IntKind.i64 ((↑(List.length a) : Int) + r1) * (↑8 : Int) ≤ 140737488355328) then
          rec1005 a (List.replicate (Int.toNat (IntKind.wrap IntKind.i64 ((↑(List.length a) : Int) + r1))) (dflt (Ty.int IntKind.i64))) (0)
        else
          none
      else
        none
    else
      none
def l15 : Nat → (List Int → List Int → Int → Option (List (Int) × Nat)) × (List Int → List Int → Int → Option (List (Int) × Nat))
  | 0 => (fun _ _ _ => none, fun _ _ _ => none)
  | k + 1 => (F15_1005 k ((l15 k).1) ((l15 k).2), F15_1009 k ((l15 k).1) ((l15 k).2))
def f15 (k : Nat) (a : List (Int)) (bare : Bool) : Option (List (Int) × Nat) := F15 k ((l15 k).1) ((l15 k).2) a bare
def s15 : Spec := ⟨false, [(.vslice 3 (.int .i64), false)], true, .vslice 3 (.int .i64), fun k xs => match xs with | [.slc 3 (.int .i64) a, .bool bare] => f15 k a bare | _ => none⟩
def env2 : List (FuncId × Spec) := (15, s15) :: env1
noncomputable abbrev x15 := exec tiV (envOf env1) 49 h15 (finT tiV true Go.Proofs.Try.f15.results.toList [(.vslice 3 (.int .i64), false)] (.vslice 3 (.int .i64)))
noncomputable def k15_1005 : List It := stackAt [.r, .r, .r, .l, .r, .b, .lb none] (bodyOf Go.Proofs.Try.f15) []
def t15_1005 (a : List Int) (outs : List Int) (i : Int) : St := [(0, Cell.val (AVal.slc 3 (Ty.int IntKind.i64) a)), (10, Cell.val (AVal.ref 3 none)), (3, Cell.row true 3 (Ty.int IntKind.i64) outs), (12, Cell.val (AVal.int IntKind.i64 i))]
noncomputable def k15_1009 : List It := stackAt [.r, .r, .r, .r, .l, .r, .b, .lb none] (bodyOf Go.Proofs.Try.f15) []
def t15_1009 (a : List Int) (outs : List Int) (i : Int) : St := [(0, Cell.val (AVal.slc 3 (Ty.int IntKind.i64) a)), (10, Cell.val (AVal.ref 3 none)), (3, Cell.row true 3 (Ty.int IntKind.i64) outs), (14, Cell.val (AVal.int IntKind.i64 i))]
theorem e15_1005 (k : Nat) (a : List Int) (outs : List Int) (i : Int) : x15 (k + 1) k15_1005 (t15_1005 a outs i) = F15_1005 k (fun (a : List Int) (outs : List Int) (i : Int) => x15 k k15_1005 (t15_1005 a outs i)) (fun (a : List Int) (outs : List Int) (i : Int) => x15 k k15_1009 (t15_1009 a outs i)) a outs i := by kernel_rfl
theorem e15_1009 (k : Nat) (a : List Int) (outs : List Int) (i : Int) : x15 (k + 1) k15_1009 (t15_1009 a outs i) = F15_1009 k (fun (a : List Int) (outs : List Int) (i : Int) => x15 k k15_1005 (t15_1005 a outs i)) (fun (a : List Int) (outs : List Int) (i : Int) => x15 k k15_1009 (t15_1009 a outs i)) a outs i := by kernel_rfl
theorem q15 : ∀ k : Nat, ((fun (a : List Int) (outs : List Int) (i : Int) => x15 k k15_1005 (t15_1005 a outs i)), (fun (a : List Int) (outs : List Int) (i : Int) => x15 k k15_1009 (t15_1009 a outs i))) = l15 k
  | 0 => rfl
  | k + 1 => by
    have h := q15 k
    show _ = (F15_1005 k ((l15 k).1) ((l15 k).2), F15_1009 k ((l15 k).1) ((l15 k).2))
    rw [← h]
    exact (Prod.ext (funext fun a => funext fun outs => funext fun i => e15_1005 k a outs i) (funext fun a => funext fun outs => funext fun i => e15_1009 k a outs i))
theorem w15 (k : Nat) (a : List (Int)) (bare : Bool) : runFn tiV (envOf env1) 49 h15 (finT tiV true Go.Proofs.Try.f15.results.toList [(.vslice 3 (.int .i64), false)] (.vslice 3 (.int .i64))) k (bodyOf Go.Proofs.Try.f15) (initS 0 [.slc 3 (.int .i64) a, .bool bare]) = F15 k (fun (a : List Int) (outs : List Int) (i : Int) => x15 k k15_1005 (t15_1005 a outs i)) (fun (a : List Int) (outs : List Int) (i : Int) => x15 k k15_1009 (t15_1009 a outs i)) a bare := by kernel_rfl
theorem v15 (k : Nat) (a : List (Int)) (bare : Bool) : runFn tiV (envOf env1) 49 h15 (finT tiV true Go.Proofs.Try.f15.results.toList [(.vslice 3 (.int .i64), false)] (.vslice 3 (.int .i64))) k (bodyOf Go.Proofs.Try.f15) (initS 0 [.slc 3 (.int .i64) a, .bool bare]) = f15 k a bare := by
  rw [w15]
  have h := q15 k
  unfold f15
  rw [← h]
theorem m15 : Meets Go.Proofs.Try.prog 15 s15 := meets_of_run tiVOk env1_ok mo Go.Proofs.Try.func15 (body := bodyOf Go.Proofs.Try.f15) (by kernel_rfl) (N := 49) (by kernel_rfl) (hs := h15) (by
  intro k xs r h
  unfold s15 at h
  dsimp only at h
  split at h
  · exact ⟨Nat.le_of_ble_eq_true rfl, (v15 k _ _).trans h⟩
  · cases h)
theorem env2_ok : EnvOk Go.Proofs.Try.prog (envOf env2) := envOf_cons m15 Go.Proofs.Try.func15 (by kernel_rfl) (by kernel_rfl) env1_ok

-- laws.eqIntS
def h17 : Hints := [(1004, .lab [(0, .one (.frz 3 (Ty.int IntKind.i64))), (1, .one (.frz 3 (Ty.int IntKind.i64))), (5, .one (.v))])]
def F17_1004 (k : Nat) (rec1004 : List Int → List Int → Int → Option (Bool)) (a : List Int) (b : List Int) (i : Int) : Option (Bool) :=
  bif decide (i < (↑(List.length a) : Int)) then
    bif boundA i (List.length a) then
      bif boundA i (List.length b) then
        bif !decide (List.getD a (Int.toNat i) 0 = List.getD b (Int.toNat i) 0) then
          some false
        else
          rec1004 a b (IntKind.wrap IntKind.i64 (i + 1))
      else
        none
    else
      none
  else
    some true
def F17 (k : Nat) (rec1004 : List Int → List Int → Int → Option (Bool)) (a : List (Int)) (b : List (Int)) : Option (Bool) :=
  bif !decide ((↑(List.length a) : Int) = (↑(List.length b) : Int)) then
    some false
  else
    rec1004 a b (0)
def l17 : Nat → (List Int → List Int → Int → Option (Bool))
  | 0 => fun _ _ _ => none
  | k + 1 => F17_1004 k (l17 k)
def f17 (k : Nat) (a : List (Int)) (b : List (Int)) : Option (Bool) := F17 k (l17 k) a b
def s17 : Spec := ⟨false, [(.bool, false)], true, .bool, fun k xs => match xs with | [.slc 3 (.int .i64) a, .slc 3 (.int .i64) b] => f17 k a b | _ => none⟩
def env3 : List (FuncId × Spec) := (17, s17) :: env2
noncomputable abbrev x17 := exec ti (envOf env2) 26 h17 (finT ti true Go.Proofs.Try.f17.results.toList [(.bool, false)] (.bool))
noncomputable def k17_1004 : List It := stackAt [.r, .r, .l, .r, .b, .lb none] (bodyOf Go.Proofs.Try.f17) []
def t17_1004 (a : List Int) (b : List Int) (i : Int) : St := [(0, Cell.val (AVal.slc 3 (Ty.int IntKind.i64) a)), (2, Cell.val (AVal.slc 3 (Ty.int IntKind.i64) b)), (10, Cell.val (AVal.int IntKind.i64 i))]
theorem e17_1004 (k : Nat) (a : List Int) (b : List Int) (i : Int) : x17 (k + 1) k17_1004 (t17_1004 a b i) = F17_1004 k (fun (a : List Int) (b : List Int) (i : Int) => x17 k k17_1004 (t17_1004 a b i)) a b i := by kernel_rfl
theorem q17 : ∀ k : Nat, (fun (a : List Int) (b : List Int) (i : Int) => x17 k k17_1004 (t17_1004 a b i)) = l17 k
  | 0 => rfl
  | k + 1 => by
    have h := q17 k
    show _ = F17_1004 k (l17 k)
    rw [← h]
    exact (funext fun a => funext fun b => funext fun i => e17_1004 k a b i)
theorem w17 (k : Nat) (a : List (Int)) (b : List (Int)) : runFn ti (envOf env2) 26 h17 (finT ti true Go.Proofs.Try.f17.results.toList [(.bool, false)] (.bool)) k (bodyOf Go.Proofs.Try.f17) (initS 0 [.slc 3 (.int .i64) a, .slc 3 (.int .i64) b]) = F17 k (fun (a : List Int) (b : List Int) (i : Int) => x17 k k17_1004 (t17_1004 a b i)) a b := by kernel_rfl
theorem v17 (k : Nat) (a : List (Int)) (b : List (Int)) : runFn ti (envOf env2) 26 h17 (finT ti true Go.Proofs.Try.f17.results.toList [(.bool, false)] (.bool)) k (bodyOf Go.Proofs.Try.f17) (initS 0 [.slc 3 (.int .i64) a, .slc 3 (.int .i64) b]) = f17 k a b := by
  rw [w17]
  have h := q17 k
  unfold f17
  rw [← h]
theorem m17 : Meets Go.Proofs.Try.prog 17 s17 := meets_of_run tiOk env2_ok mo Go.Proofs.Try.func17 (body := bodyOf Go.Proofs.Try.f17) (by kernel_rfl) (N := 26) (by kernel_rfl) (hs := h17) (by
  intro k xs r h
  unfold s17 at h
  dsimp only at h
  split at h
  · exact ⟨Nat.le_of_ble_eq_true rfl, (v17 k _ _).trans h⟩
  · cases h)
theorem env3_ok : EnvOk Go.Proofs.Try.prog (envOf env3) := envOf_cons m17 Go.Proofs.Try.func17 (by kernel_rfl) (by kernel_rfl) env2_ok

-- laws.intactIntS
def f18 (k : Nat) (x : List (Int)) (x_n : Nat) (y : List (Int)) (y_n : Nat) : Option (Bool) :=
  (f65 k (↑y_n : Int)).bind fun r0 =>
  bif decide ((↑x_n : Int) = (↑y_n : Int)) then
    bif boundE (IntKind.wrap IntKind.i64 ((↑y_n : Int) + r0)) (List.length x) then
      bif decide (0 ≤ 0) && decide (0 ≤ IntKind.wrap IntKind.i64 ((↑y_n : Int) + r0)) then
        bif boundE (IntKind.wrap IntKind.i64 ((↑y_n : Int) + r0)) (List.length y) then
          bif decide (0 ≤ 0) && decide (0 ≤ IntKind.wrap IntKind.i64 ((↑y_n : Int) + r0)) then
            (f17 k (List.drop (Int.toNat 0) (List.take (Int.toNat (IntKind.wrap IntKind.i64 ((↑y_n : Int) + r0))) x)) (List.drop (Int.toNat 0) (List.take (Int.toNat (IntKind.wrap IntKind.i64 ((↑y_n : Int) + r0))) y))).bind fun r1 =>
            some r1
          else
            none
        else
          none
      else
        none
    else
      none
  else
    some false
def s18 : Spec := ⟨true, [(.bool, false)], true, .bool, fun k xs => match xs with | [.vslc 3 (.int .i64) x x_n, .vslc 3 (.int .i64) y y_n] => f18 k x x_n y y_n | _ => none⟩
def env4 : List (FuncId × Spec) := (18, s18) :: env3
theorem v18 (k : Nat) (x : List (Int)) (x_n : Nat) (y : List (Int)) (y_n : Nat) : runFn tiV (envOf env3) 26 [] (finT tiV true Go.Proofs.Try.f18.results.toList [(.bool, false)] (.bool)) k (bodyOf Go.Proofs.Try.f18) (initS 0 [.vslc 3 (.int .i64) x x_n, .vslc 3 (.int .i64) y y_n]) = f18 k x x_n y y_n := by kernel_rfl
theorem m18 : Meets Go.Proofs.Try.prog 18 s18 := meets_of_run tiVOk env3_ok mo Go.Proofs.Try.func18 (body := bodyOf Go.Proofs.Try.f18) (by kernel_rfl) (N := 26) (by kernel_rfl) (hs := []) (by
  intro k xs r h
  unfold s18 at h
  dsimp only at h
  split at h
  · exact ⟨Nat.le_of_ble_eq_true rfl, (v18 k _ _ _ _).trans h⟩
  · cases h)
theorem env4_ok : EnvOk Go.Proofs.Try.prog (envOf env4) := envOf_cons m18 Go.Proofs.Try.func18 (by kernel_rfl) (by kernel_rfl) env3_ok

-- spec.l1In
def f85 (k : Nat) (n : Int) (lo : Int) (hi : Int) : Option (Bool) :=
  bif decide (lo ≤ n) then
    some (decide (n ≤ hi))
  else
    some false
def s85 : Spec := ⟨false, [(.bool, false)], true, .bool, fun k xs => match xs with | [.int .i64 n, .int .i64 lo, .int .i64 hi] => f85 k n lo hi | _ => none⟩
def env5 : List (FuncId × Spec) := (85, s85) :: env4
theorem v85 (k : Nat) (n : Int) (lo : Int) (hi : Int) : runFn ti (envOf env4) 15 [] (finT ti true Go.Proofs.Try.f85.results.toList [(.bool, false)] (.bool)) k (bodyOf Go.Proofs.Try.f85) (initS 0 [.int .i64 n, .int .i64 lo, .int .i64 hi]) = f85 k n lo hi := by kernel_rfl
theorem m85 : Meets Go.Proofs.Try.prog 85 s85 := meets_of_run tiOk env4_ok mo Go.Proofs.Try.func85 (body := bodyOf Go.Proofs.Try.f85) (by kernel_rfl) (N := 15) (by kernel_rfl) (hs := []) (by
  intro k xs r h
  unfold s85 at h
  dsimp only at h
  split at h
  · exact ⟨Nat.le_of_ble_eq_true rfl, (v85 k _ _ _).trans h⟩
  · cases h)
theorem env5_ok : EnvOk Go.Proofs.Try.prog (envOf env5) := envOf_cons m85 Go.Proofs.Try.func85 (by kernel_rfl) (by kernel_rfl) env4_ok

-- spec.l1All
def h173 : Hints := [(1002, .lab [(1, .one (.v)), (2, .one (.v)), (9, .one (.frz 3 (Ty.int IntKind.i64))), (10, .one (.v)), (11, .one (.v))])]
def F173_1002 (k : Nat) (rec1002 : Int → Int → List Int → Int → Int → Option (Bool)) (lo : Int) (hi : Int) (t9 : List Int) (t10 : Int) (t11 : Int) : Option (Bool) :=
  bif decide (t11 < t10) then
    bif boundA t11 (List.length t9) then
      (f85 k (List.getD t9 (Int.toNat t11) 0) lo hi).bind fun r0 =>
      bif !r0 then
        some false
      else
        rec1002 lo hi t9 t10 (IntKind.wrap IntKind.i64 (t11 + 1))
    else
      none
  else
    some true
def F173 (k : Nat) (rec1002 : Int → Int → List Int → Int → Int → Option (Bool)) (l : List (Int)) (lo : Int) (hi : Int) : Option (Bool) :=
  rec1002 lo hi l ((↑(List.length l) : Int)) (0)
def l173 : Nat → (Int → Int → List Int → Int → Int → Option (Bool))
  | 0 => fun _ _ _ _ _ => none
  | k + 1 => F173_1002 k (l173 k)
def f173 (k : Nat) (l : List (Int)) (lo : Int) (hi : Int) : Option (Bool) := F173 k (l173 k) l lo hi
def s173 : Spec := ⟨false, [(.bool, false)], true, .bool, fun k xs => match xs with | [.slc 3 (.int .i64) l, .int .i64 lo, .int .i64 hi] => f173 k l lo hi | _ => none⟩
def env6 : List (FuncId × Spec) := (173, s173) :: env5
noncomputable abbrev x173 := exec ti (envOf env5) 21 h173 (finT ti true Go.Proofs.Try.f173.results.toList [(.bool, false)] (.bool))
noncomputable def k173_1002 : List It := stackAt [.r, .l, .r, .b, .lb none] (bodyOf Go.Proofs.Try.f173) []
def t173_1002 (lo : Int) (hi : Int) (t9 : List Int) (t10 : Int) (t11 : Int) : St := [(2, Cell.val (AVal.int IntKind.i64 lo)), (4, Cell.val (AVal.int IntKind.i64 hi)), (18, Cell.val (AVal.slc 3 (Ty.int IntKind.i64) t9)), (20, Cell.val (AVal.int IntKind.i64 t10)), (22, Cell.val (AVal.int IntKind.i64 t11))]
theorem e173_1002 (k : Nat) (lo : Int) (hi : Int) (t9 : List Int) (t10 : Int) (t11 : Int) : x173 (k + 1) k173_1002 (t173_1002 lo hi t9 t10 t11) = F173_1002 k (fun (lo : Int) (hi : Int) (t9 : List Int) (t10 : Int) (t11 : Int) => x173 k k173_1002 (t173_1002 lo hi t9 t10 t11)) lo hi t9 t10 t11 := by kernel_rfl
theorem q173 : ∀ k : Nat, (fun (lo : Int) (hi : Int) (t9 : List Int) (t10 : Int) (t11 : Int) => x173 k k173_1002 (t173_1002 lo hi t9 t10 t11)) = l173 k
  | 0 => rfl
  | k + 1 => by
    have h := q173 k
    show _ = F173_1002 k (l173 k)
    rw [← h]
    exact (funext fun lo => funext fun hi => funext fun t9 => funext fun t10 => funext fun t11 => e173_1002 k lo hi t9 t10 t11)
theorem w173 (k : Nat) (l : List (Int)) (lo : Int) (hi : Int) : runFn ti (envOf env5) 21 h173 (finT ti true Go.Proofs.Try.f173.results.toList [(.bool, false)] (.bool)) k (bodyOf Go.Proofs.Try.f173) (initS 0 [.slc 3 (.int .i64) l, .int .i64 lo, .int .i64 hi]) = F173 k (fun (lo : Int) (hi : Int) (t9 : List Int) (t10 : Int) (t11 : Int) => x173 k k173_1002 (t173_1002 lo hi t9 t10 t11)) l lo hi := by kernel_rfl
theorem v173 (k : Nat) (l : List (Int)) (lo : Int) (hi : Int) : runFn ti (envOf env5) 21 h173 (finT ti true Go.Proofs.Try.f173.results.toList [(.bool, false)] (.bool)) k (bodyOf Go.Proofs.Try.f173) (initS 0 [.slc 3 (.int .i64) l, .int .i64 lo, .int .i64 hi]) = f173 k l lo hi := by
  rw [w173]
  have h := q173 k
  unfold f173
  rw [← h]
theorem m173 : Meets Go.Proofs.Try.prog 173 s173 := meets_of_run tiOk env5_ok mo Go.Proofs.Try.func173 (body := bodyOf Go.Proofs.Try.f173) (by kernel_rfl) (N := 21) (by kernel_rfl) (hs := h173) (by
  intro k xs r h
  unfold s173 at h
  dsimp only at h
  split at h
  · exact ⟨Nat.le_of_ble_eq_true rfl, (v173 k _ _ _).trans h⟩
  · cases h)
theorem env6_ok : EnvOk Go.Proofs.Try.prog (envOf env6) := envOf_cons m173 Go.Proofs.Try.func173 (by kernel_rfl) (by kernel_rfl) env5_ok

-- spec.sgGood
def f172 (k : Nat) (p : List (Int)) : Option (Bool) :=
  bif decide (9 < (↑(List.length p) : Int)) then
    some false
  else
    (f173 k p (-1000000) 1000000).bind fun r0 =>
    bif !r0 then
      some false
    else
      bif decide ((↑(List.length p) : Int) = 0) then
        some true
      else
        bif boundA (IntKind.wrap IntKind.i64 ((↑(List.length p) : Int) - 1)) (List.length p) then
          some (!decide (List.getD p (Int.toNat (IntKind.wrap IntKind.i64 ((↑(List.length p) : Int) - 1))) 0 = 0))
        else
          none
def s172 : Spec := ⟨false, [(.bool, false)], true, .bool, fun k xs => match xs with | [.slc 3 (.int .i64) p] => f172 k p | _ => none⟩
def env7 : List (FuncId × Spec) := (172, s172) :: env6
theorem v172 (k : Nat) (p : List (Int)) : runFn ti (envOf env6) 23 [] (finT ti true Go.Proofs.Try.f172.results.toList [(.bool, false)] (.bool)) k (bodyOf Go.Proofs.Try.f172) (initS 0 [.slc 3 (.int .i64) p]) = f172 k p := by kernel_rfl
theorem m172 : Meets Go.Proofs.Try.prog 172 s172 := meets_of_run tiOk env6_ok mo Go.Proofs.Try.func172 (body := bodyOf Go.Proofs.Try.f172) (by kernel_rfl) (N := 23) (by kernel_rfl) (hs := []) (by
  intro k xs r h
  unfold s172 at h
  dsimp only at h
  split at h
  · exact ⟨Nat.le_of_ble_eq_true rfl, (v172 k _).trans h⟩
  · cases h)
theorem env7_ok : EnvOk Go.Proofs.Try.prog (envOf env7) := envOf_cons m172 Go.Proofs.Try.func172 (by kernel_rfl) (by kernel_rfl) env6_ok

-- spec.deGood
def f142 (k : Nat) (p : List (Int)) : Option (Bool) :=
  (f172 k p).bind fun r0 =>
  bif r0 then
    (f85 k (↑(List.length p) : Int) 1 6).bind fun r1 =>
    bif r1 then
      (f173 k p (-1000) 1000).bind fun r2 =>
      some r2
    else
      some false
  else
    some false
def s142 : Spec := ⟨false, [(.bool, false)], true, .bool, fun k xs => match xs with | [.slc 3 (.int .i64) p] => f142 k p | _ => none⟩
def env8 : List (FuncId × Spec) := (142, s142) :: env7
theorem v142 (k : Nat) (p : List (Int)) : runFn ti (envOf env7) 14 [] (finT ti true Go.Proofs.Try.f142.results.toList [(.bool, false)] (.bool)) k (bodyOf Go.Proofs.Try.f142) (initS 0 [.slc 3 (.int .i64) p]) = f142 k p := by kernel_rfl
theorem m142 : Meets Go.Proofs.Try.prog 142 s142 := meets_of_run tiOk env7_ok mo Go.Proofs.Try.func142 (body := bodyOf Go.Proofs.Try.f142) (by kernel_rfl) (N := 14) (by kernel_rfl) (hs := []) (by
  intro k xs r h
  unfold s142 at h
  dsimp only at h
  split at h
  · exact ⟨Nat.le_of_ble_eq_true rfl, (v142 k _).trans h⟩
  · cases h)
theorem env8_ok : EnvOk Go.Proofs.Try.prog (envOf env8) := envOf_cons m142 Go.Proofs.Try.func142 (by kernel_rfl) (by kernel_rfl) env7_ok

-- spec.faAsked
def f106 (k : Nat) (p : List (Int)) (q : List (Int)) (fine : Int) : Option (Bool) :=
  (f142 k p).bind fun r0 =>
  bif r0 then
    (f142 k q).bind fun r1 =>
    bif r1 then
      (f85 k fine 0 4).bind fun r2 =>
      some r2
    else
      some false
  else
    some false
def s106 : Spec := ⟨false, [(.bool, false)], true, .bool, fun k xs => match xs with | [.slc 3 (.int .i64) p, .slc 3 (.int .i64) q, .int .i64 fine] => f106 k p q fine | _ => none⟩
def env9 : List (FuncId × Spec) := (106, s106) :: env8
theorem v106 (k : Nat) (p : List (Int)) (q : List (Int)) (fine : Int) : runFn ti (envOf env8) 17 [] (finT ti true Go.Proofs.Try.f106.results.toList [(.bool, false)] (.bool)) k (bodyOf Go.Proofs.Try.f106) (initS 0 [.slc 3 (.int .i64) p, .slc 3 (.int .i64) q, .int .i64 fine]) = f106 k p q fine := by kernel_rfl
theorem m106 : Meets Go.Proofs.Try.prog 106 s106 := meets_of_run tiOk env8_ok mo Go.Proofs.Try.func106 (body := bodyOf Go.Proofs.Try.f106) (by kernel_rfl) (N := 17) (by kernel_rfl) (hs := []) (by
  intro k xs r h
  unfold s106 at h
  dsimp only at h
  split at h
  · exact ⟨Nat.le_of_ble_eq_true rfl, (v106 k _ _ _).trans h⟩
  · cases h)
theorem env9_ok : EnvOk Go.Proofs.Try.prog (envOf env9) := envOf_cons m106 Go.Proofs.Try.func106 (by kernel_rfl) (by kernel_rfl) env8_ok

-- spec.dyPower
def f107 (k : Nat) (k_ : Int) : Option (Int) :=
  bif !decide (IntKind.wrap IntKind.u64 k_ < 0) then
    some (IntKind.wrap IntKind.i64 (1 * 2 ^ min (Int.toNat (IntKind.wrap IntKind.u64 k_)) (IntKind.bits IntKind.i64)))
  else
    none
def s107 : Spec := ⟨false, [(.int .i64, false)], true, .int .i64, fun k xs => match xs with | [.int .i64 k_] => f107 k k_ | _ => none⟩
def env10 : List (FuncId × Spec) := (107, s107) :: env9
theorem v107 (k : Nat) (k_ : Int) : runFn ti (envOf env9) 6 [] (finT ti true Go.Proofs.Try.f107.results.toList [(.int .i64, false)] (.int .i64)) k (bodyOf Go.Proofs.Try.f107) (initS 0 [.int .i64 k_]) = f107 k k_ := by kernel_rfl
theorem m107 : Meets Go.Proofs.Try.prog 107 s107 := meets_of_run tiOk env9_ok mo Go.Proofs.Try.func107 (body := bodyOf Go.Proofs.Try.f107) (by kernel_rfl) (N := 6) (by kernel_rfl) (hs := []) (by
  intro k xs r h
  unfold s107 at h
  dsimp only at h
  split at h
  · exact ⟨Nat.le_of_ble_eq_true rfl, (v107 k _).trans h⟩
  · cases h)
theorem env10_ok : EnvOk Go.Proofs.Try.prog (envOf env10) := envOf_cons m107 Go.Proofs.Try.func107 (by kernel_rfl) (by kernel_rfl) env9_ok

-- spec.faStep
def f95 (k : Nat) (p : List (Int)) (q : List (Int)) (i : Int) (fine : Int) : Option (Bool) :=
  (f106 k p q fine).bind fun r0 =>
  bif r0 then
    (f107 k fine).bind fun r1 =>
    (f85 k i 0 (IntKind.wrap IntKind.i64 (r1 - 1))).bind fun r2 =>
    some r2
  else
    some false
def s95 : Spec := ⟨false, [(.bool, false)], true, .bool, fun k xs => match xs with | [.slc 3 (.int .i64) p, .slc 3 (.int .i64) q, .int .i64 i, .int .i64 fine] => f95 k p q i fine | _ => none⟩
def env11 : List (FuncId × Spec) := (95, s95) :: env10
theorem v95 (k : Nat) (p : List (Int)) (q : List (Int)) (i : Int) (fine : Int) : runFn ti (envOf env10) 20 [] (finT ti true Go.Proofs.Try.f95.results.toList [(.bool, false)] (.bool)) k (bodyOf Go.Proofs.Try.f95) (initS 0 [.slc 3 (.int .i64) p, .slc 3 (.int .i64) q, .int .i64 i, .int .i64 fine]) = f95 k p q i fine := by kernel_rfl
theorem m95 : Meets Go.Proofs.Try.prog 95 s95 := meets_of_run tiOk env10_ok mo Go.Proofs.Try.func95 (body := bodyOf Go.Proofs.Try.f95) (by kernel_rfl) (N := 20) (by kernel_rfl) (hs := []) (by
  intro k xs r h
  unfold s95 at h
  dsimp only at h
  split at h
  · exact ⟨Nat.le_of_ble_eq_true rfl, (v95 k _ _ _ _).trans h⟩
  · cases h)
theorem env11_ok : EnvOk Go.Proofs.Try.prog (envOf env11) := envOf_cons m95 Go.Proofs.Try.func95 (by kernel_rfl) (by kernel_rfl) env10_ok

-- spec.dyDown
def f175 (k : Nat) (a : Int) (b : Int) : Option (Int) :=
  bif !decide (b = 0) then
    bif !decide (b = 0) then
      bif decide (Int.tmod a b < 0) then
        some (IntKind.wrap IntKind.i64 (IntKind.wrap IntKind.i64 (Int.tdiv a b) - 1))
      else
        some (IntKind.wrap IntKind.i64 (Int.tdiv a b))
    else
      none
  else
    none
def s175 : Spec := ⟨false, [(.int .i64, false)], true, .int .i64, fun k xs => match xs with | [.int .i64 a, .int .i64 b] => f175 k a b | _ => none⟩
def env12 : List (FuncId × Spec) := (175, s175) :: env11
theorem v175 (k : Nat) (a : Int) (b : Int) : runFn ti (envOf env11) 16 [] (finT ti true Go.Proofs.Try.f175.results.toList [(.int .i64, false)] (.int .i64)) k (bodyOf Go.Proofs.Try.f175) (initS 0 [.int .i64 a, .int .i64 b]) = f175 k a b := by kernel_rfl
theorem m175 : Meets Go.Proofs.Try.prog 175 s175 := meets_of_run tiOk env11_ok mo Go.Proofs.Try.func175 (body := bodyOf Go.Proofs.Try.f175) (by kernel_rfl) (N := 16) (by kernel_rfl) (hs := []) (by
  intro k xs r h
  unfold s175 at h
  dsimp only at h
  split at h
  · exact ⟨Nat.le_of_ble_eq_true rfl, (v175 k _ _).trans h⟩
  · cases h)
theorem env12_ok : EnvOk Go.Proofs.Try.prog (envOf env12) := envOf_cons m175 Go.Proofs.Try.func175 (by kernel_rfl) (by kernel_rfl) env11_ok

end Go.Proofs.YtnndolcjljhhcaaE
