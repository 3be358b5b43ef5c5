/- Functions, by the engine; printed. -/
import Derived.Test.YtkahcjnkmbbplaaLA6
set_option maxRecDepth 100000
set_option maxHeartbeats 4000000
set_option linter.unusedVariables false
namespace Go.Proofs.YtkahcjnkmbbplaaE
-- impl.HasPoint
def h46 : Hints := [(1004, .lab [(2, .box 32 [.v, .frz 3 (Ty.int IntKind.i64), .frz 3 (Ty.int IntKind.i64)]), (24, .one (.frz 68 (Ty.pair (Ty.int IntKind.i64) (Ty.int IntKind.i64)))), (25, .one (.v)), (26, .one (.v))])]
noncomputable def F46_1004 (k : Nat) (rec1004 : Int → List Int → List Int → List (Int × Int) → Int → Int → Option (Bool × Bool)) (bs_0 : Int) (bs_1 : List Int) (bs_2 : List Int) (t24 : List (Int × Int)) (t25 : Int) (t26 : Int) : Option (Bool × Bool) :=
  bif decide (t26 < t25) then
    bif boundA t26 (List.length t24) then
      (f77 k (bs_0, bs_1, bs_2) t26).bind fun r0 =>
      (f52 k (List.getD t24 (Int.toNat t26) (0, 0)).fst (List.getD t24 (Int.toNat t26) (0, 0)).snd r0.fst.fst r0.fst.snd).bind fun r1 =>
      bif decide (r1 < 0) then
        some ((false, true))
      else
        (f52 k (List.getD t24 (Int.toNat t26) (0, 0)).fst (List.getD t24 (Int.toNat t26) (0, 0)).snd r0.snd.fst r0.snd.snd).bind fun r2 =>
        bif decide (0 < r2) then
          some ((false, true))
        else
          rec1004 bs_0 bs_1 bs_2 t24 t25 (IntKind.wrap IntKind.i64 (t26 + 1))
    else
      none
  else
    some ((true, true))
noncomputable def F46 (k : Nat) (rec1004 : Int → List Int → List Int → List (Int × Int) → Int → Int → Option (Bool × Bool)) (b_K : Int) (b_Low : List (Int)) (b_High : List (Int)) (point : List (Int × Int)) : Option (Bool × Bool) :=
  (f60 k (b_K, b_Low, b_High)).bind fun r0 =>
  bif !r0 then
    some ((false, false))
  else
    bif !decide ((↑(List.length point) : Int) = (↑(List.length b_Low) : Int)) then
      some ((false, false))
    else
      (f74_75 k point).bind fun r1 =>
      bif r1 then
        some ((false, false))
      else
        rec1004 b_K b_Low b_High point ((↑(List.length point) : Int)) (0)
noncomputable def l46 : Nat → (Int → List Int → List Int → List (Int × Int) → Int → Int → Option (Bool × Bool))
  | 0 => fun _ _ _ _ _ _ => none
  | k + 1 => F46_1004 k (l46 k)
noncomputable def f46 (k : Nat) (b_K : Int) (b_Low : List (Int)) (b_High : List (Int)) (point : List (Int × Int)) : Option (Bool × Bool) := F46 k (l46 k) b_K b_Low b_High point
noncomputable def s46 : Spec := ⟨false, [(.bool, false), (.bool, false)], true, .pair (.bool) (.bool), fun k xs => match xs with | [.agg [.int .i64 b_K, .slc 3 (.int .i64) b_Low, .slc 3 (.int .i64) b_High], .slc 68 (.pair (.int .i64) (.int .i64)) point] => f46 k b_K b_Low b_High point | _ => none, false⟩
noncomputable def env73 : List (FuncId × Spec) := (46, s46) :: env72
noncomputable abbrev x46 := exec ti (envOf env72) 47 h46 (finT ti true Go.Proofs.Try.f46.results.toList [(.bool, false), (.bool, false)] (.pair (.bool) (.bool)))
noncomputable def k46_1004 : List It := stackAt [.r, .r, .l, .r, .b, .lb none] (bodyOf Go.Proofs.Try.f46) []
def t46_1004 (bs_0 : Int) (bs_1 : List Int) (bs_2 : List Int) (t24 : List (Int × Int)) (t25 : Int) (t26 : Int) : St := [(4, Cell.val (AVal.ptr 3 0)), (3, Cell.mem true 32 [AVal.int IntKind.i64 bs_0, AVal.slc 3 (Ty.int IntKind.i64) bs_1, AVal.slc 3 (Ty.int IntKind.i64) bs_2]), (48, Cell.val (AVal.slc 68 (Ty.pair (Ty.int IntKind.i64) (Ty.int IntKind.i64)) t24)), (50, Cell.val (AVal.int IntKind.i64 t25)), (52, Cell.val (AVal.int IntKind.i64 t26))]
theorem e46_1004 (k : Nat) (bs_0 : Int) (bs_1 : List Int) (bs_2 : List Int) (t24 : List (Int × Int)) (t25 : Int) (t26 : Int) : x46 (k + 1) k46_1004 (t46_1004 bs_0 bs_1 bs_2 t24 t25 t26) = F46_1004 k (fun (bs_0 : Int) (bs_1 : List Int) (bs_2 : List Int) (t24 : List (Int × Int)) (t25 : Int) (t26 : Int) => x46 k k46_1004 (t46_1004 bs_0 bs_1 bs_2 t24 t25 t26)) bs_0 bs_1 bs_2 t24 t25 t26 := by kernel_rfl
theorem q46 : ∀ k : Nat, (fun (bs_0 : Int) (bs_1 : List Int) (bs_2 : List Int) (t24 : List (Int × Int)) (t25 : Int) (t26 : Int) => x46 k k46_1004 (t46_1004 bs_0 bs_1 bs_2 t24 t25 t26)) = l46 k
  | 0 => rfl
  | k + 1 => by
    have h := q46 k
    show _ = F46_1004 k (l46 k)
    rw [← h]
    exact (funext fun bs_0 => funext fun bs_1 => funext fun bs_2 => funext fun t24 => funext fun t25 => funext fun t26 => e46_1004 k bs_0 bs_1 bs_2 t24 t25 t26)
theorem w46 (k : Nat) (b_K : Int) (b_Low : List (Int)) (b_High : List (Int)) (point : List (Int × Int)) : runFn ti (envOf env72) 47 h46 (finT ti true Go.Proofs.Try.f46.results.toList [(.bool, false), (.bool, false)] (.pair (.bool) (.bool))) k (bodyOf Go.Proofs.Try.f46) (initS 0 [.agg [.int .i64 b_K, .slc 3 (.int .i64) b_Low, .slc 3 (.int .i64) b_High], .slc 68 (.pair (.int .i64) (.int .i64)) point]) = F46 k (fun (bs_0 : Int) (bs_1 : List Int) (bs_2 : List Int) (t24 : List (Int × Int)) (t25 : Int) (t26 : Int) => x46 k k46_1004 (t46_1004 bs_0 bs_1 bs_2 t24 t25 t26)) b_K b_Low b_High point := by kernel_rfl
theorem v46 (k : Nat) (b_K : Int) (b_Low : List (Int)) (b_High : List (Int)) (point : List (Int × Int)) : runFn ti (envOf env72) 47 h46 (finT ti true Go.Proofs.Try.f46.results.toList [(.bool, false), (.bool, false)] (.pair (.bool) (.bool))) k (bodyOf Go.Proofs.Try.f46) (initS 0 [.agg [.int .i64 b_K, .slc 3 (.int .i64) b_Low, .slc 3 (.int .i64) b_High], .slc 68 (.pair (.int .i64) (.int .i64)) point]) = f46 k b_K b_Low b_High point := by
  rw [w46]
  have h := q46 k
  unfold f46
  rw [← h]
theorem m46 : Meets Go.Proofs.Try.prog 46 s46 := meets_of_run tiOk env72_ok mo Go.Proofs.Try.func46 (body := bodyOf Go.Proofs.Try.f46) (by kernel_rfl) (N := 47) (by kernel_rfl) (hs := h46) (by
  intro k xs r h
  unfold s46 at h
  dsimp only at h
  split at h
  · exact ⟨Nat.le_of_ble_eq_true rfl, (v46 k _ _ _ _).trans h⟩
  · cases h)
theorem env73_ok : EnvOk Go.Proofs.Try.prog (envOf env73) := envOf_cons m46 Go.Proofs.Try.func46 (by kernel_rfl) (by kernel_rfl) env72_ok

-- impl.LeafAt
def h15 : Hints := [(1005, .lab [(2, .one (.frz 68 (Ty.pair (Ty.int IntKind.i64) (Ty.int IntKind.i64)))), (30, .one (.own 32 (Ty.pair (Ty.int IntKind.i64) (Ty.pair (Ty.slice 3 (Ty.int IntKind.i64)) (Ty.slice 3 (Ty.int IntKind.i64)))))), (31, .one (.v)), (32, .one (.v))])]
noncomputable def F15_1005 (k : Nat) (rec1005 : List (Int × Int) → List (Int × List Int × List Int) → Int → Int → Option (Int × Bool)) (point : List (Int × Int)) (t30s : List (Int × List Int × List Int)) (t31 : Int) (t32 : Int) : Option (Int × Bool) :=
  bif decide (t32 < t31) then
    bif boundA t32 (List.length t30s) then
      bif Nat.blt (Int.toNat t32) (List.length t30s) then
        (f46 k (List.getD t30s (Int.toNat t32) (0, [], [])).fst (List.getD t30s (Int.toNat t32) (0, [], [])).snd.fst (List.getD t30s (Int.toNat t32) (0, [], [])).snd.snd point).bind fun r0 =>
        bif r0.snd then
          bif r0.fst then
            some ((t32, true))
          else
            rec1005 point t30s t31 (IntKind.wrap IntKind.i64 (t32 + 1))
        else
          rec1005 point t30s t31 (IntKind.wrap IntKind.i64 (t32 + 1))
      else
        none
    else
      none
  else
    some ((0, false))
noncomputable def F15 (k : Nat) (rec1005 : List (Int × Int) → List (Int × List Int × List Int) → Int → Int → Option (Int × Bool)) (b_K : Int) (b_Low : List (Int)) (b_High : List (Int)) (l : List (Int × Int)) (point : List (Int × Int)) : Option (Int × Bool) :=
  (f44 k (b_K, b_Low, b_High) l).bind fun r0 =>
  bif !r0 then
    some ((0, false))
  else
    bif !decide ((↑(List.length point) : Int) = (↑(List.length b_Low) : Int)) then
      some ((0, false))
    else
      (f45 k (b_K, b_Low, b_High) l).bind fun r1 =>
      rec1005 point (r1.fst) ((↑(List.length r1.fst) : Int)) (0)
noncomputable def l15 : Nat → (List (Int × Int) → List (Int × List Int × List Int) → Int → Int → Option (Int × Bool))
  | 0 => fun _ _ _ _ => none
  | k + 1 => F15_1005 k (l15 k)
noncomputable def f15 (k : Nat) (b_K : Int) (b_Low : List (Int)) (b_High : List (Int)) (l : List (Int × Int)) (point : List (Int × Int)) : Option (Int × Bool) := F15 k (l15 k) b_K b_Low b_High l point
noncomputable def s15 : Spec := ⟨false, [(.int .i64, false), (.bool, false)], true, .pair (.int .i64) (.bool), fun k xs => match xs with | [.agg [.int .i64 b_K, .slc 3 (.int .i64) b_Low, .slc 3 (.int .i64) b_High], .slc 63 (.pair (.int .i64) (.int .i64)) l, .slc 68 (.pair (.int .i64) (.int .i64)) point] => f15 k b_K b_Low b_High l point | _ => none, false⟩
noncomputable def env74 : List (FuncId × Spec) := (15, s15) :: env73
noncomputable abbrev x15 := exec ti (envOf env73) 49 h15 (finT ti true Go.Proofs.Try.f15.results.toList [(.int .i64, false), (.bool, false)] (.pair (.int .i64) (.bool)))
noncomputable def k15_1005 : List It := stackAt [.r, .r, .r, .l, .r, .b, .lb none] (bodyOf Go.Proofs.Try.f15) []
def t15_1005 (point : List (Int × Int)) (t30s : List (Int × List Int × List Int)) (t31 : Int) (t32 : Int) : St := [(4, Cell.val (AVal.slc 68 (Ty.pair (Ty.int IntKind.i64) (Ty.int IntKind.i64)) point)), (60, Cell.val (AVal.ref 3 none)), (3, Cell.row true 32 (Ty.pair (Ty.int IntKind.i64) (Ty.pair (Ty.slice 3 (Ty.int IntKind.i64)) (Ty.slice 3 (Ty.int IntKind.i64)))) t30s), (62, Cell.val (AVal.int IntKind.i64 t31)), (64, Cell.val (AVal.int IntKind.i64 t32))]
theorem e15_1005 (k : Nat) (point : List (Int × Int)) (t30s : List (Int × List Int × List Int)) (t31 : Int) (t32 : Int) : x15 (k + 1) k15_1005 (t15_1005 point t30s t31 t32) = F15_1005 k (fun (point : List (Int × Int)) (t30s : List (Int × List Int × List Int)) (t31 : Int) (t32 : Int) => x15 k k15_1005 (t15_1005 point t30s t31 t32)) point t30s t31 t32 := by kernel_rfl
theorem q15 : ∀ k : Nat, (fun (point : List (Int × Int)) (t30s : List (Int × List Int × List Int)) (t31 : Int) (t32 : Int) => x15 k k15_1005 (t15_1005 point t30s t31 t32)) = l15 k
  | 0 => rfl
  | k + 1 => by
    have h := q15 k
    show _ = F15_1005 k (l15 k)
    rw [← h]
    exact (funext fun point => funext fun t30s => funext fun t31 => funext fun t32 => e15_1005 k point t30s t31 t32)
theorem w15 (k : Nat) (b_K : Int) (b_Low : List (Int)) (b_High : List (Int)) (l : List (Int × Int)) (point : List (Int × Int)) : runFn ti (envOf env73) 49 h15 (finT ti true Go.Proofs.Try.f15.results.toList [(.int .i64, false), (.bool, false)] (.pair (.int .i64) (.bool))) k (bodyOf Go.Proofs.Try.f15) (initS 0 [.agg [.int .i64 b_K, .slc 3 (.int .i64) b_Low, .slc 3 (.int .i64) b_High], .slc 63 (.pair (.int .i64) (.int .i64)) l, .slc 68 (.pair (.int .i64) (.int .i64)) point]) = F15 k (fun (point : List (Int × Int)) (t30s : List (Int × List Int × List Int)) (t31 : Int) (t32 : Int) => x15 k k15_1005 (t15_1005 point t30s t31 t32)) b_K b_Low b_High l point := by kernel_rfl
theorem v15 (k : Nat) (b_K : Int) (b_Low : List (Int)) (b_High : List (Int)) (l : List (Int × Int)) (point : List (Int × Int)) : runFn ti (envOf env73) 49 h15 (finT ti true Go.Proofs.Try.f15.results.toList [(.int .i64, false), (.bool, false)] (.pair (.int .i64) (.bool))) k (bodyOf Go.Proofs.Try.f15) (initS 0 [.agg [.int .i64 b_K, .slc 3 (.int .i64) b_Low, .slc 3 (.int .i64) b_High], .slc 63 (.pair (.int .i64) (.int .i64)) l, .slc 68 (.pair (.int .i64) (.int .i64)) point]) = f15 k b_K b_Low b_High l point := by
  rw [w15]
  have h := q15 k
  unfold f15
  rw [← h]
theorem m15 : Meets Go.Proofs.Try.prog 15 s15 := meets_of_run tiOk env73_ok mo Go.Proofs.Try.func15 (body := bodyOf Go.Proofs.Try.f15) (by kernel_rfl) (N := 49) (by kernel_rfl) (hs := h15) (by
  intro k xs r h
  unfold s15 at h
  dsimp only at h
  split at h
  · exact ⟨Nat.le_of_ble_eq_true rfl, (v15 k _ _ _ _ _).trans h⟩
  · cases h)
theorem env74_ok : EnvOk Go.Proofs.Try.prog (envOf env74) := envOf_cons m15 Go.Proofs.Try.func15 (by kernel_rfl) (by kernel_rfl) env73_ok

-- laws.eqIntS
def h57 : Hints := [(1004, .lab [(0, .one (.frz 3 (Ty.int IntKind.i64))), (1, .one (.frz 3 (Ty.int IntKind.i64))), (5, .one (.v))])]
noncomputable def F57_1004 (k : Nat) (rec1004 : List Int → List Int → Int → Option (Bool)) (a : List Int) (b : List Int) (i : Int) : Option (Bool) :=
  bif decide (i < (↑(List.length a) : Int)) then
    bif boundA i (List.length a) then
      bif boundA i (List.length b) then
        bif !decide (List.getD a (Int.toNat i) 0 = List.getD b (Int.toNat i) 0) then
          some false
        else
          rec1004 a b (IntKind.wrap IntKind.i64 (i + 1))
      else
        none
    else
      none
  else
    some true
noncomputable def F57 (k : Nat) (rec1004 : List Int → List Int → Int → Option (Bool)) (a : List (Int)) (b : List (Int)) : Option (Bool) :=
  bif !decide ((↑(List.length a) : Int) = (↑(List.length b) : Int)) then
    some false
  else
    rec1004 a b (0)
noncomputable def l57 : Nat → (List Int → List Int → Int → Option (Bool))
  | 0 => fun _ _ _ => none
  | k + 1 => F57_1004 k (l57 k)
noncomputable def f57 (k : Nat) (a : List (Int)) (b : List (Int)) : Option (Bool) := F57 k (l57 k) a b
noncomputable def s57 : Spec := ⟨false, [(.bool, false)], true, .bool, fun k xs => match xs with | [.slc 3 (.int .i64) a, .slc 3 (.int .i64) b] => f57 k a b | _ => none, false⟩
noncomputable def env75 : List (FuncId × Spec) := (57, s57) :: env74
noncomputable abbrev x57 := exec ti (envOf env74) 26 h57 (finT ti true Go.Proofs.Try.f57.results.toList [(.bool, false)] (.bool))
noncomputable def k57_1004 : List It := stackAt [.r, .r, .l, .r, .b, .lb none] (bodyOf Go.Proofs.Try.f57) []
def t57_1004 (a : List Int) (b : List Int) (i : Int) : St := [(0, Cell.val (AVal.slc 3 (Ty.int IntKind.i64) a)), (2, Cell.val (AVal.slc 3 (Ty.int IntKind.i64) b)), (10, Cell.val (AVal.int IntKind.i64 i))]
theorem e57_1004 (k : Nat) (a : List Int) (b : List Int) (i : Int) : x57 (k + 1) k57_1004 (t57_1004 a b i) = F57_1004 k (fun (a : List Int) (b : List Int) (i : Int) => x57 k k57_1004 (t57_1004 a b i)) a b i := by kernel_rfl
theorem q57 : ∀ k : Nat, (fun (a : List Int) (b : List Int) (i : Int) => x57 k k57_1004 (t57_1004 a b i)) = l57 k
  | 0 => rfl
  | k + 1 => by
    have h := q57 k
    show _ = F57_1004 k (l57 k)
    rw [← h]
    exact (funext fun a => funext fun b => funext fun i => e57_1004 k a b i)
theorem w57 (k : Nat) (a : List (Int)) (b : List (Int)) : runFn ti (envOf env74) 26 h57 (finT ti true Go.Proofs.Try.f57.results.toList [(.bool, false)] (.bool)) k (bodyOf Go.Proofs.Try.f57) (initS 0 [.slc 3 (.int .i64) a, .slc 3 (.int .i64) b]) = F57 k (fun (a : List Int) (b : List Int) (i : Int) => x57 k k57_1004 (t57_1004 a b i)) a b := by kernel_rfl
theorem v57 (k : Nat) (a : List (Int)) (b : List (Int)) : runFn ti (envOf env74) 26 h57 (finT ti true Go.Proofs.Try.f57.results.toList [(.bool, false)] (.bool)) k (bodyOf Go.Proofs.Try.f57) (initS 0 [.slc 3 (.int .i64) a, .slc 3 (.int .i64) b]) = f57 k a b := by
  rw [w57]
  have h := q57 k
  unfold f57
  rw [← h]
theorem m57 : Meets Go.Proofs.Try.prog 57 s57 := meets_of_run tiOk env74_ok mo Go.Proofs.Try.func57 (body := bodyOf Go.Proofs.Try.f57) (by kernel_rfl) (N := 26) (by kernel_rfl) (hs := h57) (by
  intro k xs r h
  unfold s57 at h
  dsimp only at h
  split at h
  · exact ⟨Nat.le_of_ble_eq_true rfl, (v57 k _ _).trans h⟩
  · cases h)
theorem env75_ok : EnvOk Go.Proofs.Try.prog (envOf env75) := envOf_cons m57 Go.Proofs.Try.func57 (by kernel_rfl) (by kernel_rfl) env74_ok

-- laws.intactIntS
noncomputable def f47 (k : Nat) (x : List (Int)) (x_n : Nat) (y : List (Int)) (y_n : Nat) : Option (Bool) :=
  (f39 k (↑y_n : Int)).bind fun r0 =>
  bif decide ((↑x_n : Int) = (↑y_n : Int)) then
    bif boundE (IntKind.wrap IntKind.i64 ((↑y_n : Int) + r0)) (List.length x) then
      bif decide (0 ≤ 0) && decide (0 ≤ IntKind.wrap IntKind.i64 ((↑y_n : Int) + r0)) then
        bif boundE (IntKind.wrap IntKind.i64 ((↑y_n : Int) + r0)) (List.length y) then
          bif decide (0 ≤ 0) && decide (0 ≤ IntKind.wrap IntKind.i64 ((↑y_n : Int) + r0)) then
            (f57 k (List.drop (Int.toNat 0) (List.take (Int.toNat (IntKind.wrap IntKind.i64 ((↑y_n : Int) + r0))) x)) (List.drop (Int.toNat 0) (List.take (Int.toNat (IntKind.wrap IntKind.i64 ((↑y_n : Int) + r0))) y))).bind fun r1 =>
            some r1
          else
            none
        else
          none
      else
        none
    else
      none
  else
    some false
noncomputable def s47 : Spec := ⟨true, [(.bool, false)], true, .bool, fun k xs => match xs with | [.vslc 3 (.int .i64) x x_n, .vslc 3 (.int .i64) y y_n] => f47 k x x_n y y_n | _ => none, false⟩
noncomputable def env76 : List (FuncId × Spec) := (47, s47) :: env75
theorem v47 (k : Nat) (x : List (Int)) (x_n : Nat) (y : List (Int)) (y_n : Nat) : runFn tiV (envOf env75) 26 [] (finT tiV true Go.Proofs.Try.f47.results.toList [(.bool, false)] (.bool)) k (bodyOf Go.Proofs.Try.f47) (initS 0 [.vslc 3 (.int .i64) x x_n, .vslc 3 (.int .i64) y y_n]) = f47 k x x_n y y_n := by kernel_rfl
theorem m47 : Meets Go.Proofs.Try.prog 47 s47 := meets_of_run tiVOk env75_ok mo Go.Proofs.Try.func47 (body := bodyOf Go.Proofs.Try.f47) (by kernel_rfl) (N := 26) (by kernel_rfl) (hs := []) (by
  intro k xs r h
  unfold s47 at h
  dsimp only at h
  split at h
  · exact ⟨Nat.le_of_ble_eq_true rfl, (v47 k _ _ _ _).trans h⟩
  · cases h)
theorem env76_ok : EnvOk Go.Proofs.Try.prog (envOf env76) := envOf_cons m47 Go.Proofs.Try.func47 (by kernel_rfl) (by kernel_rfl) env75_ok

-- laws.intactBox
noncomputable def f16 (k : Nat) (x_K : Int) (x_Low : List (Int)) (x_Low_n : Nat) (x_High : List (Int)) (x_High_n : Nat) (y_K : Int) (y_Low : List (Int)) (y_Low_n : Nat) (y_High : List (Int)) (y_High_n : Nat) : Option (Bool) :=
  bif !decide (x_K = y_K) then
    some false
  else
    (f47 k x_Low x_Low_n y_Low y_Low_n).bind fun r0 =>
    bif !r0 then
      some false
    else
      (f47 k x_High x_High_n y_High y_High_n).bind fun r1 =>
      bif !r1 then
        some false
      else
        some true
noncomputable def s16 : Spec := ⟨true, [(.bool, false)], true, .bool, fun k xs => match xs with | [.agg [.int .i64 x_K, .vslc 3 (.int .i64) x_Low x_Low_n, .vslc 3 (.int .i64) x_High x_High_n], .agg [.int .i64 y_K, .vslc 3 (.int .i64) y_Low y_Low_n, .vslc 3 (.int .i64) y_High y_High_n]] => f16 k x_K x_Low x_Low_n x_High x_High_n y_K y_Low y_Low_n y_High y_High_n | _ => none, false⟩
noncomputable def env77 : List (FuncId × Spec) := (16, s16) :: env76
theorem v16 (k : Nat) (x_K : Int) (x_Low : List (Int)) (x_Low_n : Nat) (x_High : List (Int)) (x_High_n : Nat) (y_K : Int) (y_Low : List (Int)) (y_Low_n : Nat) (y_High : List (Int)) (y_High_n : Nat) : runFn tiV (envOf env76) 22 [] (finT tiV true Go.Proofs.Try.f16.results.toList [(.bool, false)] (.bool)) k (bodyOf Go.Proofs.Try.f16) (initS 0 [.agg [.int .i64 x_K, .vslc 3 (.int .i64) x_Low x_Low_n, .vslc 3 (.int .i64) x_High x_High_n], .agg [.int .i64 y_K, .vslc 3 (.int .i64) y_Low y_Low_n, .vslc 3 (.int .i64) y_High y_High_n]]) = f16 k x_K x_Low x_Low_n x_High x_High_n y_K y_Low y_Low_n y_High y_High_n := by kernel_rfl
theorem m16 : Meets Go.Proofs.Try.prog 16 s16 := meets_of_run tiVOk env76_ok mo Go.Proofs.Try.func16 (body := bodyOf Go.Proofs.Try.f16) (by kernel_rfl) (N := 22) (by kernel_rfl) (hs := []) (by
  intro k xs r h
  unfold s16 at h
  dsimp only at h
  split at h
  · exact ⟨Nat.le_of_ble_eq_true rfl, (v16 k _ _ _ _ _ _ _ _ _ _).trans h⟩
  · cases h)
theorem env77_ok : EnvOk Go.Proofs.Try.prog (envOf env77) := envOf_cons m16 Go.Proofs.Try.func16 (by kernel_rfl) (by kernel_rfl) env76_ok

-- laws.eqNode
noncomputable def f78 (k : Nat) (a_Kind : Int) (a_Number : Int) (b_Kind : Int) (b_Number : Int) : Option (Bool) :=
  bif !decide (a_Kind = b_Kind) then
    some false
  else
    bif !decide (a_Number = b_Number) then
      some false
    else
      some true
noncomputable def s78 : Spec := ⟨false, [(.bool, false)], true, .bool, fun k xs => match xs with | [.agg [.int .i64 a_Kind, .int .i64 a_Number], .agg [.int .i64 b_Kind, .int .i64 b_Number]] => f78 k a_Kind a_Number b_Kind b_Number | _ => none, false⟩
noncomputable def env78 : List (FuncId × Spec) := (78, s78) :: env77
theorem v78 (k : Nat) (a_Kind : Int) (a_Number : Int) (b_Kind : Int) (b_Number : Int) : runFn ti (envOf env77) 15 [] (finT ti true Go.Proofs.Try.f78.results.toList [(.bool, false)] (.bool)) k (bodyOf Go.Proofs.Try.f78) (initS 0 [.agg [.int .i64 a_Kind, .int .i64 a_Number], .agg [.int .i64 b_Kind, .int .i64 b_Number]]) = f78 k a_Kind a_Number b_Kind b_Number := by kernel_rfl
theorem m78 : Meets Go.Proofs.Try.prog 78 s78 := meets_of_run tiOk env77_ok mo Go.Proofs.Try.func78 (body := bodyOf Go.Proofs.Try.f78) (by kernel_rfl) (N := 15) (by kernel_rfl) (hs := []) (by
  intro k xs r h
  unfold s78 at h
  dsimp only at h
  split at h
  · exact ⟨Nat.le_of_ble_eq_true rfl, (v78 k _ _ _ _).trans h⟩
  · cases h)
theorem env78_ok : EnvOk Go.Proofs.Try.prog (envOf env78) := envOf_cons m78 Go.Proofs.Try.func78 (by kernel_rfl) (by kernel_rfl) env77_ok

-- laws.eqNodeS
def h48 : Hints := [(1004, .lab [(0, .one (.frz 63 (Ty.pair (Ty.int IntKind.i64) (Ty.int IntKind.i64)))), (1, .one (.frz 63 (Ty.pair (Ty.int IntKind.i64) (Ty.int IntKind.i64)))), (5, .one (.v))])]
noncomputable def F48_1004 (k : Nat) (rec1004 : List (Int × Int) → List (Int × Int) → Int → Option (Bool)) (a : List (Int × Int)) (b : List (Int × Int)) (i : Int) : Option (Bool) :=
  bif decide (i < (↑(List.length a) : Int)) then
    bif boundA i (List.length a) then
      bif boundA i (List.length b) then
        (f78 k (List.getD a (Int.toNat i) (0, 0)).fst (List.getD a (Int.toNat i) (0, 0)).snd (List.getD b (Int.toNat i) (0, 0)).fst (List.getD b (Int.toNat i) (0, 0)).snd).bind fun r0 =>
        bif !r0 then
          some false
        else
          rec1004 a b (IntKind.wrap IntKind.i64 (i + 1))
      else
        none
    else
      none
  else
    some true
noncomputable def F48 (k : Nat) (rec1004 : List (Int × Int) → List (Int × Int) → Int → Option (Bool)) (a : List (Int × Int)) (b : List (Int × Int)) : Option (Bool) :=
  bif !decide ((↑(List.length a) : Int) = (↑(List.length b) : Int)) then
    some false
  else
    rec1004 a b (0)
noncomputable def l48 : Nat → (List (Int × Int) → List (Int × Int) → Int → Option (Bool))
  | 0 => fun _ _ _ => none
  | k + 1 => F48_1004 k (l48 k)
noncomputable def f48 (k : Nat) (a : List (Int × Int)) (b : List (Int × Int)) : Option (Bool) := F48 k (l48 k) a b
noncomputable def s48 : Spec := ⟨false, [(.bool, false)], true, .bool, fun k xs => match xs with | [.slc 63 (.pair (.int .i64) (.int .i64)) a, .slc 63 (.pair (.int .i64) (.int .i64)) b] => f48 k a b | _ => none, false⟩
noncomputable def env79 : List (FuncId × Spec) := (48, s48) :: env78
noncomputable abbrev x48 := exec ti (envOf env78) 27 h48 (finT ti true Go.Proofs.Try.f48.results.toList [(.bool, false)] (.bool))
noncomputable def k48_1004 : List It := stackAt [.r, .r, .l, .r, .b, .lb none] (bodyOf Go.Proofs.Try.f48) []
def t48_1004 (a : List (Int × Int)) (b : List (Int × Int)) (i : Int) : St := [(0, Cell.val (AVal.slc 63 (Ty.pair (Ty.int IntKind.i64) (Ty.int IntKind.i64)) a)), (2, Cell.val (AVal.slc 63 (Ty.pair (Ty.int IntKind.i64) (Ty.int IntKind.i64)) b)), (10, Cell.val (AVal.int IntKind.i64 i))]
theorem e48_1004 (k : Nat) (a : List (Int × Int)) (b : List (Int × Int)) (i : Int) : x48 (k + 1) k48_1004 (t48_1004 a b i) = F48_1004 k (fun (a : List (Int × Int)) (b : List (Int × Int)) (i : Int) => x48 k k48_1004 (t48_1004 a b i)) a b i := by kernel_rfl
theorem q48 : ∀ k : Nat, (fun (a : List (Int × Int)) (b : List (Int × Int)) (i : Int) => x48 k k48_1004 (t48_1004 a b i)) = l48 k
  | 0 => rfl
  | k + 1 => by
    have h := q48 k
    show _ = F48_1004 k (l48 k)
    rw [← h]
    exact (funext fun a => funext fun b => funext fun i => e48_1004 k a b i)
theorem w48 (k : Nat) (a : List (Int × Int)) (b : List (Int × Int)) : runFn ti (envOf env78) 27 h48 (finT ti true Go.Proofs.Try.f48.results.toList [(.bool, false)] (.bool)) k (bodyOf Go.Proofs.Try.f48) (initS 0 [.slc 63 (.pair (.int .i64) (.int .i64)) a, .slc 63 (.pair (.int .i64) (.int .i64)) b]) = F48 k (fun (a : List (Int × Int)) (b : List (Int × Int)) (i : Int) => x48 k k48_1004 (t48_1004 a b i)) a b := by kernel_rfl
theorem v48 (k : Nat) (a : List (Int × Int)) (b : List (Int × Int)) : runFn ti (envOf env78) 27 h48 (finT ti true Go.Proofs.Try.f48.results.toList [(.bool, false)] (.bool)) k (bodyOf Go.Proofs.Try.f48) (initS 0 [.slc 63 (.pair (.int .i64) (.int .i64)) a, .slc 63 (.pair (.int .i64) (.int .i64)) b]) = f48 k a b := by
  rw [w48]
  have h := q48 k
  unfold f48
  rw [← h]
theorem m48 : Meets Go.Proofs.Try.prog 48 s48 := meets_of_run tiOk env78_ok mo Go.Proofs.Try.func48 (body := bodyOf Go.Proofs.Try.f48) (by kernel_rfl) (N := 27) (by kernel_rfl) (hs := h48) (by
  intro k xs r h
  unfold s48 at h
  dsimp only at h
  split at h
  · exact ⟨Nat.le_of_ble_eq_true rfl, (v48 k _ _).trans h⟩
  · cases h)
theorem env79_ok : EnvOk Go.Proofs.Try.prog (envOf env79) := envOf_cons m48 Go.Proofs.Try.func48 (by kernel_rfl) (by kernel_rfl) env78_ok

-- laws.intactNodeS
noncomputable def f17 (k : Nat) (x : List (Int × Int)) (x_n : Nat) (y : List (Int × Int)) (y_n : Nat) : Option (Bool) :=
  (f39 k (↑y_n : Int)).bind fun r0 =>
  bif decide ((↑x_n : Int) = (↑y_n : Int)) then
    bif boundE (IntKind.wrap IntKind.i64 ((↑y_n : Int) + r0)) (List.length x) then
      bif decide (0 ≤ 0) && decide (0 ≤ IntKind.wrap IntKind.i64 ((↑y_n : Int) + r0)) then
        bif boundE (IntKind.wrap IntKind.i64 ((↑y_n : Int) + r0)) (List.length y) then
          bif decide (0 ≤ 0) && decide (0 ≤ IntKind.wrap IntKind.i64 ((↑y_n : Int) + r0)) then
            (f48 k (List.drop (Int.toNat 0) (List.take (Int.toNat (IntKind.wrap IntKind.i64 ((↑y_n : Int) + r0))) x)) (List.drop (Int.toNat 0) (List.take (Int.toNat (IntKind.wrap IntKind.i64 ((↑y_n : Int) + r0))) y))).bind fun r1 =>
            some r1
          else
            none
        else
          none
      else
        none
    else
      none
  else
    some false
noncomputable def s17 : Spec := ⟨true, [(.bool, false)], true, .bool, fun k xs => match xs with | [.vslc 63 (.pair (.int .i64) (.int .i64)) x x_n, .vslc 63 (.pair (.int .i64) (.int .i64)) y y_n] => f17 k x x_n y y_n | _ => none, false⟩
noncomputable def env80 : List (FuncId × Spec) := (17, s17) :: env79
theorem v17 (k : Nat) (x : List (Int × Int)) (x_n : Nat) (y : List (Int × Int)) (y_n : Nat) : runFn tiV (envOf env79) 26 [] (finT tiV true Go.Proofs.Try.f17.results.toList [(.bool, false)] (.bool)) k (bodyOf Go.Proofs.Try.f17) (initS 0 [.vslc 63 (.pair (.int .i64) (.int .i64)) x x_n, .vslc 63 (.pair (.int .i64) (.int .i64)) y y_n]) = f17 k x x_n y y_n := by kernel_rfl
theorem m17 : Meets Go.Proofs.Try.prog 17 s17 := meets_of_run tiVOk env79_ok mo Go.Proofs.Try.func17 (body := bodyOf Go.Proofs.Try.f17) (by kernel_rfl) (N := 26) (by kernel_rfl) (hs := []) (by
  intro k xs r h
  unfold s17 at h
  dsimp only at h
  split at h
  · exact ⟨Nat.le_of_ble_eq_true rfl, (v17 k _ _ _ _).trans h⟩
  · cases h)
theorem env80_ok : EnvOk Go.Proofs.Try.prog (envOf env80) := envOf_cons m17 Go.Proofs.Try.func17 (by kernel_rfl) (by kernel_rfl) env79_ok

-- laws.eqDyadic
noncomputable def f62 (k : Nat) (a_N : Int) (a_K : Int) (b_N : Int) (b_K : Int) : Option (Bool) :=
  bif !decide (a_N = b_N) then
    some false
  else
    bif !decide (a_K = b_K) then
      some false
    else
      some true
noncomputable def s62 : Spec := ⟨false, [(.bool, false)], true, .bool, fun k xs => match xs with | [.agg [.int .i64 a_N, .int .i64 a_K], .agg [.int .i64 b_N, .int .i64 b_K]] => f62 k a_N a_K b_N b_K | _ => none, false⟩
noncomputable def env81 : List (FuncId × Spec) := (62, s62) :: env80
theorem v62 (k : Nat) (a_N : Int) (a_K : Int) (b_N : Int) (b_K : Int) : runFn ti (envOf env80) 15 [] (finT ti true Go.Proofs.Try.f62.results.toList [(.bool, false)] (.bool)) k (bodyOf Go.Proofs.Try.f62) (initS 0 [.agg [.int .i64 a_N, .int .i64 a_K], .agg [.int .i64 b_N, .int .i64 b_K]]) = f62 k a_N a_K b_N b_K := by kernel_rfl
theorem m62 : Meets Go.Proofs.Try.prog 62 s62 := meets_of_run tiOk env80_ok mo Go.Proofs.Try.func62 (body := bodyOf Go.Proofs.Try.f62) (by kernel_rfl) (N := 15) (by kernel_rfl) (hs := []) (by
  intro k xs r h
  unfold s62 at h
  dsimp only at h
  split at h
  · exact ⟨Nat.le_of_ble_eq_true rfl, (v62 k _ _ _ _).trans h⟩
  · cases h)
theorem env81_ok : EnvOk Go.Proofs.Try.prog (envOf env81) := envOf_cons m62 Go.Proofs.Try.func62 (by kernel_rfl) (by kernel_rfl) env80_ok

-- laws.eqDyadicS
def h29 : Hints := [(1004, .lab [(0, .one (.frz 68 (Ty.pair (Ty.int IntKind.i64) (Ty.int IntKind.i64)))), (1, .one (.frz 68 (Ty.pair (Ty.int IntKind.i64) (Ty.int IntKind.i64)))), (5, .one (.v))])]
noncomputable def F29_1004 (k : Nat) (rec1004 : List (Int × Int) → List (Int × Int) → Int → Option (Bool)) (a : List (Int × Int)) (b : List (Int × Int)) (i : Int) : Option (Bool) :=
  bif decide (i < (↑(List.length a) : Int)) then
    bif boundA i (List.length a) then
      bif boundA i (List.length b) then
        (f62 k (List.getD a (Int.toNat i) (0, 0)).fst (List.getD a (Int.toNat i) (0, 0)).snd (List.getD b (Int.toNat i) (0, 0)).fst (List.getD b (Int.toNat i) (0, 0)).snd).bind fun r0 =>
        bif !r0 then
          some false
        else
          rec1004 a b (IntKind.wrap IntKind.i64 (i + 1))
      else
        none
    else
      none
  else
    some true
noncomputable def F29 (k : Nat) (rec1004 : List (Int × Int) → List (Int × Int) → Int → Option (Bool)) (a : List (Int × Int)) (b : List (Int × Int)) : Option (Bool) :=
  bif !decide ((↑(List.length a) : Int) = (↑(List.length b) : Int)) then
    some false
  else
    rec1004 a b (0)
noncomputable def l29 : Nat → (List (Int × Int) → List (Int × Int) → Int → Option (Bool))
  | 0 => fun _ _ _ => none
  | k + 1 => F29_1004 k (l29 k)
noncomputable def f29 (k : Nat) (a : List (Int × Int)) (b : List (Int × Int)) : Option (Bool) := F29 k (l29 k) a b
noncomputable def s29 : Spec := ⟨false, [(.bool, false)], true, .bool, fun k xs => match xs with | [.slc 68 (.pair (.int .i64) (.int .i64)) a, .slc 68 (.pair (.int .i64) (.int .i64)) b] => f29 k a b | _ => none, false⟩
noncomputable def env82 : List (FuncId × Spec) := (29, s29) :: env81
noncomputable abbrev x29 := exec ti (envOf env81) 27 h29 (finT ti true Go.Proofs.Try.f29.results.toList [(.bool, false)] (.bool))
noncomputable def k29_1004 : List It := stackAt [.r, .r, .l, .r, .b, .lb none] (bodyOf Go.Proofs.Try.f29) []
def t29_1004 (a : List (Int × Int)) (b : List (Int × Int)) (i : Int) : St := [(0, Cell.val (AVal.slc 68 (Ty.pair (Ty.int IntKind.i64) (Ty.int IntKind.i64)) a)), (2, Cell.val (AVal.slc 68 (Ty.pair (Ty.int IntKind.i64) (Ty.int IntKind.i64)) b)), (10, Cell.val (AVal.int IntKind.i64 i))]
theorem e29_1004 (k : Nat) (a : List (Int × Int)) (b : List (Int × Int)) (i : Int) : x29 (k + 1) k29_1004 (t29_1004 a b i) = F29_1004 k (fun (a : List (Int × Int)) (b : List (Int × Int)) (i : Int) => x29 k k29_1004 (t29_1004 a b i)) a b i := by kernel_rfl
theorem q29 : ∀ k : Nat, (fun (a : List (Int × Int)) (b : List (Int × Int)) (i : Int) => x29 k k29_1004 (t29_1004 a b i)) = l29 k
  | 0 => rfl
  | k + 1 => by
    have h := q29 k
    show _ = F29_1004 k (l29 k)
    rw [← h]
    exact (funext fun a => funext fun b => funext fun i => e29_1004 k a b i)
theorem w29 (k : Nat) (a : List (Int × Int)) (b : List (Int × Int)) : runFn ti (envOf env81) 27 h29 (finT ti true Go.Proofs.Try.f29.results.toList [(.bool, false)] (.bool)) k (bodyOf Go.Proofs.Try.f29) (initS 0 [.slc 68 (.pair (.int .i64) (.int .i64)) a, .slc 68 (.pair (.int .i64) (.int .i64)) b]) = F29 k (fun (a : List (Int × Int)) (b : List (Int × Int)) (i : Int) => x29 k k29_1004 (t29_1004 a b i)) a b := by kernel_rfl
theorem v29 (k : Nat) (a : List (Int × Int)) (b : List (Int × Int)) : runFn ti (envOf env81) 27 h29 (finT ti true Go.Proofs.Try.f29.results.toList [(.bool, false)] (.bool)) k (bodyOf Go.Proofs.Try.f29) (initS 0 [.slc 68 (.pair (.int .i64) (.int .i64)) a, .slc 68 (.pair (.int .i64) (.int .i64)) b]) = f29 k a b := by
  rw [w29]
  have h := q29 k
  unfold f29
  rw [← h]
theorem m29 : Meets Go.Proofs.Try.prog 29 s29 := meets_of_run tiOk env81_ok mo Go.Proofs.Try.func29 (body := bodyOf Go.Proofs.Try.f29) (by kernel_rfl) (N := 27) (by kernel_rfl) (hs := h29) (by
  intro k xs r h
  unfold s29 at h
  dsimp only at h
  split at h
  · exact ⟨Nat.le_of_ble_eq_true rfl, (v29 k _ _).trans h⟩
  · cases h)
theorem env82_ok : EnvOk Go.Proofs.Try.prog (envOf env82) := envOf_cons m29 Go.Proofs.Try.func29 (by kernel_rfl) (by kernel_rfl) env81_ok

-- laws.intactDyadicS
noncomputable def f18 (k : Nat) (x : List (Int × Int)) (x_n : Nat) (y : List (Int × Int)) (y_n : Nat) : Option (Bool) :=
  (f39 k (↑y_n : Int)).bind fun r0 =>
  bif decide ((↑x_n : Int) = (↑y_n : Int)) then
    bif boundE (IntKind.wrap IntKind.i64 ((↑y_n : Int) + r0)) (List.length x) then
      bif decide (0 ≤ 0) && decide (0 ≤ IntKind.wrap IntKind.i64 ((↑y_n : Int) + r0)) then
        bif boundE (IntKind.wrap IntKind.i64 ((↑y_n : Int) + r0)) (List.length y) then
          bif decide (0 ≤ 0) && decide (0 ≤ IntKind.wrap IntKind.i64 ((↑y_n : Int) + r0)) then
            (f29 k (List.drop (Int.toNat 0) (List.take (Int.toNat (IntKind.wrap IntKind.i64 ((↑y_n : Int) + r0))) x)) (List.drop (Int.toNat 0) (List.take (Int.toNat (IntKind.wrap IntKind.i64 ((↑y_n : Int) + r0))) y))).bind fun r1 =>
            some r1
          else
            none
        else
          none
      else
        none
    else
      none
  else
    some false
noncomputable def s18 : Spec := ⟨true, [(.bool, false)], true, .bool, fun k xs => match xs with | [.vslc 68 (.pair (.int .i64) (.int .i64)) x x_n, .vslc 68 (.pair (.int .i64) (.int .i64)) y y_n] => f18 k x x_n y y_n | _ => none, false⟩
noncomputable def env83 : List (FuncId × Spec) := (18, s18) :: env82
theorem v18 (k : Nat) (x : List (Int × Int)) (x_n : Nat) (y : List (Int × Int)) (y_n : Nat) : runFn tiV (envOf env82) 26 [] (finT tiV true Go.Proofs.Try.f18.results.toList [(.bool, false)] (.bool)) k (bodyOf Go.Proofs.Try.f18) (initS 0 [.vslc 68 (.pair (.int .i64) (.int .i64)) x x_n, .vslc 68 (.pair (.int .i64) (.int .i64)) y y_n]) = f18 k x x_n y y_n := by kernel_rfl
theorem m18 : Meets Go.Proofs.Try.prog 18 s18 := meets_of_run tiVOk env82_ok mo Go.Proofs.Try.func18 (body := bodyOf Go.Proofs.Try.f18) (by kernel_rfl) (N := 26) (by kernel_rfl) (hs := []) (by
  intro k xs r h
  unfold s18 at h
  dsimp only at h
  split at h
  · exact ⟨Nat.le_of_ble_eq_true rfl, (v18 k _ _ _ _).trans h⟩
  · cases h)
theorem env83_ok : EnvOk Go.Proofs.Try.prog (envOf env83) := envOf_cons m18 Go.Proofs.Try.func18 (by kernel_rfl) (by kernel_rfl) env82_ok

-- laws.FnExactLeafAt
noncomputable def f3 (k : Nat) (L_K : Int) (L_Low : List (Int)) (L_High : List (Int)) (i : List (Int × Int)) (s : List (Int × Int)) : Option (Bool) :=
  (f8 k L_K L_Low L_High 1000000).bind fun r0 =>
  bif decide (r0 < 0) then
    some true
  else
    (f9 k i r0).bind fun r1 =>
    bif decide (r1 < 0) then
      some true
    else
      (f10 k s r1).bind fun r2 =>
      bif decide (r2 < 0) then
        some true
      else
        (f12 k L_K L_Low L_High false).bind fun r3 =>
        (f13 k i false).bind fun r4 =>
        (f14 k s false).bind fun r5 =>
        (f11 k r3.fst (List.take r3.snd.fst.snd r3.snd.fst.fst) (List.take r3.snd.snd.snd r3.snd.snd.fst) (List.take r4.snd r4.fst) (List.take r5.snd r5.fst)).bind fun r6 =>
        (f12 k L_K L_Low L_High false).bind fun r7 =>
        (f13 k i false).bind fun r8 =>
        (f14 k s false).bind fun r9 =>
        (f15 k r7.fst (List.take r7.snd.fst.snd r7.snd.fst.fst) (List.take r7.snd.snd.snd r7.snd.snd.fst) (List.take r8.snd r8.fst) (List.take r9.snd r9.fst)).bind fun r10 =>
        bif !decide (r10.fst = r6.fst) then
          some false
        else
          bif !r10.snd == r6.snd then
            some false
          else
            (f12 k L_K L_Low L_High false).bind fun r11 =>
            (f16 k r7.fst r7.snd.fst.fst r7.snd.fst.snd r7.snd.snd.fst r7.snd.snd.snd r11.fst r11.snd.fst.fst r11.snd.fst.snd r11.snd.snd.fst r11.snd.snd.snd).bind fun r12 =>
            bif !r12 then
              some false
            else
              (f13 k i false).bind fun r13 =>
              (f17 k r8.fst r8.snd r13.fst r13.snd).bind fun r14 =>
              bif !r14 then
                some false
              else
                (f14 k s false).bind fun r15 =>
                (f18 k r9.fst r9.snd r15.fst r15.snd).bind fun r16 =>
                bif !r16 then
                  some false
                else
                  (f12 k L_K L_Low L_High true).bind fun r17 =>
                  (f13 k i true).bind fun r18 =>
                  (f14 k s true).bind fun r19 =>
                  (f15 k r17.fst (List.take r17.snd.fst.snd r17.snd.fst.fst) (List.take r17.snd.snd.snd r17.snd.snd.fst) (List.take r18.snd r18.fst) (List.take r19.snd r19.fst)).bind fun r20 =>
                  bif !decide (r20.fst = r6.fst) then
                    some false
                  else
                    bif !r20.snd == r6.snd then
                      some false
                    else
                      some true
noncomputable def s3 : Spec := ⟨false, [(.bool, false)], true, .bool, fun k xs => match xs with | [.agg [.int .i64 L_K, .slc 3 (.int .i64) L_Low, .slc 3 (.int .i64) L_High], .slc 65 (.pair (.int .i64) (.int .i64)) i, .slc 70 (.pair (.int .i64) (.int .i64)) s] => f3 k L_K L_Low L_High i s | _ => none, false⟩
noncomputable def env84 : List (FuncId × Spec) := (3, s3) :: env83
theorem v3 (k : Nat) (L_K : Int) (L_Low : List (Int)) (L_High : List (Int)) (i : List (Int × Int)) (s : List (Int × Int)) : runFn tiV (envOf env83) 96 [] (finT tiV true Go.Proofs.Try.f3.results.toList [(.bool, false)] (.bool)) k (bodyOf Go.Proofs.Try.f3) (initS 0 [.agg [.int .i64 L_K, .slc 3 (.int .i64) L_Low, .slc 3 (.int .i64) L_High], .slc 65 (.pair (.int .i64) (.int .i64)) i, .slc 70 (.pair (.int .i64) (.int .i64)) s]) = f3 k L_K L_Low L_High i s := by kernel_rfl
theorem m3 : Meets Go.Proofs.Try.prog 3 s3 := meets_of_run tiVOk env83_ok mo Go.Proofs.Try.func3 (body := bodyOf Go.Proofs.Try.f3) (by kernel_rfl) (N := 96) (by kernel_rfl) (hs := []) (by
  intro k xs r h
  unfold s3 at h
  dsimp only at h
  split at h
  · exact ⟨Nat.le_of_ble_eq_true rfl, (v3 k _ _ _ _ _).trans h⟩
  · cases h)
theorem env84_ok : EnvOk Go.Proofs.Try.prog (envOf env84) := envOf_cons m3 Go.Proofs.Try.func3 (by kernel_rfl) (by kernel_rfl) env83_ok

end Go.Proofs.YtkahcjnkmbbplaaE
