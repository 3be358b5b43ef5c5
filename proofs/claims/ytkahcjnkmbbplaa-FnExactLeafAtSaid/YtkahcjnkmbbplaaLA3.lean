/- Functions, by the engine; printed. -/
import Derived.Test.YtkahcjnkmbbplaaLA2
set_option maxRecDepth 100000
set_option maxHeartbeats 4000000
set_option linter.unusedVariables false
namespace Go.Proofs.YtkahcjnkmbbplaaE
-- spec.bxNumber
noncomputable def f71 (k : Nat) (n : Int) (k_ : Int) : Option (Int × Int) :=
  (f103 k n k_).bind fun r0 =>
  some ((r0.fst.fst, r0.fst.snd))
noncomputable def s71 : Spec := ⟨false, [(.pair (.int .i64) (.int .i64), true)], true, .pair (.int .i64) (.int .i64), fun k xs => match xs with | [.int .i64 n, .int .i64 k_] => f71 k n k_ | _ => none, false⟩
noncomputable def env25 : List (FuncId × Spec) := (71, s71) :: env24
theorem v71 (k : Nat) (n : Int) (k_ : Int) : runFn ti (envOf env24) 14 [] (finT ti true Go.Proofs.Try.f71.results.toList [(.pair (.int .i64) (.int .i64), true)] (.pair (.int .i64) (.int .i64))) k (bodyOf Go.Proofs.Try.f71) (initS 0 [.int .i64 n, .int .i64 k_]) = f71 k n k_ := by kernel_rfl
theorem m71 : Meets Go.Proofs.Try.prog 71 s71 := meets_of_run tiOk env24_ok mo Go.Proofs.Try.func71 (body := bodyOf Go.Proofs.Try.f71) (by kernel_rfl) (N := 14) (by kernel_rfl) (hs := []) (by
  intro k xs r h
  unfold s71 at h
  dsimp only at h
  split at h
  · exact ⟨Nat.le_of_ble_eq_true rfl, (v71 k _ _).trans h⟩
  · cases h)
theorem env25_ok : EnvOk Go.Proofs.Try.prog (envOf env25) := envOf_cons m71 Go.Proofs.Try.func71 (by kernel_rfl) (by kernel_rfl) env24_ok

-- spec.bxHas
def h37 : Hints := [(1002, .lab [(2, .box 32 [.v, .frz 3 (Ty.int IntKind.i64), .frz 3 (Ty.int IntKind.i64)]), (7, .one (.frz 68 (Ty.pair (Ty.int IntKind.i64) (Ty.int IntKind.i64)))), (8, .one (.v)), (9, .one (.v))])]
noncomputable def F37_1002 (k : Nat) (rec1002 : Int → List Int → List Int → List (Int × Int) → Int → Int → Option (Bool)) (bs_0 : Int) (bs_1 : List Int) (bs_2 : List Int) (t7 : List (Int × Int)) (t8 : Int) (t9 : Int) : Option (Bool) :=
  bif decide (t9 < t8) then
    bif boundA t9 (List.length t7) then
      bif boundA t9 (List.length bs_1) then
        (f71 k (List.getD bs_1 (Int.toNat t9) 0) bs_0).bind fun r0 =>
        (f49 k r0.fst r0.snd (List.getD t7 (Int.toNat t9) (0, 0)).fst (List.getD t7 (Int.toNat t9) (0, 0)).snd).bind fun r1 =>
        bif decide (0 < r1) then
          some false
        else
          bif boundA t9 (List.length bs_2) then
            (f71 k (List.getD bs_2 (Int.toNat t9) 0) bs_0).bind fun r2 =>
            (f49 k (List.getD t7 (Int.toNat t9) (0, 0)).fst (List.getD t7 (Int.toNat t9) (0, 0)).snd r2.fst r2.snd).bind fun r3 =>
            bif decide (0 < r3) then
              some false
            else
              rec1002 bs_0 bs_1 bs_2 t7 t8 (IntKind.wrap IntKind.i64 (t9 + 1))
          else
            none
      else
        none
    else
      none
  else
    some true
noncomputable def F37 (k : Nat) (rec1002 : Int → List Int → List Int → List (Int × Int) → Int → Int → Option (Bool)) (b_K : Int) (b_Low : List (Int)) (b_High : List (Int)) (point : List (Int × Int)) : Option (Bool) :=
  rec1002 b_K b_Low b_High point ((↑(List.length point) : Int)) (0)
noncomputable def l37 : Nat → (Int → List Int → List Int → List (Int × Int) → Int → Int → Option (Bool))
  | 0 => fun _ _ _ _ _ _ => none
  | k + 1 => F37_1002 k (l37 k)
noncomputable def f37 (k : Nat) (b_K : Int) (b_Low : List (Int)) (b_High : List (Int)) (point : List (Int × Int)) : Option (Bool) := F37 k (l37 k) b_K b_Low b_High point
noncomputable def s37 : Spec := ⟨false, [(.bool, false)], true, .bool, fun k xs => match xs with | [.agg [.int .i64 b_K, .slc 3 (.int .i64) b_Low, .slc 3 (.int .i64) b_High], .slc 68 (.pair (.int .i64) (.int .i64)) point] => f37 k b_K b_Low b_High point | _ => none, false⟩
noncomputable def env26 : List (FuncId × Spec) := (37, s37) :: env25
noncomputable abbrev x37 := exec ti (envOf env25) 39 h37 (finT ti true Go.Proofs.Try.f37.results.toList [(.bool, false)] (.bool))
noncomputable def k37_1002 : List It := stackAt [.r, .l, .r, .b, .lb none] (bodyOf Go.Proofs.Try.f37) []
def t37_1002 (bs_0 : Int) (bs_1 : List Int) (bs_2 : List Int) (t7 : List (Int × Int)) (t8 : Int) (t9 : Int) : St := [(4, Cell.val (AVal.ptr 3 0)), (3, Cell.mem true 32 [AVal.int IntKind.i64 bs_0, AVal.slc 3 (Ty.int IntKind.i64) bs_1, AVal.slc 3 (Ty.int IntKind.i64) bs_2]), (14, Cell.val (AVal.slc 68 (Ty.pair (Ty.int IntKind.i64) (Ty.int IntKind.i64)) t7)), (16, Cell.val (AVal.int IntKind.i64 t8)), (18, Cell.val (AVal.int IntKind.i64 t9))]
theorem e37_1002 (k : Nat) (bs_0 : Int) (bs_1 : List Int) (bs_2 : List Int) (t7 : List (Int × Int)) (t8 : Int) (t9 : Int) : x37 (k + 1) k37_1002 (t37_1002 bs_0 bs_1 bs_2 t7 t8 t9) = F37_1002 k (fun (bs_0 : Int) (bs_1 : List Int) (bs_2 : List Int) (t7 : List (Int × Int)) (t8 : Int) (t9 : Int) => x37 k k37_1002 (t37_1002 bs_0 bs_1 bs_2 t7 t8 t9)) bs_0 bs_1 bs_2 t7 t8 t9 := by kernel_rfl
theorem q37 : ∀ k : Nat, (fun (bs_0 : Int) (bs_1 : List Int) (bs_2 : List Int) (t7 : List (Int × Int)) (t8 : Int) (t9 : Int) => x37 k k37_1002 (t37_1002 bs_0 bs_1 bs_2 t7 t8 t9)) = l37 k
  | 0 => rfl
  | k + 1 => by
    have h := q37 k
    show _ = F37_1002 k (l37 k)
    rw [← h]
    exact (funext fun bs_0 => funext fun bs_1 => funext fun bs_2 => funext fun t7 => funext fun t8 => funext fun t9 => e37_1002 k bs_0 bs_1 bs_2 t7 t8 t9)
theorem w37 (k : Nat) (b_K : Int) (b_Low : List (Int)) (b_High : List (Int)) (point : List (Int × Int)) : runFn ti (envOf env25) 39 h37 (finT ti true Go.Proofs.Try.f37.results.toList [(.bool, false)] (.bool)) k (bodyOf Go.Proofs.Try.f37) (initS 0 [.agg [.int .i64 b_K, .slc 3 (.int .i64) b_Low, .slc 3 (.int .i64) b_High], .slc 68 (.pair (.int .i64) (.int .i64)) point]) = F37 k (fun (bs_0 : Int) (bs_1 : List Int) (bs_2 : List Int) (t7 : List (Int × Int)) (t8 : Int) (t9 : Int) => x37 k k37_1002 (t37_1002 bs_0 bs_1 bs_2 t7 t8 t9)) b_K b_Low b_High point := by kernel_rfl
theorem v37 (k : Nat) (b_K : Int) (b_Low : List (Int)) (b_High : List (Int)) (point : List (Int × Int)) : runFn ti (envOf env25) 39 h37 (finT ti true Go.Proofs.Try.f37.results.toList [(.bool, false)] (.bool)) k (bodyOf Go.Proofs.Try.f37) (initS 0 [.agg [.int .i64 b_K, .slc 3 (.int .i64) b_Low, .slc 3 (.int .i64) b_High], .slc 68 (.pair (.int .i64) (.int .i64)) point]) = f37 k b_K b_Low b_High point := by
  rw [w37]
  have h := q37 k
  unfold f37
  rw [← h]
theorem m37 : Meets Go.Proofs.Try.prog 37 s37 := meets_of_run tiOk env25_ok mo Go.Proofs.Try.func37 (body := bodyOf Go.Proofs.Try.f37) (by kernel_rfl) (N := 39) (by kernel_rfl) (hs := h37) (by
  intro k xs r h
  unfold s37 at h
  dsimp only at h
  split at h
  · exact ⟨Nat.le_of_ble_eq_true rfl, (v37 k _ _ _ _).trans h⟩
  · cases h)
theorem env26_ok : EnvOk Go.Proofs.Try.prog (envOf env26) := envOf_cons m37 Go.Proofs.Try.func37 (by kernel_rfl) (by kernel_rfl) env25_ok

-- spec.LeafAt
def h11 : Hints := [(1005, .lab [(2, .one (.frz 68 (Ty.pair (Ty.int IntKind.i64) (Ty.int IntKind.i64)))), (28, .one (.own 32 (Ty.pair (Ty.int IntKind.i64) (Ty.pair (Ty.slice 3 (Ty.int IntKind.i64)) (Ty.slice 3 (Ty.int IntKind.i64)))))), (29, .one (.v)), (30, .one (.v))])]
noncomputable def F11_1005 (k : Nat) (rec1005 : List (Int × Int) → List (Int × List Int × List Int) → Int → Int → Option (Int × Bool)) (point : List (Int × Int)) (t28s : List (Int × List Int × List Int)) (t29 : Int) (t30 : Int) : Option (Int × Bool) :=
  bif decide (t30 < t29) then
    bif boundA t30 (List.length t28s) then
      bif Nat.blt (Int.toNat t30) (List.length t28s) then
        (f37 k (List.getD t28s (Int.toNat t30) (0, [], [])).fst (List.getD t28s (Int.toNat t30) (0, [], [])).snd.fst (List.getD t28s (Int.toNat t30) (0, [], [])).snd.snd point).bind fun r0 =>
        bif r0 then
          some ((t30, true))
        else
          rec1005 point t28s t29 (IntKind.wrap IntKind.i64 (t30 + 1))
      else
        none
    else
      none
  else
    some ((0, false))
noncomputable def F11 (k : Nat) (rec1005 : List (Int × Int) → List (Int × List Int × List Int) → Int → Int → Option (Int × Bool)) (b_K : Int) (b_Low : List (Int)) (b_High : List (Int)) (l : List (Int × Int)) (point : List (Int × Int)) : Option (Int × Bool) :=
  (f35 k b_K b_Low b_High l).bind fun r0 =>
  bif !r0.snd then
    some ((0, false))
  else
    (f36 k point (↑(List.length b_Low) : Int)).bind fun r1 =>
    bif !r1 then
      some ((0, false))
    else
      rec1005 point (r0.fst) ((↑(List.length r0.fst) : Int)) (0)
noncomputable def l11 : Nat → (List (Int × Int) → List (Int × List Int × List Int) → Int → Int → Option (Int × Bool))
  | 0 => fun _ _ _ _ => none
  | k + 1 => F11_1005 k (l11 k)
noncomputable def f11 (k : Nat) (b_K : Int) (b_Low : List (Int)) (b_High : List (Int)) (l : List (Int × Int)) (point : List (Int × Int)) : Option (Int × Bool) := F11 k (l11 k) b_K b_Low b_High l point
noncomputable def s11 : Spec := ⟨false, [(.int .i64, false), (.bool, false)], true, .pair (.int .i64) (.bool), fun k xs => match xs with | [.agg [.int .i64 b_K, .slc 3 (.int .i64) b_Low, .slc 3 (.int .i64) b_High], .slc 63 (.pair (.int .i64) (.int .i64)) l, .slc 68 (.pair (.int .i64) (.int .i64)) point] => f11 k b_K b_Low b_High l point | _ => none, false⟩
noncomputable def env27 : List (FuncId × Spec) := (11, s11) :: env26
noncomputable abbrev x11 := exec ti (envOf env26) 40 h11 (finT ti true Go.Proofs.Try.f11.results.toList [(.int .i64, false), (.bool, false)] (.pair (.int .i64) (.bool)))
noncomputable def k11_1005 : List It := stackAt [.r, .r, .r, .l, .r, .b, .lb none] (bodyOf Go.Proofs.Try.f11) []
def t11_1005 (point : List (Int × Int)) (t28s : List (Int × List Int × List Int)) (t29 : Int) (t30 : Int) : St := [(4, Cell.val (AVal.slc 68 (Ty.pair (Ty.int IntKind.i64) (Ty.int IntKind.i64)) point)), (56, Cell.val (AVal.ref 3 none)), (3, Cell.row true 32 (Ty.pair (Ty.int IntKind.i64) (Ty.pair (Ty.slice 3 (Ty.int IntKind.i64)) (Ty.slice 3 (Ty.int IntKind.i64)))) t28s), (58, Cell.val (AVal.int IntKind.i64 t29)), (60, Cell.val (AVal.int IntKind.i64 t30))]
theorem e11_1005 (k : Nat) (point : List (Int × Int)) (t28s : List (Int × List Int × List Int)) (t29 : Int) (t30 : Int) : x11 (k + 1) k11_1005 (t11_1005 point t28s t29 t30) = F11_1005 k (fun (point : List (Int × Int)) (t28s : List (Int × List Int × List Int)) (t29 : Int) (t30 : Int) => x11 k k11_1005 (t11_1005 point t28s t29 t30)) point t28s t29 t30 := by kernel_rfl
theorem q11 : ∀ k : Nat, (fun (point : List (Int × Int)) (t28s : List (Int × List Int × List Int)) (t29 : Int) (t30 : Int) => x11 k k11_1005 (t11_1005 point t28s t29 t30)) = l11 k
  | 0 => rfl
  | k + 1 => by
    have h := q11 k
    show _ = F11_1005 k (l11 k)
    rw [← h]
    exact (funext fun point => funext fun t28s => funext fun t29 => funext fun t30 => e11_1005 k point t28s t29 t30)
theorem w11 (k : Nat) (b_K : Int) (b_Low : List (Int)) (b_High : List (Int)) (l : List (Int × Int)) (point : List (Int × Int)) : runFn ti (envOf env26) 40 h11 (finT ti true Go.Proofs.Try.f11.results.toList [(.int .i64, false), (.bool, false)] (.pair (.int .i64) (.bool))) k (bodyOf Go.Proofs.Try.f11) (initS 0 [.agg [.int .i64 b_K, .slc 3 (.int .i64) b_Low, .slc 3 (.int .i64) b_High], .slc 63 (.pair (.int .i64) (.int .i64)) l, .slc 68 (.pair (.int .i64) (.int .i64)) point]) = F11 k (fun (point : List (Int × Int)) (t28s : List (Int × List Int × List Int)) (t29 : Int) (t30 : Int) => x11 k k11_1005 (t11_1005 point t28s t29 t30)) b_K b_Low b_High l point := by kernel_rfl
theorem v11 (k : Nat) (b_K : Int) (b_Low : List (Int)) (b_High : List (Int)) (l : List (Int × Int)) (point : List (Int × Int)) : runFn ti (envOf env26) 40 h11 (finT ti true Go.Proofs.Try.f11.results.toList [(.int .i64, false), (.bool, false)] (.pair (.int .i64) (.bool))) k (bodyOf Go.Proofs.Try.f11) (initS 0 [.agg [.int .i64 b_K, .slc 3 (.int .i64) b_Low, .slc 3 (.int .i64) b_High], .slc 63 (.pair (.int .i64) (.int .i64)) l, .slc 68 (.pair (.int .i64) (.int .i64)) point]) = f11 k b_K b_Low b_High l point := by
  rw [w11]
  have h := q11 k
  unfold f11
  rw [← h]
theorem m11 : Meets Go.Proofs.Try.prog 11 s11 := meets_of_run tiOk env26_ok mo Go.Proofs.Try.func11 (body := bodyOf Go.Proofs.Try.f11) (by kernel_rfl) (N := 40) (by kernel_rfl) (hs := h11) (by
  intro k xs r h
  unfold s11 at h
  dsimp only at h
  split at h
  · exact ⟨Nat.le_of_ble_eq_true rfl, (v11 k _ _ _ _ _).trans h⟩
  · cases h)
theorem env27_ok : EnvOk Go.Proofs.Try.prog (envOf env27) := envOf_cons m11 Go.Proofs.Try.func11 (by kernel_rfl) (by kernel_rfl) env26_ok

-- laws.roomBehind
noncomputable def f39 (k : Nat) (n : Int) : Option (Int) :=
  bif decide (Int.tmod n 6 = 5) then
    some (0)
  else
    bif decide (Int.tmod n 3 = 0) then
      some (1)
    else
      some n
noncomputable def s39 : Spec := ⟨false, [(.int .i64, false)], true, .int .i64, fun k xs => match xs with | [.int .i64 n] => f39 k n | _ => none, false⟩
noncomputable def env28 : List (FuncId × Spec) := (39, s39) :: env27
theorem v39 (k : Nat) (n : Int) : runFn ti (envOf env27) 10 [] (finT ti true Go.Proofs.Try.f39.results.toList [(.int .i64, false)] (.int .i64)) k (bodyOf Go.Proofs.Try.f39) (initS 0 [.int .i64 n]) = f39 k n := by kernel_rfl
theorem m39 : Meets Go.Proofs.Try.prog 39 s39 := meets_of_run tiOk env27_ok mo Go.Proofs.Try.func39 (body := bodyOf Go.Proofs.Try.f39) (by kernel_rfl) (N := 10) (by kernel_rfl) (hs := []) (by
  intro k xs r h
  unfold s39 at h
  dsimp only at h
  split at h
  · exact ⟨Nat.le_of_ble_eq_true rfl, (v39 k _).trans h⟩
  · cases h)
theorem env28_ok : EnvOk Go.Proofs.Try.prog (envOf env28) := envOf_cons m39 Go.Proofs.Try.func39 (by kernel_rfl) (by kernel_rfl) env27_ok

-- laws.toIntS
def h38 : Hints := [(1005, .lab [(0, .one (.frz 3 (Ty.int IntKind.i64))), (5, .one (.own 3 (Ty.int IntKind.i64))), (6, .one (.v))]), (1009, .lab [(0, .one (.frz 3 (Ty.int IntKind.i64))), (5, .one (.own 3 (Ty.int IntKind.i64))), (7, .one (.v))])]
noncomputable def F38_1005 (k : Nat) (rec1005 : List Int → List Int → Int → Option (List (Int) × Nat)) (rec1009 : List Int → List Int → Int → Option (List (Int) × Nat)) (a : List Int) (outs : List Int) (i : Int) : Option (List (Int) × Nat) :=
  bif decide (i < (↑(List.length a) : Int)) then
    bif boundA i (List.length a) then
      bif boundA i (List.length outs) then
        bif Nat.blt (Int.toNat i) (List.length outs) then
          rec1005 a (List.set outs (Int.toNat i) (List.getD a (Int.toNat i) 0)) (IntKind.wrap IntKind.i64 (i + 1))
        else
          none
      else
        none
    else
      none
  else
    rec1009 a outs ((↑(List.length a) : Int))
noncomputable def F38_1009 (k : Nat) (rec1005 : List Int → List Int → Int → Option (List (Int) × Nat)) (rec1009 : List Int → List Int → Int → Option (List (Int) × Nat)) (a : List Int) (outs : List Int) (i : Int) : Option (List (Int) × Nat) :=
  bif decide (i < (↑(List.length outs) : Int)) then
    bif boundA i (List.length outs) then
      bif Nat.blt (Int.toNat i) (List.length outs) then
        rec1009 a (List.set outs (Int.toNat i) (-7000000000000000101)) (IntKind.wrap IntKind.i64 (i + 1))
      else
        none
    else
      none
  else
    bif boundE (↑(List.length a) : Int) (List.length outs) then
      some ((outs, Option.getD (some (Int.toNat (↑(List.length a) : Int))) (List.length outs)))
    else
      none
noncomputable def F38 (k : Nat) (rec1005 : List Int → List Int → Int → Option (List (Int) × Nat)) (rec1009 : List Int → List Int → Int → Option (List (Int) × Nat)) (a : List (Int)) (bare : Bool) : Option (List (Int) × Nat) :=
  bif bare then
    bif decide ((↑(List.length a) : Int) = 0) then
      some (([], 0))
    else
      (f39 k (↑(List.length a) : Int)).bind fun r0 =>
      bif decide (0 ≤ IntKind.wrap IntKind.i64 ((↑(List.length a) : Int) + r0)) then
        bif decide (IntKind.wrap IntKind.i64 ((↑(List.length a) : Int) + r0) ≤ IntKind.wrap IntKind.i64 ((↑(List.length a) : Int) + r0)) then
          bif decide (IntKind.wrap IntKind.i64 ((↑(List.length a) : Int) + r0) * (↑8 : Int) ≤ 140737488355328) then
            rec1005 a (List.replicate (Int.toNat (IntKind.wrap IntKind.i64 ((↑(List.length a) : Int) + r0))) (dflt (Ty.int IntKind.i64))) (0)
          else
            none
        else
          none
      else
        none
  else
    (f39 k (↑(List.length a) : Int)).bind fun r1 =>
    bif decide (0 ≤ IntKind.wrap IntKind.i64 ((↑(List.length a) : Int) + r1)) then
      bif decide (IntKind.wrap IntKind.i64 ((↑(List.length a) : Int) + r1) ≤ IntKind.wrap IntKind.i64 ((↑(List.length a) : Int) + r1)) then
        bif decide (IntKind.wrap IntKind.i64 ((↑(List.length a) : Int) + r1) * (↑8 : Int) ≤ 140737488355328) then
          rec1005 a (List.replicate (Int.toNat (IntKind.wrap IntKind.i64 ((↑(List.length a) : Int) + r1))) (dflt (Ty.int IntKind.i64))) (0)
        else
          none
      else
        none
    else
      none
noncomputable def l38 : Nat → (List Int → List Int → Int → Option (List (Int) × Nat)) × (List Int → List Int → Int → Option (List (Int) × Nat))
  | 0 => (fun _ _ _ => none, fun _ _ _ => none)
  | k + 1 => (F38_1005 k ((l38 k).1) ((l38 k).2), F38_1009 k ((l38 k).1) ((l38 k).2))
noncomputable def f38 (k : Nat) (a : List (Int)) (bare : Bool) : Option (List (Int) × Nat) := F38 k ((l38 k).1) ((l38 k).2) a bare
noncomputable def s38 : Spec := ⟨false, [(.vslice 3 (.int .i64), false)], true, .vslice 3 (.int .i64), fun k xs => match xs with | [.slc 3 (.int .i64) a, .bool bare] => f38 k a bare | _ => none, false⟩
noncomputable def env29 : List (FuncId × Spec) := (38, s38) :: env28
noncomputable abbrev x38 := exec tiV (envOf env28) 49 h38 (finT tiV true Go.Proofs.Try.f38.results.toList [(.vslice 3 (.int .i64), false)] (.vslice 3 (.int .i64)))
noncomputable def k38_1005 : List It := stackAt [.r, .r, .r, .l, .r, .b, .lb none] (bodyOf Go.Proofs.Try.f38) []
def t38_1005 (a : List Int) (outs : List Int) (i : Int) : St := [(0, Cell.val (AVal.slc 3 (Ty.int IntKind.i64) a)), (10, Cell.val (AVal.ref 3 none)), (3, Cell.row true 3 (Ty.int IntKind.i64) outs), (12, Cell.val (AVal.int IntKind.i64 i))]
noncomputable def k38_1009 : List It := stackAt [.r, .r, .r, .r, .l, .r, .b, .lb none] (bodyOf Go.Proofs.Try.f38) []
def t38_1009 (a : List Int) (outs : List Int) (i : Int) : St := [(0, Cell.val (AVal.slc 3 (Ty.int IntKind.i64) a)), (10, Cell.val (AVal.ref 3 none)), (3, Cell.row true 3 (Ty.int IntKind.i64) outs), (14, Cell.val (AVal.int IntKind.i64 i))]
theorem e38_1005 (k : Nat) (a : List Int) (outs : List Int) (i : Int) : x38 (k + 1) k38_1005 (t38_1005 a outs i) = F38_1005 k (fun (a : List Int) (outs : List Int) (i : Int) => x38 k k38_1005 (t38_1005 a outs i)) (fun (a : List Int) (outs : List Int) (i : Int) => x38 k k38_1009 (t38_1009 a outs i)) a outs i := by kernel_rfl
theorem e38_1009 (k : Nat) (a : List Int) (outs : List Int) (i : Int) : x38 (k + 1) k38_1009 (t38_1009 a outs i) = F38_1009 k (fun (a : List Int) (outs : List Int) (i : Int) => x38 k k38_1005 (t38_1005 a outs i)) (fun (a : List Int) (outs : List Int) (i : Int) => x38 k k38_1009 (t38_1009 a outs i)) a outs i := by kernel_rfl
theorem q38 : ∀ k : Nat, ((fun (a : List Int) (outs : List Int) (i : Int) => x38 k k38_1005 (t38_1005 a outs i)), (fun (a : List Int) (outs : List Int) (i : Int) => x38 k k38_1009 (t38_1009 a outs i))) = l38 k
  | 0 => rfl
  | k + 1 => by
    have h := q38 k
    show _ = (F38_1005 k ((l38 k).1) ((l38 k).2), F38_1009 k ((l38 k).1) ((l38 k).2))
    rw [← h]
    exact (Prod.ext (funext fun a => funext fun outs => funext fun i => e38_1005 k a outs i) (funext fun a => funext fun outs => funext fun i => e38_1009 k a outs i))
theorem w38 (k : Nat) (a : List (Int)) (bare : Bool) : runFn tiV (envOf env28) 49 h38 (finT tiV true Go.Proofs.Try.f38.results.toList [(.vslice 3 (.int .i64), false)] (.vslice 3 (.int .i64))) k (bodyOf Go.Proofs.Try.f38) (initS 0 [.slc 3 (.int .i64) a, .bool bare]) = F38 k (fun (a : List Int) (outs : List Int) (i : Int) => x38 k k38_1005 (t38_1005 a outs i)) (fun (a : List Int) (outs : List Int) (i : Int) => x38 k k38_1009 (t38_1009 a outs i)) a bare := by kernel_rfl
theorem v38 (k : Nat) (a : List (Int)) (bare : Bool) : runFn tiV (envOf env28) 49 h38 (finT tiV true Go.Proofs.Try.f38.results.toList [(.vslice 3 (.int .i64), false)] (.vslice 3 (.int .i64))) k (bodyOf Go.Proofs.Try.f38) (initS 0 [.slc 3 (.int .i64) a, .bool bare]) = f38 k a bare := by
  rw [w38]
  have h := q38 k
  unfold f38
  rw [← h]
theorem m38 : Meets Go.Proofs.Try.prog 38 s38 := meets_of_run tiVOk env28_ok mo Go.Proofs.Try.func38 (body := bodyOf Go.Proofs.Try.f38) (by kernel_rfl) (N := 49) (by kernel_rfl) (hs := h38) (by
  intro k xs r h
  unfold s38 at h
  dsimp only at h
  split at h
  · exact ⟨Nat.le_of_ble_eq_true rfl, (v38 k _ _).trans h⟩
  · cases h)
theorem env29_ok : EnvOk Go.Proofs.Try.prog (envOf env29) := envOf_cons m38 Go.Proofs.Try.func38 (by kernel_rfl) (by kernel_rfl) env28_ok

-- laws.toBox
noncomputable def f12 (k : Nat) (a_K : Int) (a_Low : List (Int)) (a_High : List (Int)) (bare : Bool) : Option (Int × (List (Int) × Nat) × List (Int) × Nat) :=
  (f38 k a_Low bare).bind fun r0 =>
  (f38 k a_High bare).bind fun r1 =>
  some ((a_K, (r0.fst, Option.getD (some r0.snd) (List.length r0.fst)), r1.fst, Option.getD (some r1.snd) (List.length r1.fst)))
noncomputable def s12 : Spec := ⟨false, [(.pair (.int .i64) (.pair (.vslice 3 (.int .i64)) (.vslice 3 (.int .i64))), true)], true, .pair (.int .i64) (.pair (.vslice 3 (.int .i64)) (.vslice 3 (.int .i64))), fun k xs => match xs with | [.agg [.int .i64 a_K, .slc 3 (.int .i64) a_Low, .slc 3 (.int .i64) a_High], .bool bare] => f12 k a_K a_Low a_High bare | _ => none, false⟩
noncomputable def env30 : List (FuncId × Spec) := (12, s12) :: env29
theorem v12 (k : Nat) (a_K : Int) (a_Low : List (Int)) (a_High : List (Int)) (bare : Bool) : runFn tiV (envOf env29) 20 [] (finT tiV true Go.Proofs.Try.f12.results.toList [(.pair (.int .i64) (.pair (.vslice 3 (.int .i64)) (.vslice 3 (.int .i64))), true)] (.pair (.int .i64) (.pair (.vslice 3 (.int .i64)) (.vslice 3 (.int .i64))))) k (bodyOf Go.Proofs.Try.f12) (initS 0 [.agg [.int .i64 a_K, .slc 3 (.int .i64) a_Low, .slc 3 (.int .i64) a_High], .bool bare]) = f12 k a_K a_Low a_High bare := by kernel_rfl
theorem m12 : Meets Go.Proofs.Try.prog 12 s12 := meets_of_run tiVOk env29_ok mo Go.Proofs.Try.func12 (body := bodyOf Go.Proofs.Try.f12) (by kernel_rfl) (N := 20) (by kernel_rfl) (hs := []) (by
  intro k xs r h
  unfold s12 at h
  dsimp only at h
  split at h
  · exact ⟨Nat.le_of_ble_eq_true rfl, (v12 k _ _ _ _).trans h⟩
  · cases h)
theorem env30_ok : EnvOk Go.Proofs.Try.prog (envOf env30) := envOf_cons m12 Go.Proofs.Try.func12 (by kernel_rfl) (by kernel_rfl) env29_ok

-- laws.toNode
noncomputable def f40 (k : Nat) (a_Kind : Int) (a_Number : Int) : Option (Int × Int) :=
  some ((a_Kind, a_Number))
noncomputable def s40 : Spec := ⟨false, [(.pair (.int .i64) (.int .i64), true)], true, .pair (.int .i64) (.int .i64), fun k xs => match xs with | [.agg [.int .i64 a_Kind, .int .i64 a_Number]] => f40 k a_Kind a_Number | _ => none, false⟩
noncomputable def env31 : List (FuncId × Spec) := (40, s40) :: env30
theorem v40 (k : Nat) (a_Kind : Int) (a_Number : Int) : runFn tiV (envOf env30) 11 [] (finT tiV true Go.Proofs.Try.f40.results.toList [(.pair (.int .i64) (.int .i64), true)] (.pair (.int .i64) (.int .i64))) k (bodyOf Go.Proofs.Try.f40) (initS 0 [.agg [.int .i64 a_Kind, .int .i64 a_Number]]) = f40 k a_Kind a_Number := by kernel_rfl
theorem m40 : Meets Go.Proofs.Try.prog 40 s40 := meets_of_run tiVOk env30_ok mo Go.Proofs.Try.func40 (body := bodyOf Go.Proofs.Try.f40) (by kernel_rfl) (N := 11) (by kernel_rfl) (hs := []) (by
  intro k xs r h
  unfold s40 at h
  dsimp only at h
  split at h
  · exact ⟨Nat.le_of_ble_eq_true rfl, (v40 k _ _).trans h⟩
  · cases h)
theorem env31_ok : EnvOk Go.Proofs.Try.prog (envOf env31) := envOf_cons m40 Go.Proofs.Try.func40 (by kernel_rfl) (by kernel_rfl) env30_ok

-- laws.fillerNode
noncomputable def f41 (k : Nat)  : Option (Int × Int) :=
  some ((-7000000000000000101, -7000000000000000101))
noncomputable def s41 : Spec := ⟨false, [(.pair (.int .i64) (.int .i64), true)], true, .pair (.int .i64) (.int .i64), fun k xs => match xs with | [] => f41 k  | _ => none, false⟩
noncomputable def env32 : List (FuncId × Spec) := (41, s41) :: env31
theorem v41 (k : Nat)  : runFn tiV (envOf env31) 2 [] (finT tiV true Go.Proofs.Try.f41.results.toList [(.pair (.int .i64) (.int .i64), true)] (.pair (.int .i64) (.int .i64))) k (bodyOf Go.Proofs.Try.f41) (initS 0 []) = f41 k  := by kernel_rfl
theorem m41 : Meets Go.Proofs.Try.prog 41 s41 := meets_of_run tiVOk env31_ok mo Go.Proofs.Try.func41 (body := bodyOf Go.Proofs.Try.f41) (by kernel_rfl) (N := 2) (by kernel_rfl) (hs := []) (by
  intro k xs r h
  unfold s41 at h
  dsimp only at h
  split at h
  · exact ⟨Nat.le_of_ble_eq_true rfl, (v41 k).trans h⟩
  · cases h)
theorem env32_ok : EnvOk Go.Proofs.Try.prog (envOf env32) := envOf_cons m41 Go.Proofs.Try.func41 (by kernel_rfl) (by kernel_rfl) env31_ok

-- laws.toNodeS
def h13 : Hints := [(1005, .lab [(0, .one (.frz 65 (Ty.pair (Ty.int IntKind.i64) (Ty.int IntKind.i64)))), (5, .one (.own 63 (Ty.pair (Ty.int IntKind.i64) (Ty.int IntKind.i64)))), (6, .one (.v))]), (1009, .lab [(0, .one (.frz 65 (Ty.pair (Ty.int IntKind.i64) (Ty.int IntKind.i64)))), (5, .one (.own 63 (Ty.pair (Ty.int IntKind.i64) (Ty.int IntKind.i64)))), (7, .one (.v))])]
noncomputable def F13_1005 (k : Nat) (rec1005 : List (Int × Int) → List (Int × Int) → Int → Option (List (Int × Int) × Nat)) (rec1009 : List (Int × Int) → List (Int × Int) → Int → Option (List (Int × Int) × Nat)) (a : List (Int × Int)) (outs : List (Int × Int)) (i : Int) : Option (List (Int × Int) × Nat) :=
  bif decide (i < (↑(List.length a) : Int)) then
    bif boundA i (List.length a) then
      bif boundA i (List.length outs) then
        bif Nat.blt (Int.toNat i) (List.length outs) then
          rec1005 a (List.set outs (Int.toNat i) ((List.getD a (Int.toNat i) (0, 0)).fst, (List.getD a (Int.toNat i) (0, 0)).snd)) (IntKind.wrap IntKind.i64 (i + 1))
        else
          none
      else
        none
    else
      none
  else
    rec1009 a outs ((↑(List.length a) : Int))
noncomputable def F13_1009 (k : Nat) (rec1005 : List (Int × Int) → List (Int × Int) → Int → Option (List (Int × Int) × Nat)) (rec1009 : List (Int × Int) → List (Int × Int) → Int → Option (List (Int × Int) × Nat)) (a : List (Int × Int)) (outs : List (Int × Int)) (i : Int) : Option (List (Int × Int) × Nat) :=
  bif decide (i < (↑(List.length outs) : Int)) then
    bif boundA i (List.length outs) then
      bif Nat.blt (Int.toNat i) (List.length outs) then
        rec1009 a (List.set outs (Int.toNat i) (-7000000000000000101, -7000000000000000101)) (IntKind.wrap IntKind.i64 (i + 1))
      else
        none
    else
      none
  else
    bif boundE (↑(List.length a) : Int) (List.length outs) then
      some ((outs, Option.getD (some (Int.toNat (↑(List.length a) : Int))) (List.length outs)))
    else
      none
noncomputable def F13 (k : Nat) (rec1005 : List (Int × Int) → List (Int × Int) → Int → Option (List (Int × Int) × Nat)) (rec1009 : List (Int × Int) → List (Int × Int) → Int → Option (List (Int × Int) × Nat)) (a : List (Int × Int)) (bare : Bool) : Option (List (Int × Int) × Nat) :=
  bif bare then
    bif decide ((↑(List.length a) : Int) = 0) then
      some (([], 0))
    else
      (f39 k (↑(List.length a) : Int)).bind fun r0 =>
      bif decide (0 ≤ IntKind.wrap IntKind.i64 ((↑(List.length a) : Int) + r0)) then
        bif decide (IntKind.wrap IntKind.i64 ((↑(List.length a) : Int) + r0) ≤ IntKind.wrap IntKind.i64 ((↑(List.length a) : Int) + r0)) then
          bif decide (IntKind.wrap IntKind.i64 ((↑(List.length a) : Int) + r0) * (↑16 : Int) ≤ 140737488355328) then
            rec1005 a (List.replicate (Int.toNat (IntKind.wrap IntKind.i64 ((↑(List.length a) : Int) + r0))) (dflt (Ty.pair (Ty.int IntKind.i64) (Ty.int IntKind.i64)))) (0)
          else
            none
        else
          none
      else
        none
  else
    (f39 k (↑(List.length a) : Int)).bind fun r1 =>
    bif decide (0 ≤ IntKind.wrap IntKind.i64 ((↑(List.length a) : Int) + r1)) then
      bif decide (IntKind.wrap IntKind.i64 ((↑(List.length a) : Int) + r1) ≤ IntKind.wrap IntKind.i64 ((↑(List.length a) : Int) + r1)) then
        bif decide (IntKind.wrap IntKind.i64 ((↑(List.length a) : Int) + r1) * (↑16 : Int) ≤ 140737488355328) then
          rec1005 a (List.replicate (Int.toNat (IntKind.wrap IntKind.i64 ((↑(List.length a) : Int) + r1))) (dflt (Ty.pair (Ty.int IntKind.i64) (Ty.int IntKind.i64)))) (0)
        else
          none
      else
        none
    else
      none
noncomputable def l13 : Nat → (List (Int × Int) → List (Int × Int) → Int → Option (List (Int × Int) × Nat)) × (List (Int × Int) → List (Int × Int) → Int → Option (List (Int × Int) × Nat))
  | 0 => (fun _ _ _ => none, fun _ _ _ => none)
  | k + 1 => (F13_1005 k ((l13 k).1) ((l13 k).2), F13_1009 k ((l13 k).1) ((l13 k).2))
noncomputable def f13 (k : Nat) (a : List (Int × Int)) (bare : Bool) : Option (List (Int × Int) × Nat) := F13 k ((l13 k).1) ((l13 k).2) a bare
noncomputable def s13 : Spec := ⟨false, [(.vslice 63 (.pair (.int .i64) (.int .i64)), false)], true, .vslice 63 (.pair (.int .i64) (.int .i64)), fun k xs => match xs with | [.slc 65 (.pair (.int .i64) (.int .i64)) a, .bool bare] => f13 k a bare | _ => none, false⟩
noncomputable def env33 : List (FuncId × Spec) := (13, s13) :: env32
noncomputable abbrev x13 := exec tiV (envOf env32) 51 h13 (finT tiV true Go.Proofs.Try.f13.results.toList [(.vslice 63 (.pair (.int .i64) (.int .i64)), false)] (.vslice 63 (.pair (.int .i64) (.int .i64))))
noncomputable def k13_1005 : List It := stackAt [.r, .r, .r, .l, .r, .b, .lb none] (bodyOf Go.Proofs.Try.f13) []
def t13_1005 (a : List (Int × Int)) (outs : List (Int × Int)) (i : Int) : St := [(0, Cell.val (AVal.slc 65 (Ty.pair (Ty.int IntKind.i64) (Ty.int IntKind.i64)) a)), (10, Cell.val (AVal.ref 3 none)), (3, Cell.row true 63 (Ty.pair (Ty.int IntKind.i64) (Ty.int IntKind.i64)) outs), (12, Cell.val (AVal.int IntKind.i64 i))]
noncomputable def k13_1009 : List It := stackAt [.r, .r, .r, .r, .l, .r, .b, .lb none] (bodyOf Go.Proofs.Try.f13) []
def t13_1009 (a : List (Int × Int)) (outs : List (Int × Int)) (i : Int) : St := [(0, Cell.val (AVal.slc 65 (Ty.pair (Ty.int IntKind.i64) (Ty.int IntKind.i64)) a)), (10, Cell.val (AVal.ref 3 none)), (3, Cell.row true 63 (Ty.pair (Ty.int IntKind.i64) (Ty.int IntKind.i64)) outs), (14, Cell.val (AVal.int IntKind.i64 i))]
theorem e13_1005 (k : Nat) (a : List (Int × Int)) (outs : List (Int × Int)) (i : Int) : x13 (k + 1) k13_1005 (t13_1005 a outs i) = F13_1005 k (fun (a : List (Int × Int)) (outs : List (Int × Int)) (i : Int) => x13 k k13_1005 (t13_1005 a outs i)) (fun (a : List (Int × Int)) (outs : List (Int × Int)) (i : Int) => x13 k k13_1009 (t13_1009 a outs i)) a outs i := by kernel_rfl
theorem e13_1009 (k : Nat) (a : List (Int × Int)) (outs : List (Int × Int)) (i : Int) : x13 (k + 1) k13_1009 (t13_1009 a outs i) = F13_1009 k (fun (a : List (Int × Int)) (outs : List (Int × Int)) (i : Int) => x13 k k13_1005 (t13_1005 a outs i)) (fun (a : List (Int × Int)) (outs : List (Int × Int)) (i : Int) => x13 k k13_1009 (t13_1009 a outs i)) a outs i := by kernel_rfl
theorem q13 : ∀ k : Nat, ((fun (a : List (Int × Int)) (outs : List (Int × Int)) (i : Int) => x13 k k13_1005 (t13_1005 a outs i)), (fun (a : List (Int × Int)) (outs : List (Int × Int)) (i : Int) => x13 k k13_1009 (t13_1009 a outs i))) = l13 k
  | 0 => rfl
  | k + 1 => by
    have h := q13 k
    show _ = (F13_1005 k ((l13 k).1) ((l13 k).2), F13_1009 k ((l13 k).1) ((l13 k).2))
    rw [← h]
    exact (Prod.ext (funext fun a => funext fun outs => funext fun i => e13_1005 k a outs i) (funext fun a => funext fun outs => funext fun i => e13_1009 k a outs i))
theorem w13 (k : Nat) (a : List (Int × Int)) (bare : Bool) : runFn tiV (envOf env32) 51 h13 (finT tiV true Go.Proofs.Try.f13.results.toList [(.vslice 63 (.pair (.int .i64) (.int .i64)), false)] (.vslice 63 (.pair (.int .i64) (.int .i64)))) k (bodyOf Go.Proofs.Try.f13) (initS 0 [.slc 65 (.pair (.int .i64) (.int .i64)) a, .bool bare]) = F13 k (fun (a : List (Int × Int)) (outs : List (Int × Int)) (i : Int) => x13 k k13_1005 (t13_1005 a outs i)) (fun (a : List (Int × Int)) (outs : List (Int × Int)) (i : Int) => x13 k k13_1009 (t13_1009 a outs i)) a bare := by kernel_rfl
theorem v13 (k : Nat) (a : List (Int × Int)) (bare : Bool) : runFn tiV (envOf env32) 51 h13 (finT tiV true Go.Proofs.Try.f13.results.toList [(.vslice 63 (.pair (.int .i64) (.int .i64)), false)] (.vslice 63 (.pair (.int .i64) (.int .i64)))) k (bodyOf Go.Proofs.Try.f13) (initS 0 [.slc 65 (.pair (.int .i64) (.int .i64)) a, .bool bare]) = f13 k a bare := by
  rw [w13]
  have h := q13 k
  unfold f13
  rw [← h]
theorem m13 : Meets Go.Proofs.Try.prog 13 s13 := meets_of_run tiVOk env32_ok mo Go.Proofs.Try.func13 (body := bodyOf Go.Proofs.Try.f13) (by kernel_rfl) (N := 51) (by kernel_rfl) (hs := h13) (by
  intro k xs r h
  unfold s13 at h
  dsimp only at h
  split at h
  · exact ⟨Nat.le_of_ble_eq_true rfl, (v13 k _ _).trans h⟩
  · cases h)
theorem env33_ok : EnvOk Go.Proofs.Try.prog (envOf env33) := envOf_cons m13 Go.Proofs.Try.func13 (by kernel_rfl) (by kernel_rfl) env32_ok

-- laws.toDyadic
noncomputable def f42 (k : Nat) (a_N : Int) (a_K : Int) : Option (Int × Int) :=
  some ((a_N, a_K))
noncomputable def s42 : Spec := ⟨false, [(.pair (.int .i64) (.int .i64), true)], true, .pair (.int .i64) (.int .i64), fun k xs => match xs with | [.agg [.int .i64 a_N, .int .i64 a_K]] => f42 k a_N a_K | _ => none, false⟩
noncomputable def env34 : List (FuncId × Spec) := (42, s42) :: env33
theorem v42 (k : Nat) (a_N : Int) (a_K : Int) : runFn tiV (envOf env33) 11 [] (finT tiV true Go.Proofs.Try.f42.results.toList [(.pair (.int .i64) (.int .i64), true)] (.pair (.int .i64) (.int .i64))) k (bodyOf Go.Proofs.Try.f42) (initS 0 [.agg [.int .i64 a_N, .int .i64 a_K]]) = f42 k a_N a_K := by kernel_rfl
theorem m42 : Meets Go.Proofs.Try.prog 42 s42 := meets_of_run tiVOk env33_ok mo Go.Proofs.Try.func42 (body := bodyOf Go.Proofs.Try.f42) (by kernel_rfl) (N := 11) (by kernel_rfl) (hs := []) (by
  intro k xs r h
  unfold s42 at h
  dsimp only at h
  split at h
  · exact ⟨Nat.le_of_ble_eq_true rfl, (v42 k _ _).trans h⟩
  · cases h)
theorem env34_ok : EnvOk Go.Proofs.Try.prog (envOf env34) := envOf_cons m42 Go.Proofs.Try.func42 (by kernel_rfl) (by kernel_rfl) env33_ok

-- laws.fillerDyadic
noncomputable def f43 (k : Nat)  : Option (Int × Int) :=
  some ((-7000000000000000101, -7000000000000000101))
noncomputable def s43 : Spec := ⟨false, [(.pair (.int .i64) (.int .i64), true)], true, .pair (.int .i64) (.int .i64), fun k xs => match xs with | [] => f43 k  | _ => none, false⟩
noncomputable def env35 : List (FuncId × Spec) := (43, s43) :: env34
theorem v43 (k : Nat)  : runFn tiV (envOf env34) 2 [] (finT tiV true Go.Proofs.Try.f43.results.toList [(.pair (.int .i64) (.int .i64), true)] (.pair (.int .i64) (.int .i64))) k (bodyOf Go.Proofs.Try.f43) (initS 0 []) = f43 k  := by kernel_rfl
theorem m43 : Meets Go.Proofs.Try.prog 43 s43 := meets_of_run tiVOk env34_ok mo Go.Proofs.Try.func43 (body := bodyOf Go.Proofs.Try.f43) (by kernel_rfl) (N := 2) (by kernel_rfl) (hs := []) (by
  intro k xs r h
  unfold s43 at h
  dsimp only at h
  split at h
  · exact ⟨Nat.le_of_ble_eq_true rfl, (v43 k).trans h⟩
  · cases h)
theorem env35_ok : EnvOk Go.Proofs.Try.prog (envOf env35) := envOf_cons m43 Go.Proofs.Try.func43 (by kernel_rfl) (by kernel_rfl) env34_ok

-- laws.toDyadicS
def h14 : Hints := [(1005, .lab [(0, .one (.frz 70 (Ty.pair (Ty.int IntKind.i64) (Ty.int IntKind.i64)))), (5, .one (.own 68 (Ty.pair (Ty.int IntKind.i64) (Ty.int IntKind.i64)))), (6, .one (.v))]), (1009, .lab [(0, .one (.frz 70 (Ty.pair (Ty.int IntKind.i64) (Ty.int IntKind.i64)))), (5, .one (.own 68 (Ty.pair (Ty.int IntKind.i64) (Ty.int IntKind.i64)))), (7, .one (.v))])]
noncomputable def F14_1005 (k : Nat) (rec1005 : List (Int × Int) → List (Int × Int) → Int → Option (List (Int × Int) × Nat)) (rec1009 : List (Int × Int) → List (Int × Int) → Int → Option (List (Int × Int) × Nat)) (a : List (Int × Int)) (outs : List (Int × Int)) (i : Int) : Option (List (Int × Int) × Nat) :=
  bif decide (i < (↑(List.length a) : Int)) then
    bif boundA i (List.length a) then
      bif boundA i (List.length outs) then
        bif Nat.blt (Int.toNat i) (List.length outs) then
          rec1005 a (List.set outs (Int.toNat i) ((List.getD a (Int.toNat i) (0, 0)).fst, (List.getD a (Int.toNat i) (0, 0)).snd)) (IntKind.wrap IntKind.i64 (i + 1))
        else
          none
      else
        none
    else
      none
  else
    rec1009 a outs ((↑(List.length a) : Int))
noncomputable def F14_1009 (k : Nat) (rec1005 : List (Int × Int) → List (Int × Int) → Int → Option (List (Int × Int) × Nat)) (rec1009 : List (Int × Int) → List (Int × Int) → Int → Option (List (Int × Int) × Nat)) (a : List (Int × Int)) (outs : List (Int × Int)) (i : Int) : Option (List (Int × Int) × Nat) :=
  bif decide (i < (↑(List.length outs) : Int)) then
    bif boundA i (List.length outs) then
      bif Nat.blt (Int.toNat i) (List.length outs) then
        rec1009 a (List.set outs (Int.toNat i) (-7000000000000000101, -7000000000000000101)) (IntKind.wrap IntKind.i64 (i + 1))
      else
        none
    else
      none
  else
    bif boundE (↑(List.length a) : Int) (List.length outs) then
      some ((outs, Option.getD (some (Int.toNat (↑(List.length a) : Int))) (List.length outs)))
    else
      none
noncomputable def F14 (k : Nat) (rec1005 : List (Int × Int) → List (Int × Int) → Int → Option (List (Int × Int) × Nat)) (rec1009 : List (Int × Int) → List (Int × Int) → Int → Option (List (Int × Int) × Nat)) (a : List (Int × Int)) (bare : Bool) : Option (List (Int × Int) × Nat) :=
  bif bare then
    bif decide ((↑(List.length a) : Int) = 0) then
      some (([], 0))
    else
      (f39 k (↑(List.length a) : Int)).bind fun r0 =>
      bif decide (0 ≤ IntKind.wrap IntKind.i64 ((↑(List.length a) : Int) + r0)) then
        bif decide (IntKind.wrap IntKind.i64 ((↑(List.length a) : Int) + r0) ≤ IntKind.wrap IntKind.i64 ((↑(List.length a) : Int) + r0)) then
          bif decide (IntKind.wrap IntKind.i64 ((↑(List.length a) : Int) + r0) * (↑16 : Int) ≤ 140737488355328) then
            rec1005 a (List.replicate (Int.toNat (IntKind.wrap IntKind.i64 ((↑(List.length a) : Int) + r0))) (dflt (Ty.pair (Ty.int IntKind.i64) (Ty.int IntKind.i64)))) (0)
          else
            none
        else
          none
      else
        none
  else
    (f39 k (↑(List.length a) : Int)).bind fun r1 =>
    bif decide (0 ≤ IntKind.wrap IntKind.i64 ((↑(List.length a) : Int) + r1)) then
      bif decide (IntKind.wrap IntKind.i64 ((↑(List.length a) : Int) + r1) ≤ IntKind.wrap IntKind.i64 ((↑(List.length a) : Int) + r1)) then
        bif decide (IntKind.wrap IntKind.i64 ((↑(List.length a) : Int) + r1) * (↑16 : Int) ≤ 140737488355328) then
          rec1005 a (List.replicate (Int.toNat (IntKind.wrap IntKind.i64 ((↑(List.length a) : Int) + r1))) (dflt (Ty.pair (Ty.int IntKind.i64) (Ty.int IntKind.i64)))) (0)
        else
          none
      else
        none
    else
      none
noncomputable def l14 : Nat → (List (Int × Int) → List (Int × Int) → Int → Option (List (Int × Int) × Nat)) × (List (Int × Int) → List (Int × Int) → Int → Option (List (Int × Int) × Nat))
  | 0 => (fun _ _ _ => none, fun _ _ _ => none)
  | k + 1 => (F14_1005 k ((l14 k).1) ((l14 k).2), F14_1009 k ((l14 k).1) ((l14 k).2))
noncomputable def f14 (k : Nat) (a : List (Int × Int)) (bare : Bool) : Option (List (Int × Int) × Nat) := F14 k ((l14 k).1) ((l14 k).2) a bare
noncomputable def s14 : Spec := ⟨false, [(.vslice 68 (.pair (.int .i64) (.int .i64)), false)], true, .vslice 68 (.pair (.int .i64) (.int .i64)), fun k xs => match xs with | [.slc 70 (.pair (.int .i64) (.int .i64)) a, .bool bare] => f14 k a bare | _ => none, false⟩
noncomputable def env36 : List (FuncId × Spec) := (14, s14) :: env35
noncomputable abbrev x14 := exec tiV (envOf env35) 51 h14 (finT tiV true Go.Proofs.Try.f14.results.toList [(.vslice 68 (.pair (.int .i64) (.int .i64)), false)] (.vslice 68 (.pair (.int .i64) (.int .i64))))
noncomputable def k14_1005 : List It := stackAt [.r, .r, .r, .l, .r, .b, .lb none] (bodyOf Go.Proofs.Try.f14) []
def t14_1005 (a : List (Int × Int)) (outs : List (Int × Int)) (i : Int) : St := [(0, Cell.val (AVal.slc 70 (Ty.pair (Ty.int IntKind.i64) (Ty.int IntKind.i64)) a)), (10, Cell.val (AVal.ref 3 none)), (3, Cell.row true 68 (Ty.pair (Ty.int IntKind.i64) (Ty.int IntKind.i64)) outs), (12, Cell.val (AVal.int IntKind.i64 i))]
noncomputable def k14_1009 : List It := stackAt [.r, .r, .r, .r, .l, .r, .b, .lb none] (bodyOf Go.Proofs.Try.f14) []
def t14_1009 (a : List (Int × Int)) (outs : List (Int × Int)) (i : Int) : St := [(0, Cell.val (AVal.slc 70 (Ty.pair (Ty.int IntKind.i64) (Ty.int IntKind.i64)) a)), (10, Cell.val (AVal.ref 3 none)), (3, Cell.row true 68 (Ty.pair (Ty.int IntKind.i64) (Ty.int IntKind.i64)) outs), (14, Cell.val (AVal.int IntKind.i64 i))]
theorem e14_1005 (k : Nat) (a : List (Int × Int)) (outs : List (Int × Int)) (i : Int) : x14 (k + 1) k14_1005 (t14_1005 a outs i) = F14_1005 k (fun (a : List (Int × Int)) (outs : List (Int × Int)) (i : Int) => x14 k k14_1005 (t14_1005 a outs i)) (fun (a : List (Int × Int)) (outs : List (Int × Int)) (i : Int) => x14 k k14_1009 (t14_1009 a outs i)) a outs i := by kernel_rfl
theorem e14_1009 (k : Nat) (a : List (Int × Int)) (outs : List (Int × Int)) (i : Int) : x14 (k + 1) k14_1009 (t14_1009 a outs i) = F14_1009 k (fun (a : List (Int × Int)) (outs : List (Int × Int)) (i : Int) => x14 k k14_1005 (t14_1005 a outs i)) (fun (a : List (Int × Int)) (outs : List (Int × Int)) (i : Int) => x14 k k14_1009 (t14_1009 a outs i)) a outs i := by kernel_rfl
theorem q14 : ∀ k : Nat, ((fun (a : List (Int × Int)) (outs : List (Int × Int)) (i : Int) => x14 k k14_1005 (t14_1005 a outs i)), (fun (a : List (Int × Int)) (outs : List (Int × Int)) (i : Int) => x14 k k14_1009 (t14_1009 a outs i))) = l14 k
  | 0 => rfl
  | k + 1 => by
    have h := q14 k
    show _ = (F14_1005 k ((l14 k).1) ((l14 k).2), F14_1009 k ((l14 k).1) ((l14 k).2))
    rw [← h]
    exact (Prod.ext (funext fun a => funext fun outs => funext fun i => e14_1005 k a outs i) (funext fun a => funext fun outs => funext fun i => e14_1009 k a outs i))
theorem w14 (k : Nat) (a : List (Int × Int)) (bare : Bool) : runFn tiV (envOf env35) 51 h14 (finT tiV true Go.Proofs.Try.f14.results.toList [(.vslice 68 (.pair (.int .i64) (.int .i64)), false)] (.vslice 68 (.pair (.int .i64) (.int .i64)))) k (bodyOf Go.Proofs.Try.f14) (initS 0 [.slc 70 (.pair (.int .i64) (.int .i64)) a, .bool bare]) = F14 k (fun (a : List (Int × Int)) (outs : List (Int × Int)) (i : Int) => x14 k k14_1005 (t14_1005 a outs i)) (fun (a : List (Int × Int)) (outs : List (Int × Int)) (i : Int) => x14 k k14_1009 (t14_1009 a outs i)) a bare := by kernel_rfl
theorem v14 (k : Nat) (a : List (Int × Int)) (bare : Bool) : runFn tiV (envOf env35) 51 h14 (finT tiV true Go.Proofs.Try.f14.results.toList [(.vslice 68 (.pair (.int .i64) (.int .i64)), false)] (.vslice 68 (.pair (.int .i64) (.int .i64)))) k (bodyOf Go.Proofs.Try.f14) (initS 0 [.slc 70 (.pair (.int .i64) (.int .i64)) a, .bool bare]) = f14 k a bare := by
  rw [w14]
  have h := q14 k
  unfold f14
  rw [← h]
theorem m14 : Meets Go.Proofs.Try.prog 14 s14 := meets_of_run tiVOk env35_ok mo Go.Proofs.Try.func14 (body := bodyOf Go.Proofs.Try.f14) (by kernel_rfl) (N := 51) (by kernel_rfl) (hs := h14) (by
  intro k xs r h
  unfold s14 at h
  dsimp only at h
  split at h
  · exact ⟨Nat.le_of_ble_eq_true rfl, (v14 k _ _).trans h⟩
  · cases h)
theorem env36_ok : EnvOk Go.Proofs.Try.prog (envOf env36) := envOf_cons m14 Go.Proofs.Try.func14 (by kernel_rfl) (by kernel_rfl) env35_ok

end Go.Proofs.YtkahcjnkmbbplaaE
