/- Functions, by the engine; printed. -/
import Derived.Test.YtbaeikcfchiiaaaNF2
set_option maxRecDepth 100000
set_option maxHeartbeats 4000000
set_option linter.unusedVariables false
namespace Go.Proofs.YtbaeikcfchiiaaaE
-- spec.NarrowAt
noncomputable def f14 (k : Nat) (p : List (Int)) (q : List (Int)) (x_Low_N : Int) (x_Low_K : Int) (x_High_N : Int) (x_High_K : Int) (i : Int) (fine : Int) : Option (((Int × Int) × Int × Int) × Bool) :=
  (f67 k p q i fine).bind fun r0 =>
  bif !r0 then
    some ((((0, 0), 0, 0), false))
  else
    (f68 k x_Low_N x_Low_K x_High_N x_High_K).bind fun r1 =>
    bif !r1 then
      some ((((0, 0), 0, 0), false))
    else
      (f69 k p q x_Low_N x_Low_K x_High_N x_High_K i fine).bind fun r2 =>
      bif !r2 then
        some ((((0, 0), 0, 0), false))
      else
        (f70 k p q x_Low_N x_Low_K x_High_N x_High_K i fine).bind fun r3 =>
        some ((((r3.fst.fst, r3.fst.snd), r3.snd.fst, r3.snd.snd), true))
noncomputable def s14 : Spec := ⟨false, [(.pair (.pair (.int .i64) (.int .i64)) (.pair (.int .i64) (.int .i64)), true), (.bool, false)], true, .pair (.pair (.pair (.int .i64) (.int .i64)) (.pair (.int .i64) (.int .i64))) (.bool), fun k xs => match xs with | [.slc 3 (.int .i64) p, .slc 3 (.int .i64) q, .agg [.int .i64 x_Low_N, .int .i64 x_Low_K, .int .i64 x_High_N, .int .i64 x_High_K], .int .i64 i, .int .i64 fine] => f14 k p q x_Low_N x_Low_K x_High_N x_High_K i fine | _ => none⟩
noncomputable def env25 : List (FuncId × Spec) := (14, s14) :: env24
theorem v14 (k : Nat) (p : List (Int)) (q : List (Int)) (x_Low_N : Int) (x_Low_K : Int) (x_High_N : Int) (x_High_K : Int) (i : Int) (fine : Int) : runFn ti (envOf env24) 39 [] (finT ti true Go.Proofs.Try.f14.results.toList [(.pair (.pair (.int .i64) (.int .i64)) (.pair (.int .i64) (.int .i64)), true), (.bool, false)] (.pair (.pair (.pair (.int .i64) (.int .i64)) (.pair (.int .i64) (.int .i64))) (.bool))) k (bodyOf Go.Proofs.Try.f14) (initS 0 [.slc 3 (.int .i64) p, .slc 3 (.int .i64) q, .agg [.int .i64 x_Low_N, .int .i64 x_Low_K, .int .i64 x_High_N, .int .i64 x_High_K], .int .i64 i, .int .i64 fine]) = f14 k p q x_Low_N x_Low_K x_High_N x_High_K i fine := by kernel_rfl
theorem m14 : Meets Go.Proofs.Try.prog 14 s14 := meets_of_run tiOk env24_ok mo Go.Proofs.Try.func14 (body := bodyOf Go.Proofs.Try.f14) (by kernel_rfl) (N := 39) (by kernel_rfl) (hs := []) (by
  intro k xs r h
  unfold s14 at h
  dsimp only at h
  split at h
  · exact ⟨Nat.le_of_ble_eq_true rfl, (v14 k _ _ _ _ _ _ _ _).trans h⟩
  · cases h)
theorem env25_ok : EnvOk Go.Proofs.Try.prog (envOf env25) := envOf_cons m14 Go.Proofs.Try.func14 (by kernel_rfl) (by kernel_rfl) env24_ok

-- laws.roomBehind
noncomputable def f71 (k : Nat) (n : Int) : Option (Int) :=
  bif decide (Int.tmod n 6 = 5) then
    some (0)
  else
    bif decide (Int.tmod n 3 = 0) then
      some (1)
    else
      some n
noncomputable def s71 : Spec := ⟨false, [(.int .i64, false)], true, .int .i64, fun k xs => match xs with | [.int .i64 n] => f71 k n | _ => none⟩
noncomputable def env26 : List (FuncId × Spec) := (71, s71) :: env25
theorem v71 (k : Nat) (n : Int) : runFn ti (envOf env25) 10 [] (finT ti true Go.Proofs.Try.f71.results.toList [(.int .i64, false)] (.int .i64)) k (bodyOf Go.Proofs.Try.f71) (initS 0 [.int .i64 n]) = f71 k n := by kernel_rfl
theorem m71 : Meets Go.Proofs.Try.prog 71 s71 := meets_of_run tiOk env25_ok mo Go.Proofs.Try.func71 (body := bodyOf Go.Proofs.Try.f71) (by kernel_rfl) (N := 10) (by kernel_rfl) (hs := []) (by
  intro k xs r h
  unfold s71 at h
  dsimp only at h
  split at h
  · exact ⟨Nat.le_of_ble_eq_true rfl, (v71 k _).trans h⟩
  · cases h)
theorem env26_ok : EnvOk Go.Proofs.Try.prog (envOf env26) := envOf_cons m71 Go.Proofs.Try.func71 (by kernel_rfl) (by kernel_rfl) env25_ok

-- laws.toIntS
def h15 : Hints := [(1005, .lab [(0, .one (.frz 3 (Ty.int IntKind.i64))), (5, .one (.own 3 (Ty.int IntKind.i64))), (6, .one (.v))]), (1009, .lab [(0, .one (.frz 3 (Ty.int IntKind.i64))), (5, .one (.own 3 (Ty.int IntKind.i64))), (7, .one (.v))])]
noncomputable def F15_1005 (k : Nat) (rec1005 : List Int → List Int → Int → Option (List (Int) × Nat)) (rec1009 : List Int → List Int → Int → Option (List (Int) × Nat)) (a : List Int) (outs : List Int) (i : Int) : Option (List (Int) × Nat) :=
  bif decide (i < (↑(List.length a) : Int)) then
    bif boundA i (List.length a) then
      bif boundA i (List.length outs) then
        bif Nat.blt (Int.toNat i) (List.length outs) then
          rec1005 a (List.set outs (Int.toNat i) (List.getD a (Int.toNat i) 0)) (IntKind.wrap IntKind.i64 (i + 1))
        else
          none
      else
        none
    else
      none
  else
    rec1009 a outs ((↑(List.length a) : Int))
noncomputable def F15_1009 (k : Nat) (rec1005 : List Int → List Int → Int → Option (List (Int) × Nat)) (rec1009 : List Int → List Int → Int → Option (List (Int) × Nat)) (a : List Int) (outs : List Int) (i : Int) : Option (List (Int) × Nat) :=
  bif decide (i < (↑(List.length outs) : Int)) then
    bif boundA i (List.length outs) then
      bif Nat.blt (Int.toNat i) (List.length outs) then
        rec1009 a (List.set outs (Int.toNat i) (-7000000000000000101)) (IntKind.wrap IntKind.i64 (i + 1))
      else
        none
    else
      none
  else
    bif boundE (↑(List.length a) : Int) (List.length outs) then
      some ((outs, Option.getD (some (Int.toNat (↑(List.length a) : Int))) (List.length outs)))
    else
      none
noncomputable def F15 (k : Nat) (rec1005 : List Int → List Int → Int → Option (List (Int) × Nat)) (rec1009 : List Int → List Int → Int → Option (List (Int) × Nat)) (a : List (Int)) (bare : Bool) : Option (List (Int) × Nat) :=
  bif bare then
    bif decide ((↑(List.length a) : Int) = 0) then
      some (([], 0))
    else
      (f71 k (↑(List.length a) : Int)).bind fun r0 =>
      bif decide (0 ≤ IntKind.wrap IntKind.i64 ((↑(List.length a) : Int) + r0)) then
        bif decide (IntKind.wrap IntKind.i64 ((↑(List.length a) : Int) + r0) ≤ IntKind.wrap IntKind.i64 ((↑(List.length a) : Int) + r0)) then
          bif decide (IntKind.wrap IntKind.i64 ((↑(List.length a) : Int) + r0) * (↑8 : Int) ≤ 140737488355328) then
            rec1005 a (List.replicate (Int.toNat (IntKind.wrap IntKind.i64 ((↑(List.length a) : Int) + r0))) (dflt (Ty.int IntKind.i64))) (0)
          else
            none
        else
          none
      else
        none
  else
    (f71 k (↑(List.length a) : Int)).bind fun r1 =>
    bif decide (0 ≤ IntKind.wrap IntKind.i64 ((↑(List.length a) : Int) + r1)) then
      bif decide (IntKind.wrap IntKind.i64 ((↑(List.length a) : Int) + r1) ≤ IntKind.wrap IntKind.i64 ((↑(List.length a) : Int) + r1)) then
        bif decide (IntKind.wrap IntKind.i64 ((↑(List.length a) : Int) + r1) * (↑8 : Int) ≤ 140737488355328) then
          rec1005 a (List.replicate (Int.toNat (IntKind.wrap IntKind.i64 ((↑(List.length a) : Int) + r1))) (dflt (Ty.int IntKind.i64))) (0)
        else
          none
      else
        none
    else
      none
noncomputable def l15 : Nat → (List Int → List Int → Int → Option (List (Int) × Nat)) × (List Int → List Int → Int → Option (List (Int) × Nat))
  | 0 => (fun _ _ _ => none, fun _ _ _ => none)
  | k + 1 => (F15_1005 k ((l15 k).1) ((l15 k).2), F15_1009 k ((l15 k).1) ((l15 k).2))
noncomputable def f15 (k : Nat) (a : List (Int)) (bare : Bool) : Option (List (Int) × Nat) := F15 k ((l15 k).1) ((l15 k).2) a bare
noncomputable def s15 : Spec := ⟨false, [(.vslice 3 (.int .i64), false)], true, .vslice 3 (.int .i64), fun k xs => match xs with | [.slc 3 (.int .i64) a, .bool bare] => f15 k a bare | _ => none⟩
noncomputable def env27 : List (FuncId × Spec) := (15, s15) :: env26
noncomputable abbrev x15 := exec tiV (envOf env26) 49 h15 (finT tiV true Go.Proofs.Try.f15.results.toList [(.vslice 3 (.int .i64), false)] (.vslice 3 (.int .i64)))
noncomputable def k15_1005 : List It := stackAt [.r, .r, .r, .l, .r, .b, .lb none] (bodyOf Go.Proofs.Try.f15) []
def t15_1005 (a : List Int) (outs : List Int) (i : Int) : St := [(0, Cell.val (AVal.slc 3 (Ty.int IntKind.i64) a)), (10, Cell.val (AVal.ref 3 none)), (3, Cell.row true 3 (Ty.int IntKind.i64) outs), (12, Cell.val (AVal.int IntKind.i64 i))]
noncomputable def k15_1009 : List It := stackAt [.r, .r, .r, .r, .l, .r, .b, .lb none] (bodyOf Go.Proofs.Try.f15) []
def t15_1009 (a : List Int) (outs : List Int) (i : Int) : St := [(0, Cell.val (AVal.slc 3 (Ty.int IntKind.i64) a)), (10, Cell.val (AVal.ref 3 none)), (3, Cell.row true 3 (Ty.int IntKind.i64) outs), (14, Cell.val (AVal.int IntKind.i64 i))]
theorem e15_1005 (k : Nat) (a : List Int) (outs : List Int) (i : Int) : x15 (k + 1) k15_1005 (t15_1005 a outs i) = F15_1005 k (fun (a : List Int) (outs : List Int) (i : Int) => x15 k k15_1005 (t15_1005 a outs i)) (fun (a : List Int) (outs : List Int) (i : Int) => x15 k k15_1009 (t15_1009 a outs i)) a outs i := by kernel_rfl
theorem e15_1009 (k : Nat) (a : List Int) (outs : List Int) (i : Int) : x15 (k + 1) k15_1009 (t15_1009 a outs i) = F15_1009 k (fun (a : List Int) (outs : List Int) (i : Int) => x15 k k15_1005 (t15_1005 a outs i)) (fun (a : List Int) (outs : List Int) (i : Int) => x15 k k15_1009 (t15_1009 a outs i)) a outs i := by kernel_rfl
theorem q15 : ∀ k : Nat, ((fun (a : List Int) (outs : List Int) (i : Int) => x15 k k15_1005 (t15_1005 a outs i)), (fun (a : List Int) (outs : List Int) (i : Int) => x15 k k15_1009 (t15_1009 a outs i))) = l15 k
  | 0 => rfl
  | k + 1 => by
    have h := q15 k
    show _ = (F15_1005 k ((l15 k).1) ((l15 k).2), F15_1009 k ((l15 k).1) ((l15 k).2))
    rw [← h]
    exact (Prod.ext (funext fun a => funext fun outs => funext fun i => e15_1005 k a outs i) (funext fun a => funext fun outs => funext fun i => e15_1009 k a outs i))
theorem w15 (k : Nat) (a : List (Int)) (bare : Bool) : runFn tiV (envOf env26) 49 h15 (finT tiV true Go.Proofs.Try.f15.results.toList [(.vslice 3 (.int .i64), false)] (.vslice 3 (.int .i64))) k (bodyOf Go.Proofs.Try.f15) (initS 0 [.slc 3 (.int .i64) a, .bool bare]) = F15 k (fun (a : List Int) (outs : List Int) (i : Int) => x15 k k15_1005 (t15_1005 a outs i)) (fun (a : List Int) (outs : List Int) (i : Int) => x15 k k15_1009 (t15_1009 a outs i)) a bare := by kernel_rfl
theorem v15 (k : Nat) (a : List (Int)) (bare : Bool) : runFn tiV (envOf env26) 49 h15 (finT tiV true Go.Proofs.Try.f15.results.toList [(.vslice 3 (.int .i64), false)] (.vslice 3 (.int .i64))) k (bodyOf Go.Proofs.Try.f15) (initS 0 [.slc 3 (.int .i64) a, .bool bare]) = f15 k a bare := by
  rw [w15]
  have h := q15 k
  unfold f15
  rw [← h]
theorem m15 : Meets Go.Proofs.Try.prog 15 s15 := meets_of_run tiVOk env26_ok mo Go.Proofs.Try.func15 (body := bodyOf Go.Proofs.Try.f15) (by kernel_rfl) (N := 49) (by kernel_rfl) (hs := h15) (by
  intro k xs r h
  unfold s15 at h
  dsimp only at h
  split at h
  · exact ⟨Nat.le_of_ble_eq_true rfl, (v15 k _ _).trans h⟩
  · cases h)
theorem env27_ok : EnvOk Go.Proofs.Try.prog (envOf env27) := envOf_cons m15 Go.Proofs.Try.func15 (by kernel_rfl) (by kernel_rfl) env26_ok

-- laws.toDyadic
noncomputable def f72 (k : Nat) (a_N : Int) (a_K : Int) : Option (Int × Int) :=
  some ((a_N, a_K))
noncomputable def s72 : Spec := ⟨false, [(.pair (.int .i64) (.int .i64), true)], true, .pair (.int .i64) (.int .i64), fun k xs => match xs with | [.agg [.int .i64 a_N, .int .i64 a_K]] => f72 k a_N a_K | _ => none⟩
noncomputable def env28 : List (FuncId × Spec) := (72, s72) :: env27
theorem v72 (k : Nat) (a_N : Int) (a_K : Int) : runFn tiV (envOf env27) 11 [] (finT tiV true Go.Proofs.Try.f72.results.toList [(.pair (.int .i64) (.int .i64), true)] (.pair (.int .i64) (.int .i64))) k (bodyOf Go.Proofs.Try.f72) (initS 0 [.agg [.int .i64 a_N, .int .i64 a_K]]) = f72 k a_N a_K := by kernel_rfl
theorem m72 : Meets Go.Proofs.Try.prog 72 s72 := meets_of_run tiVOk env27_ok mo Go.Proofs.Try.func72 (body := bodyOf Go.Proofs.Try.f72) (by kernel_rfl) (N := 11) (by kernel_rfl) (hs := []) (by
  intro k xs r h
  unfold s72 at h
  dsimp only at h
  split at h
  · exact ⟨Nat.le_of_ble_eq_true rfl, (v72 k _ _).trans h⟩
  · cases h)
theorem env28_ok : EnvOk Go.Proofs.Try.prog (envOf env28) := envOf_cons m72 Go.Proofs.Try.func72 (by kernel_rfl) (by kernel_rfl) env27_ok

-- laws.toInterval
noncomputable def f16 (k : Nat) (a_Low_N : Int) (a_Low_K : Int) (a_High_N : Int) (a_High_K : Int) : Option ((Int × Int) × Int × Int) :=
  some (((a_Low_N, a_Low_K), a_High_N, a_High_K))
noncomputable def s16 : Spec := ⟨false, [(.pair (.pair (.int .i64) (.int .i64)) (.pair (.int .i64) (.int .i64)), true)], true, .pair (.pair (.int .i64) (.int .i64)) (.pair (.int .i64) (.int .i64)), fun k xs => match xs with | [.agg [.int .i64 a_Low_N, .int .i64 a_Low_K, .int .i64 a_High_N, .int .i64 a_High_K]] => f16 k a_Low_N a_Low_K a_High_N a_High_K | _ => none⟩
noncomputable def env29 : List (FuncId × Spec) := (16, s16) :: env28
theorem v16 (k : Nat) (a_Low_N : Int) (a_Low_K : Int) (a_High_N : Int) (a_High_K : Int) : runFn tiV (envOf env28) 13 [] (finT tiV true Go.Proofs.Try.f16.results.toList [(.pair (.pair (.int .i64) (.int .i64)) (.pair (.int .i64) (.int .i64)), true)] (.pair (.pair (.int .i64) (.int .i64)) (.pair (.int .i64) (.int .i64)))) k (bodyOf Go.Proofs.Try.f16) (initS 0 [.agg [.int .i64 a_Low_N, .int .i64 a_Low_K, .int .i64 a_High_N, .int .i64 a_High_K]]) = f16 k a_Low_N a_Low_K a_High_N a_High_K := by kernel_rfl
theorem m16 : Meets Go.Proofs.Try.prog 16 s16 := meets_of_run tiVOk env28_ok mo Go.Proofs.Try.func16 (body := bodyOf Go.Proofs.Try.f16) (by kernel_rfl) (N := 13) (by kernel_rfl) (hs := []) (by
  intro k xs r h
  unfold s16 at h
  dsimp only at h
  split at h
  · exact ⟨Nat.le_of_ble_eq_true rfl, (v16 k _ _ _ _).trans h⟩
  · cases h)
theorem env29_ok : EnvOk Go.Proofs.Try.prog (envOf env29) := envOf_cons m16 Go.Proofs.Try.func16 (by kernel_rfl) (by kernel_rfl) env28_ok

-- impl.inside
noncomputable def f128 (k : Nat) (n : Int) (low : Int) (high : Int) : Option (Bool) :=
  bif decide (low ≤ n) then
    some (decide (n ≤ high))
  else
    some false
noncomputable def s128 : Spec := ⟨false, [(.bool, false)], true, .bool, fun k xs => match xs with | [.int .i64 n, .int .i64 low, .int .i64 high] => f128 k n low high | _ => none⟩
noncomputable def env30 : List (FuncId × Spec) := (128, s128) :: env29
theorem v128 (k : Nat) (n : Int) (low : Int) (high : Int) : runFn ti (envOf env29) 15 [] (finT ti true Go.Proofs.Try.f128.results.toList [(.bool, false)] (.bool)) k (bodyOf Go.Proofs.Try.f128) (initS 0 [.int .i64 n, .int .i64 low, .int .i64 high]) = f128 k n low high := by kernel_rfl
theorem m128 : Meets Go.Proofs.Try.prog 128 s128 := meets_of_run tiOk env29_ok mo Go.Proofs.Try.func128 (body := bodyOf Go.Proofs.Try.f128) (by kernel_rfl) (N := 15) (by kernel_rfl) (hs := []) (by
  intro k xs r h
  unfold s128 at h
  dsimp only at h
  split at h
  · exact ⟨Nat.le_of_ble_eq_true rfl, (v128 k _ _ _).trans h⟩
  · cases h)
theorem env30_ok : EnvOk Go.Proofs.Try.prog (envOf env30) := envOf_cons m128 Go.Proofs.Try.func128 (by kernel_rfl) (by kernel_rfl) env29_ok

-- impl.isSingle
def h152 : Hints := [(1002, .lab [(0, .one (.frz 3 (Ty.int IntKind.i64))), (5, .one (.frz 3 (Ty.int IntKind.i64))), (6, .one (.v)), (7, .one (.v))])]
noncomputable def F152_1002 (k : Nat) (rec1002 : List Int → List Int → Int → Int → Option (Bool)) (p : List Int) (t5 : List Int) (t6 : Int) (t7 : Int) : Option (Bool) :=
  bif decide (t7 < t6) then
    bif boundA t7 (List.length t5) then
      (f128 k (List.getD t5 (Int.toNat t7) 0) (-1000000) 1000000).bind fun r0 =>
      bif !r0 then
        some false
      else
        rec1002 p t5 t6 (IntKind.wrap IntKind.i64 (t7 + 1))
    else
      none
  else
    bif decide ((↑(List.length p) : Int) = 0) then
      some true
    else
      bif decide ((↑(List.length p) : Int) ≤ 9) then
        bif boundA (IntKind.wrap IntKind.i64 ((↑(List.length p) : Int) - 1)) (List.length p) then
          some (!decide (List.getD p (Int.toNat (IntKind.wrap IntKind.i64 ((↑(List.length p) : Int) - 1))) 0 = 0))
        else
          none
      else
        some false
noncomputable def F152 (k : Nat) (rec1002 : List Int → List Int → Int → Int → Option (Bool)) (p : List (Int)) : Option (Bool) :=
  rec1002 p p ((↑(List.length p) : Int)) (0)
noncomputable def l152 : Nat → (List Int → List Int → Int → Int → Option (Bool))
  | 0 => fun _ _ _ _ => none
  | k + 1 => F152_1002 k (l152 k)
noncomputable def f152 (k : Nat) (p : List (Int)) : Option (Bool) := F152 k (l152 k) p
noncomputable def s152 : Spec := ⟨false, [(.bool, false)], true, .bool, fun k xs => match xs with | [.slc 3 (.int .i64) p] => f152 k p | _ => none⟩
noncomputable def env31 : List (FuncId × Spec) := (152, s152) :: env30
noncomputable abbrev x152 := exec ti (envOf env30) 32 h152 (finT ti true Go.Proofs.Try.f152.results.toList [(.bool, false)] (.bool))
noncomputable def k152_1002 : List It := stackAt [.r, .l, .r, .b, .lb none] (bodyOf Go.Proofs.Try.f152) []
def t152_1002 (p : List Int) (t5 : List Int) (t6 : Int) (t7 : Int) : St := [(0, Cell.val (AVal.slc 3 (Ty.int IntKind.i64) p)), (10, Cell.val (AVal.slc 3 (Ty.int IntKind.i64) t5)), (12, Cell.val (AVal.int IntKind.i64 t6)), (14, Cell.val (AVal.int IntKind.i64 t7))]
theorem e152_1002 (k : Nat) (p : List Int) (t5 : List Int) (t6 : Int) (t7 : Int) : x152 (k + 1) k152_1002 (t152_1002 p t5 t6 t7) = F152_1002 k (fun (p : List Int) (t5 : List Int) (t6 : Int) (t7 : Int) => x152 k k152_1002 (t152_1002 p t5 t6 t7)) p t5 t6 t7 := by kernel_rfl
theorem q152 : ∀ k : Nat, (fun (p : List Int) (t5 : List Int) (t6 : Int) (t7 : Int) => x152 k k152_1002 (t152_1002 p t5 t6 t7)) = l152 k
  | 0 => rfl
  | k + 1 => by
    have h := q152 k
    show _ = F152_1002 k (l152 k)
    rw [← h]
    exact (funext fun p => funext fun t5 => funext fun t6 => funext fun t7 => e152_1002 k p t5 t6 t7)
theorem w152 (k : Nat) (p : List (Int)) : runFn ti (envOf env30) 32 h152 (finT ti true Go.Proofs.Try.f152.results.toList [(.bool, false)] (.bool)) k (bodyOf Go.Proofs.Try.f152) (initS 0 [.slc 3 (.int .i64) p]) = F152 k (fun (p : List Int) (t5 : List Int) (t6 : Int) (t7 : Int) => x152 k k152_1002 (t152_1002 p t5 t6 t7)) p := by kernel_rfl
theorem v152 (k : Nat) (p : List (Int)) : runFn ti (envOf env30) 32 h152 (finT ti true Go.Proofs.Try.f152.results.toList [(.bool, false)] (.bool)) k (bodyOf Go.Proofs.Try.f152) (initS 0 [.slc 3 (.int .i64) p]) = f152 k p := by
  rw [w152]
  have h := q152 k
  unfold f152
  rw [← h]
theorem m152 : Meets Go.Proofs.Try.prog 152 s152 := meets_of_run tiOk env30_ok mo Go.Proofs.Try.func152 (body := bodyOf Go.Proofs.Try.f152) (by kernel_rfl) (N := 32) (by kernel_rfl) (hs := h152) (by
  intro k xs r h
  unfold s152 at h
  dsimp only at h
  split at h
  · exact ⟨Nat.le_of_ble_eq_true rfl, (v152 k _).trans h⟩
  · cases h)
theorem env31_ok : EnvOk Go.Proofs.Try.prog (envOf env31) := envOf_cons m152 Go.Proofs.Try.func152 (by kernel_rfl) (by kernel_rfl) env30_ok

-- impl.isSmall$1
noncomputable def f189 (k : Nat) (c : Int) : Option (Bool) :=
  (f128 k c (-1000) 1000).bind fun r0 =>
  some (!r0)
noncomputable def s189 : Spec := ⟨false, [(.bool, false)], true, .bool, fun k xs => match xs with | [.int .i64 c] => f189 k c | _ => none⟩
noncomputable def env32 : List (FuncId × Spec) := (189, s189) :: env31
theorem v189 (k : Nat) (c : Int) : runFn ti (envOf env31) 6 [] (finT ti true Go.Proofs.Try.f189.results.toList [(.bool, false)] (.bool)) k (bodyOf Go.Proofs.Try.f189) (initS 0 [.int .i64 c]) = f189 k c := by kernel_rfl
theorem m189 : Meets Go.Proofs.Try.prog 189 s189 := meets_of_run tiOk env31_ok mo Go.Proofs.Try.func189 (body := bodyOf Go.Proofs.Try.f189) (by kernel_rfl) (N := 6) (by kernel_rfl) (hs := []) (by
  intro k xs r h
  unfold s189 at h
  dsimp only at h
  split at h
  · exact ⟨Nat.le_of_ble_eq_true rfl, (v189 k _).trans h⟩
  · cases h)
theorem env32_ok : EnvOk Go.Proofs.Try.prog (envOf env32) := envOf_cons m189 Go.Proofs.Try.func189 (by kernel_rfl) (by kernel_rfl) env31_ok

-- slices.IndexFunc[[]int,int]
def h238_189 : Hints := [(1002, .lab [(0, .one (.frz 3 (Ty.int IntKind.i64))), (1, .one (.v)), (7, .one (.v)), (8, .one (.v))])]
noncomputable def F238_189_1002 (k : Nat) (rec1002 : List Int → Int → Int → Option (Int)) (s : List Int) (t7 : Int) (t8 : Int) : Option (Int) :=
  bif decide (t8 < t7) then
    bif boundA t8 (List.length s) then
      (f189 k (List.getD s (Int.toNat t8) 0)).bind fun r0 =>
      bif r0 then
        some t8
      else
        rec1002 s t7 (IntKind.wrap IntKind.i64 (t8 + 1))
    else
      none
  else
    some (-1)
noncomputable def F238_189 (k : Nat) (rec1002 : List Int → Int → Int → Option (Int)) (s : List (Int)) : Option (Int) :=
  rec1002 s ((↑(List.length s) : Int)) (0)
noncomputable def l238_189 : Nat → (List Int → Int → Int → Option (Int))
  | 0 => fun _ _ _ => none
  | k + 1 => F238_189_1002 k (l238_189 k)
noncomputable def f238_189 (k : Nat) (s : List (Int)) : Option (Int) := F238_189 k (l238_189 k) s
noncomputable def s238 : Spec := ⟨false, [(.int .i64, false)], true, .int .i64, fun k xs => match xs with | [.slc 3 (.int .i64) s, .fn 189] => f238_189 k s | _ => none⟩
noncomputable def env33 : List (FuncId × Spec) := (238, s238) :: env32
noncomputable abbrev x238_189 := exec ti (envOf env32) 19 h238_189 (finT ti true Go.Proofs.Try.f238.results.toList [(.int .i64, false)] (.int .i64))
noncomputable def k238_189_1002 : List It := stackAt [.r, .l, .r, .b, .lb none] (bodyOf Go.Proofs.Try.f238) []
def t238_189_1002 (s : List Int) (t7 : Int) (t8 : Int) : St := [(0, Cell.val (AVal.slc 3 (Ty.int IntKind.i64) s)), (2, Cell.val (AVal.fn 189)), (14, Cell.val (AVal.int IntKind.i64 t7)), (16, Cell.val (AVal.int IntKind.i64 t8))]
theorem e238_189_1002 (k : Nat) (s : List Int) (t7 : Int) (t8 : Int) : x238_189 (k + 1) k238_189_1002 (t238_189_1002 s t7 t8) = F238_189_1002 k (fun (s : List Int) (t7 : Int) (t8 : Int) => x238_189 k k238_189_1002 (t238_189_1002 s t7 t8)) s t7 t8 := by kernel_rfl
theorem q238_189 : ∀ k : Nat, (fun (s : List Int) (t7 : Int) (t8 : Int) => x238_189 k k238_189_1002 (t238_189_1002 s t7 t8)) = l238_189 k
  | 0 => rfl
  | k + 1 => by
    have h := q238_189 k
    show _ = F238_189_1002 k (l238_189 k)
    rw [← h]
    exact (funext fun s => funext fun t7 => funext fun t8 => e238_189_1002 k s t7 t8)
theorem w238_189 (k : Nat) (s : List (Int)) : runFn ti (envOf env32) 19 h238_189 (finT ti true Go.Proofs.Try.f238.results.toList [(.int .i64, false)] (.int .i64)) k (bodyOf Go.Proofs.Try.f238) (initS 0 [.slc 3 (.int .i64) s, .fn 189]) = F238_189 k (fun (s : List Int) (t7 : Int) (t8 : Int) => x238_189 k k238_189_1002 (t238_189_1002 s t7 t8)) s := by kernel_rfl
theorem v238_189 (k : Nat) (s : List (Int)) : runFn ti (envOf env32) 19 h238_189 (finT ti true Go.Proofs.Try.f238.results.toList [(.int .i64, false)] (.int .i64)) k (bodyOf Go.Proofs.Try.f238) (initS 0 [.slc 3 (.int .i64) s, .fn 189]) = f238_189 k s := by
  rw [w238_189]
  have h := q238_189 k
  unfold f238_189
  rw [← h]
theorem m238 : Meets Go.Proofs.Try.prog 238 s238 := meets_of_run tiOk env32_ok mo Go.Proofs.Try.func238 (body := bodyOf Go.Proofs.Try.f238) (by kernel_rfl) (N := 19) (by kernel_rfl) (hs := h238_189) (by
  intro k xs r h
  unfold s238 at h
  dsimp only at h
  split at h
  · exact ⟨Nat.le_of_ble_eq_true rfl, (v238_189 k _).trans h⟩
  · cases h)
theorem env33_ok : EnvOk Go.Proofs.Try.prog (envOf env33) := envOf_cons m238 Go.Proofs.Try.func238 (by kernel_rfl) (by kernel_rfl) env32_ok

-- slices.ContainsFunc[[]int,int]
noncomputable def f188_189 (k : Nat) (s : List (Int)) : Option (Bool) :=
  (f238_189 k s).bind fun r0 =>
  some (decide (0 ≤ r0))
noncomputable def s188 : Spec := ⟨false, [(.bool, false)], true, .bool, fun k xs => match xs with | [.slc 3 (.int .i64) s, .fn 189] => f188_189 k s | _ => none⟩
noncomputable def env34 : List (FuncId × Spec) := (188, s188) :: env33
theorem v188_189 (k : Nat) (s : List (Int)) : runFn ti (envOf env33) 9 [] (finT ti true Go.Proofs.Try.f188.results.toList [(.bool, false)] (.bool)) k (bodyOf Go.Proofs.Try.f188) (initS 0 [.slc 3 (.int .i64) s, .fn 189]) = f188_189 k s := by kernel_rfl
theorem m188 : Meets Go.Proofs.Try.prog 188 s188 := meets_of_run tiOk env33_ok mo Go.Proofs.Try.func188 (body := bodyOf Go.Proofs.Try.f188) (by kernel_rfl) (N := 9) (by kernel_rfl) (hs := []) (by
  intro k xs r h
  unfold s188 at h
  dsimp only at h
  split at h
  · exact ⟨Nat.le_of_ble_eq_true rfl, (v188_189 k _).trans h⟩
  · cases h)
theorem env34_ok : EnvOk Go.Proofs.Try.prog (envOf env34) := envOf_cons m188 Go.Proofs.Try.func188 (by kernel_rfl) (by kernel_rfl) env33_ok

-- impl.isSmall
noncomputable def f127 (k : Nat) (p : List (Int)) : Option (Bool) :=
  (f152 k p).bind fun r0 =>
  bif r0 then
    (f128 k (↑(List.length p) : Int) 1 6).bind fun r1 =>
    bif r1 then
      (f188_189 k p).bind fun r2 =>
      some (!r2)
    else
      some false
  else
    some false
noncomputable def s127 : Spec := ⟨false, [(.bool, false)], true, .bool, fun k xs => match xs with | [.slc 3 (.int .i64) p] => f127 k p | _ => none⟩
noncomputable def env35 : List (FuncId × Spec) := (127, s127) :: env34
theorem v127 (k : Nat) (p : List (Int)) : runFn ti (envOf env34) 15 [] (finT ti true Go.Proofs.Try.f127.results.toList [(.bool, false)] (.bool)) k (bodyOf Go.Proofs.Try.f127) (initS 0 [.slc 3 (.int .i64) p]) = f127 k p := by kernel_rfl
theorem m127 : Meets Go.Proofs.Try.prog 127 s127 := meets_of_run tiOk env34_ok mo Go.Proofs.Try.func127 (body := bodyOf Go.Proofs.Try.f127) (by kernel_rfl) (N := 15) (by kernel_rfl) (hs := []) (by
  intro k xs r h
  unfold s127 at h
  dsimp only at h
  split at h
  · exact ⟨Nat.le_of_ble_eq_true rfl, (v127 k _).trans h⟩
  · cases h)
theorem env35_ok : EnvOk Go.Proofs.Try.prog (envOf env35) := envOf_cons m127 Go.Proofs.Try.func127 (by kernel_rfl) (by kernel_rfl) env34_ok

-- impl.isFamily
noncomputable def f73 (k : Nat) (p : List (Int)) (q : List (Int)) (fine : Int) : Option (Bool) :=
  (f127 k p).bind fun r0 =>
  bif r0 then
    (f127 k q).bind fun r1 =>
    bif r1 then
      (f128 k fine 0 4).bind fun r2 =>
      some r2
    else
      some false
  else
    some false
noncomputable def s73 : Spec := ⟨false, [(.bool, false)], true, .bool, fun k xs => match xs with | [.slc 3 (.int .i64) p, .slc 3 (.int .i64) q, .int .i64 fine] => f73 k p q fine | _ => none⟩
noncomputable def env36 : List (FuncId × Spec) := (73, s73) :: env35
theorem v73 (k : Nat) (p : List (Int)) (q : List (Int)) (fine : Int) : runFn ti (envOf env35) 17 [] (finT ti true Go.Proofs.Try.f73.results.toList [(.bool, false)] (.bool)) k (bodyOf Go.Proofs.Try.f73) (initS 0 [.slc 3 (.int .i64) p, .slc 3 (.int .i64) q, .int .i64 fine]) = f73 k p q fine := by kernel_rfl
theorem m73 : Meets Go.Proofs.Try.prog 73 s73 := meets_of_run tiOk env35_ok mo Go.Proofs.Try.func73 (body := bodyOf Go.Proofs.Try.f73) (by kernel_rfl) (N := 17) (by kernel_rfl) (hs := []) (by
  intro k xs r h
  unfold s73 at h
  dsimp only at h
  split at h
  · exact ⟨Nat.le_of_ble_eq_true rfl, (v73 k _ _ _).trans h⟩
  · cases h)
theorem env36_ok : EnvOk Go.Proofs.Try.prog (envOf env36) := envOf_cons m73 Go.Proofs.Try.func73 (by kernel_rfl) (by kernel_rfl) env35_ok

end Go.Proofs.YtbaeikcfchiiaaaE
