/- Functions, by the engine; printed. -/
import Derived.Test.YtchdegcfohegfaaBL2
set_option maxRecDepth 100000
set_option maxHeartbeats 4000000
set_option linter.unusedVariables false
namespace Go.Proofs.YtchdegcfohegfaaE
-- spec.bxFine
def h85 : Hints := [(1003, .lab [(1, .box 31 [.v, .frz 3 (Ty.int IntKind.i64), .frz 3 (Ty.int IntKind.i64)]), (4, .one (.own 3 (Ty.int IntKind.i64))), (5, .one (.own 3 (Ty.int IntKind.i64))), (9, .one (.frz 3 (Ty.int IntKind.i64))), (10, .one (.v)), (11, .one (.v))])]
noncomputable def F85_1003 (k : Nat) (rec1003 : Int → List Int → List Int → List Int → List Int → List Int → Int → Int → Option ((List (Int)) × List (Int))) (bs_0 : Int) (bs_1 : List Int) (bs_2 : List Int) (lows : List Int) (highs : List Int) (t9 : List Int) (t10 : Int) (t11 : Int) : Option ((List (Int)) × List (Int)) :=
  bif decide (t11 < t10) then
    bif boundA t11 (List.length t9) then
      bif decide ((List.length lows + List.length [IntKind.wrap IntKind.i64 (2 * List.getD t9 (Int.toNat t11) 0)]) * 8 ≤ 140737488355328) then
        bif boundA t11 (List.length bs_2) then
          bif decide ((List.length highs + List.length [IntKind.wrap IntKind.i64 (2 * List.getD bs_2 (Int.toNat t11) 0)]) * 8 ≤ 140737488355328) then
            rec1003 bs_0 bs_1 bs_2 (lows ++ [IntKind.wrap IntKind.i64 (2 * List.getD t9 (Int.toNat t11) 0)]) (highs ++ [IntKind.wrap IntKind.i64 (2 * List.getD bs_2 (Int.toNat t11) 0)]) t9 t10 (IntKind.wrap IntKind.i64 (t11 + 1))
          else
            none
        else
          none
      else
        none
    else
      none
  else
    some ((lows, highs))
noncomputable def F85 (k : Nat) (rec1003 : Int → List Int → List Int → List Int → List Int → List Int → Int → Int → Option ((List (Int)) × List (Int))) (b_K : Int) (b_Low : List (Int)) (b_High : List (Int)) : Option ((List (Int)) × List (Int)) :=
  rec1003 b_K b_Low b_High ([]) ([]) b_Low ((↑(List.length b_Low) : Int)) (0)
noncomputable def l85 : Nat → (Int → List Int → List Int → List Int → List Int → List Int → Int → Int → Option ((List (Int)) × List (Int)))
  | 0 => fun _ _ _ _ _ _ _ _ => none
  | k + 1 => F85_1003 k (l85 k)
noncomputable def f85 (k : Nat) (b_K : Int) (b_Low : List (Int)) (b_High : List (Int)) : Option ((List (Int)) × List (Int)) := F85 k (l85 k) b_K b_Low b_High
noncomputable def s85 : Spec := ⟨false, [(.slice 3 (.int .i64), false), (.slice 3 (.int .i64), false)], true, .pair (.slice 3 (.int .i64)) (.slice 3 (.int .i64)), fun k xs => match xs with | [.agg [.int .i64 b_K, .slc 3 (.int .i64) b_Low, .slc 3 (.int .i64) b_High]] => f85 k b_K b_Low b_High | _ => none, false, none, false⟩
noncomputable def env25 : List (FuncId × Spec) := (85, s85) :: env24
noncomputable abbrev x85 := exec ti (envOf env24) 33 h85 (finT ti true Go.Proofs.Try.f85.results.toList [(.slice 3 (.int .i64), false), (.slice 3 (.int .i64), false)] (.pair (.slice 3 (.int .i64)) (.slice 3 (.int .i64))))
noncomputable def k85_1003 : List It := stackAt [.r, .r, .l, .r, .b, .lb none] (bodyOf Go.Proofs.Try.f85) []
def t85_1003 (bs_0 : Int) (bs_1 : List Int) (bs_2 : List Int) (lows : List Int) (highs : List Int) (t9 : List Int) (t10 : Int) (t11 : Int) : St := [(2, Cell.val (AVal.ptr 33 0)), (33, Cell.mem true 31 [AVal.int IntKind.i64 bs_0, AVal.slc 3 (Ty.int IntKind.i64) bs_1, AVal.slc 3 (Ty.int IntKind.i64) bs_2]), (8, Cell.val (AVal.ref 35 none)), (35, Cell.row true 3 (Ty.int IntKind.i64) lows), (10, Cell.val (AVal.ref 37 none)), (37, Cell.row true 3 (Ty.int IntKind.i64) highs), (18, Cell.val (AVal.slc 3 (Ty.int IntKind.i64) t9)), (20, Cell.val (AVal.int IntKind.i64 t10)), (22, Cell.val (AVal.int IntKind.i64 t11))]
theorem e85_1003 (k : Nat) (bs_0 : Int) (bs_1 : List Int) (bs_2 : List Int) (lows : List Int) (highs : List Int) (t9 : List Int) (t10 : Int) (t11 : Int) : x85 (k + 1) k85_1003 (t85_1003 bs_0 bs_1 bs_2 lows highs t9 t10 t11) = F85_1003 k (fun (bs_0 : Int) (bs_1 : List Int) (bs_2 : List Int) (lows : List Int) (highs : List Int) (t9 : List Int) (t10 : Int) (t11 : Int) => x85 k k85_1003 (t85_1003 bs_0 bs_1 bs_2 lows highs t9 t10 t11)) bs_0 bs_1 bs_2 lows highs t9 t10 t11 := by kernel_rfl
theorem q85 : ∀ k : Nat, (fun (bs_0 : Int) (bs_1 : List Int) (bs_2 : List Int) (lows : List Int) (highs : List Int) (t9 : List Int) (t10 : Int) (t11 : Int) => x85 k k85_1003 (t85_1003 bs_0 bs_1 bs_2 lows highs t9 t10 t11)) = l85 k
  | 0 => rfl
  | k + 1 => by
    have h := q85 k
    show _ = F85_1003 k (l85 k)
    rw [← h]
    exact (funext fun bs_0 => funext fun bs_1 => funext fun bs_2 => funext fun lows => funext fun highs => funext fun t9 => funext fun t10 => funext fun t11 => e85_1003 k bs_0 bs_1 bs_2 lows highs t9 t10 t11)
theorem w85 (k : Nat) (b_K : Int) (b_Low : List (Int)) (b_High : List (Int)) : runFn ti (envOf env24) 33 h85 (finT ti true Go.Proofs.Try.f85.results.toList [(.slice 3 (.int .i64), false), (.slice 3 (.int .i64), false)] (.pair (.slice 3 (.int .i64)) (.slice 3 (.int .i64)))) k (bodyOf Go.Proofs.Try.f85) (initS 0 [.agg [.int .i64 b_K, .slc 3 (.int .i64) b_Low, .slc 3 (.int .i64) b_High]]) = F85 k (fun (bs_0 : Int) (bs_1 : List Int) (bs_2 : List Int) (lows : List Int) (highs : List Int) (t9 : List Int) (t10 : Int) (t11 : Int) => x85 k k85_1003 (t85_1003 bs_0 bs_1 bs_2 lows highs t9 t10 t11)) b_K b_Low b_High := by kernel_rfl
theorem v85 (k : Nat) (b_K : Int) (b_Low : List (Int)) (b_High : List (Int)) : runFn ti (envOf env24) 33 h85 (finT ti true Go.Proofs.Try.f85.results.toList [(.slice 3 (.int .i64), false), (.slice 3 (.int .i64), false)] (.pair (.slice 3 (.int .i64)) (.slice 3 (.int .i64)))) k (bodyOf Go.Proofs.Try.f85) (initS 0 [.agg [.int .i64 b_K, .slc 3 (.int .i64) b_Low, .slc 3 (.int .i64) b_High]]) = f85 k b_K b_Low b_High := by
  rw [w85]
  have h := q85 k
  unfold f85
  rw [← h]
theorem m85 : Meets Go.Proofs.Try.prog 85 s85 := meets_of_run tiOk env24_ok mo Go.Proofs.Try.func85 (body := bodyOf Go.Proofs.Try.f85) (by kernel_rfl) (N := 33) (by kernel_rfl) (hs := h85) (by
  intro k xs r h
  unfold s85 at h
  dsimp only at h
  split at h
  · exact ⟨Nat.le_of_ble_eq_true rfl, (v85 k _ _ _).trans h⟩
  · cases h)
theorem env25_ok : EnvOk Go.Proofs.Try.prog (envOf env25) := envOf_cons m85 Go.Proofs.Try.func85 (by kernel_rfl) (by kernel_rfl) env24_ok

-- spec.bxEven
def h95 : Hints := [(1002, .lab [(1, .box 31 [.v, .frz 3 (Ty.int IntKind.i64), .frz 3 (Ty.int IntKind.i64)]), (6, .one (.frz 3 (Ty.int IntKind.i64))), (7, .one (.v)), (8, .one (.v))])]
noncomputable def F95_1002 (k : Nat) (rec1002 : Int → List Int → List Int → List Int → Int → Int → Option (Bool)) (bs_0 : Int) (bs_1 : List Int) (bs_2 : List Int) (t6 : List Int) (t7 : Int) (t8 : Int) : Option (Bool) :=
  bif decide (t8 < t7) then
    bif boundA t8 (List.length t6) then
      bif !decide (Int.tmod (List.getD t6 (Int.toNat t8) 0) 2 = 0) then
        some false
      else
        bif boundA t8 (List.length bs_2) then
          bif !decide (Int.tmod (List.getD bs_2 (Int.toNat t8) 0) 2 = 0) then
            some false
          else
            rec1002 bs_0 bs_1 bs_2 t6 t7 (IntKind.wrap IntKind.i64 (t8 + 1))
        else
          none
    else
      none
  else
    some true
noncomputable def F95 (k : Nat) (rec1002 : Int → List Int → List Int → List Int → Int → Int → Option (Bool)) (b_K : Int) (b_Low : List (Int)) (b_High : List (Int)) : Option (Bool) :=
  rec1002 b_K b_Low b_High b_Low ((↑(List.length b_Low) : Int)) (0)
noncomputable def l95 : Nat → (Int → List Int → List Int → List Int → Int → Int → Option (Bool))
  | 0 => fun _ _ _ _ _ _ => none
  | k + 1 => F95_1002 k (l95 k)
noncomputable def f95 (k : Nat) (b_K : Int) (b_Low : List (Int)) (b_High : List (Int)) : Option (Bool) := F95 k (l95 k) b_K b_Low b_High
noncomputable def s95 : Spec := ⟨false, [(.bool, false)], true, .bool, fun k xs => match xs with | [.agg [.int .i64 b_K, .slc 3 (.int .i64) b_Low, .slc 3 (.int .i64) b_High]] => f95 k b_K b_Low b_High | _ => none, false, none, false⟩
noncomputable def env26 : List (FuncId × Spec) := (95, s95) :: env25
noncomputable abbrev x95 := exec ti (envOf env25) 26 h95 (finT ti true Go.Proofs.Try.f95.results.toList [(.bool, false)] (.bool))
noncomputable def k95_1002 : List It := stackAt [.r, .l, .r, .b, .lb none] (bodyOf Go.Proofs.Try.f95) []
def t95_1002 (bs_0 : Int) (bs_1 : List Int) (bs_2 : List Int) (t6 : List Int) (t7 : Int) (t8 : Int) : St := [(2, Cell.val (AVal.ptr 33 0)), (33, Cell.mem true 31 [AVal.int IntKind.i64 bs_0, AVal.slc 3 (Ty.int IntKind.i64) bs_1, AVal.slc 3 (Ty.int IntKind.i64) bs_2]), (12, Cell.val (AVal.slc 3 (Ty.int IntKind.i64) t6)), (14, Cell.val (AVal.int IntKind.i64 t7)), (16, Cell.val (AVal.int IntKind.i64 t8))]
theorem e95_1002 (k : Nat) (bs_0 : Int) (bs_1 : List Int) (bs_2 : List Int) (t6 : List Int) (t7 : Int) (t8 : Int) : x95 (k + 1) k95_1002 (t95_1002 bs_0 bs_1 bs_2 t6 t7 t8) = F95_1002 k (fun (bs_0 : Int) (bs_1 : List Int) (bs_2 : List Int) (t6 : List Int) (t7 : Int) (t8 : Int) => x95 k k95_1002 (t95_1002 bs_0 bs_1 bs_2 t6 t7 t8)) bs_0 bs_1 bs_2 t6 t7 t8 := by kernel_rfl
theorem q95 : ∀ k : Nat, (fun (bs_0 : Int) (bs_1 : List Int) (bs_2 : List Int) (t6 : List Int) (t7 : Int) (t8 : Int) => x95 k k95_1002 (t95_1002 bs_0 bs_1 bs_2 t6 t7 t8)) = l95 k
  | 0 => rfl
  | k + 1 => by
    have h := q95 k
    show _ = F95_1002 k (l95 k)
    rw [← h]
    exact (funext fun bs_0 => funext fun bs_1 => funext fun bs_2 => funext fun t6 => funext fun t7 => funext fun t8 => e95_1002 k bs_0 bs_1 bs_2 t6 t7 t8)
theorem w95 (k : Nat) (b_K : Int) (b_Low : List (Int)) (b_High : List (Int)) : runFn ti (envOf env25) 26 h95 (finT ti true Go.Proofs.Try.f95.results.toList [(.bool, false)] (.bool)) k (bodyOf Go.Proofs.Try.f95) (initS 0 [.agg [.int .i64 b_K, .slc 3 (.int .i64) b_Low, .slc 3 (.int .i64) b_High]]) = F95 k (fun (bs_0 : Int) (bs_1 : List Int) (bs_2 : List Int) (t6 : List Int) (t7 : Int) (t8 : Int) => x95 k k95_1002 (t95_1002 bs_0 bs_1 bs_2 t6 t7 t8)) b_K b_Low b_High := by kernel_rfl
theorem v95 (k : Nat) (b_K : Int) (b_Low : List (Int)) (b_High : List (Int)) : runFn ti (envOf env25) 26 h95 (finT ti true Go.Proofs.Try.f95.results.toList [(.bool, false)] (.bool)) k (bodyOf Go.Proofs.Try.f95) (initS 0 [.agg [.int .i64 b_K, .slc 3 (.int .i64) b_Low, .slc 3 (.int .i64) b_High]]) = f95 k b_K b_Low b_High := by
  rw [w95]
  have h := q95 k
  unfold f95
  rw [← h]
theorem m95 : Meets Go.Proofs.Try.prog 95 s95 := meets_of_run tiOk env25_ok mo Go.Proofs.Try.func95 (body := bodyOf Go.Proofs.Try.f95) (by kernel_rfl) (N := 26) (by kernel_rfl) (hs := h95) (by
  intro k xs r h
  unfold s95 at h
  dsimp only at h
  split at h
  · exact ⟨Nat.le_of_ble_eq_true rfl, (v95 k _ _ _).trans h⟩
  · cases h)
theorem env26_ok : EnvOk Go.Proofs.Try.prog (envOf env26) := envOf_cons m95 Go.Proofs.Try.func95 (by kernel_rfl) (by kernel_rfl) env25_ok

-- spec.bxMake
def h86 : Hints := [(1002, .lab [(6, .box 31 [.v, .v, .v]), (8, .box 31 [.v, .own 3 (Ty.int IntKind.i64), .own 3 (Ty.int IntKind.i64)])]), (1005, .lab [(6, .box 31 [.v, .v, .v]), (8, .box 31 [.v, .own 3 (Ty.int IntKind.i64), .own 3 (Ty.int IntKind.i64)]), (29, .one (.v)), (30, .one (.v))])]
noncomputable def F86_1002 (k : Nat) (rec1002 : Int → Int → List Int → List Int → Option ((Int × (List (Int)) × List (Int)) × Bool)) (rec1005 : Int → Int → List Int → List Int → Int → Int → Option ((Int × (List (Int)) × List (Int)) × Bool)) (t6s_0 : Int) (outs_0 : Int) (outs : List Int) (outs' : List Int) : Option ((Int × (List (Int)) × List (Int)) × Bool) :=
  bif decide (0 < outs_0) then
    (f95 k outs_0 outs outs').bind fun r0 =>
    bif r0 then
      rec1005 t6s_0 (IntKind.wrap IntKind.i64 (outs_0 - 1)) outs outs' ((↑(List.length outs) : Int)) (0)
    else
      (f32 k outs_0 outs outs').bind fun r1 =>
      bif !r1 then
        some (((0, [], []), false))
      else
        some (((outs_0, outs, outs'), true))
  else
    (f32 k outs_0 outs outs').bind fun r2 =>
    bif !r2 then
      some (((0, [], []), false))
    else
      some (((outs_0, outs, outs'), true))
noncomputable def F86_1005 (k : Nat) (rec1002 : Int → Int → List Int → List Int → Option ((Int × (List (Int)) × List (Int)) × Bool)) (rec1005 : Int → Int → List Int → List Int → Int → Int → Option ((Int × (List (Int)) × List (Int)) × Bool)) (t6s_0 : Int) (outs_0 : Int) (outs : List Int) (outs' : List Int) (t29 : Int) (t30 : Int) : Option ((Int × (List (Int)) × List (Int)) × Bool) :=
  bif decide (t30 < t29) then
    bif boundA t30 (List.length outs) then
      bif Nat.blt (Int.toNat t30) (List.length outs) then
        bif boundA t30 (List.length outs) then
          bif Nat.blt (Int.toNat t30) (List.length outs) then
            bif boundA t30 (List.length outs') then
              bif Nat.blt (Int.toNat t30) (List.length outs') then
                bif boundA t30 (List.length outs') then
                  bif Nat.blt (Int.toNat t30) (List.length outs') then
                    rec1005 t6s_0 outs_0 (List.set outs (Int.toNat t30) (IntKind.wrap IntKind.i64 (Int.tdiv (List.getD outs (Int.toNat t30) 0) 2))) (List.set outs' (Int.toNat t30) (IntKind.wrap IntKind.i64 (Int.tdiv (List.getD outs' (Int.toNat t30) 0) 2))) t29 (IntKind.wrap IntKind.i64 (t30 + 1))
                  else
                    none
                else
                  none
              else
                none
            else
              none
          else
            none
        else
          none
      else
        none
    else
      none
  else
    rec1002 t6s_0 outs_0 outs outs'
noncomputable def F86 (k : Nat) (rec1002 : Int → Int → List Int → List Int → Option ((Int × (List (Int)) × List (Int)) × Bool)) (rec1005 : Int → Int → List Int → List Int → Int → Int → Option ((Int × (List (Int)) × List (Int)) × Bool)) (k_ : Int) (low : List (Int)) (high : List (Int)) : Option ((Int × (List (Int)) × List (Int)) × Bool) :=
  (f63 k low).bind fun r0 =>
  (f63 k high).bind fun r1 =>
  rec1002 (0) k_ r0 r1
noncomputable def l86 : Nat → (Int → Int → List Int → List Int → Option ((Int × (List (Int)) × List (Int)) × Bool)) × (Int → Int → List Int → List Int → Int → Int → Option ((Int × (List (Int)) × List (Int)) × Bool))
  | 0 => (fun _ _ _ _ => none, fun _ _ _ _ _ _ => none)
  | k + 1 => (F86_1002 k ((l86 k).1) ((l86 k).2), F86_1005 k ((l86 k).1) ((l86 k).2))
noncomputable def f86 (k : Nat) (k_ : Int) (low : List (Int)) (high : List (Int)) : Option ((Int × (List (Int)) × List (Int)) × Bool) := F86 k ((l86 k).1) ((l86 k).2) k_ low high
noncomputable def s86 : Spec := ⟨false, [(.pair (.int .i64) (.pair (.slice 3 (.int .i64)) (.slice 3 (.int .i64))), true), (.bool, false)], true, .pair (.pair (.int .i64) (.pair (.slice 3 (.int .i64)) (.slice 3 (.int .i64)))) (.bool), fun k xs => match xs with | [.int .i64 k_, .slc 3 (.int .i64) low, .slc 3 (.int .i64) high] => f86 k k_ low high | _ => none, false, none, false⟩
noncomputable def env27 : List (FuncId × Spec) := (86, s86) :: env26
noncomputable abbrev x86 := exec ti (envOf env26) 53 h86 (finT ti true Go.Proofs.Try.f86.results.toList [(.pair (.int .i64) (.pair (.slice 3 (.int .i64)) (.slice 3 (.int .i64))), true), (.bool, false)] (.pair (.pair (.int .i64) (.pair (.slice 3 (.int .i64)) (.slice 3 (.int .i64)))) (.bool)))
noncomputable def k86_1002 : List It := stackAt [.r, .r, .l, .b, .lb none] (bodyOf Go.Proofs.Try.f86) []
def t86_1002 (t6s_0 : Int) (outs_0 : Int) (outs : List Int) (outs' : List Int) : St := [(12, Cell.val (AVal.ptr 33 0)), (33, Cell.mem true 31 [AVal.int IntKind.i64 t6s_0, AVal.nilslc, AVal.nilslc]), (16, Cell.val (AVal.ptr 35 0)), (35, Cell.mem true 31 [AVal.int IntKind.i64 outs_0, AVal.ref 37 none, AVal.ref 39 none]), (37, Cell.row true 3 (Ty.int IntKind.i64) outs), (39, Cell.row true 3 (Ty.int IntKind.i64) outs')]
noncomputable def k86_1005 : List It := stackAt [.r, .r, .l, .b, .lb none, .r, .b, .r, .r, .b, .lb none] (bodyOf Go.Proofs.Try.f86) []
def t86_1005 (t6s_0 : Int) (outs_0 : Int) (outs : List Int) (outs' : List Int) (t29 : Int) (t30 : Int) : St := [(12, Cell.val (AVal.ptr 33 0)), (33, Cell.mem true 31 [AVal.int IntKind.i64 t6s_0, AVal.nilslc, AVal.nilslc]), (16, Cell.val (AVal.ptr 35 0)), (35, Cell.mem true 31 [AVal.int IntKind.i64 outs_0, AVal.ref 37 none, AVal.ref 39 none]), (37, Cell.row true 3 (Ty.int IntKind.i64) outs), (39, Cell.row true 3 (Ty.int IntKind.i64) outs'), (58, Cell.val (AVal.int IntKind.i64 t29)), (60, Cell.val (AVal.int IntKind.i64 t30))]
theorem e86_1002 (k : Nat) (t6s_0 : Int) (outs_0 : Int) (outs : List Int) (outs' : List Int) : x86 (k + 1) k86_1002 (t86_1002 t6s_0 outs_0 outs outs') = F86_1002 k (fun (t6s_0 : Int) (outs_0 : Int) (outs : List Int) (outs' : List Int) => x86 k k86_1002 (t86_1002 t6s_0 outs_0 outs outs')) (fun (t6s_0 : Int) (outs_0 : Int) (outs : List Int) (outs' : List Int) (t29 : Int) (t30 : Int) => x86 k k86_1005 (t86_1005 t6s_0 outs_0 outs outs' t29 t30)) t6s_0 outs_0 outs outs' := by kernel_rfl
theorem e86_1005 (k : Nat) (t6s_0 : Int) (outs_0 : Int) (outs : List Int) (outs' : List Int) (t29 : Int) (t30 : Int) : x86 (k + 1) k86_1005 (t86_1005 t6s_0 outs_0 outs outs' t29 t30) = F86_1005 k (fun (t6s_0 : Int) (outs_0 : Int) (outs : List Int) (outs' : List Int) => x86 k k86_1002 (t86_1002 t6s_0 outs_0 outs outs')) (fun (t6s_0 : Int) (outs_0 : Int) (outs : List Int) (outs' : List Int) (t29 : Int) (t30 : Int) => x86 k k86_1005 (t86_1005 t6s_0 outs_0 outs outs' t29 t30)) t6s_0 outs_0 outs outs' t29 t30 := by kernel_rfl
theorem q86 : ∀ k : Nat, ((fun (t6s_0 : Int) (outs_0 : Int) (outs : List Int) (outs' : List Int) => x86 k k86_1002 (t86_1002 t6s_0 outs_0 outs outs')), (fun (t6s_0 : Int) (outs_0 : Int) (outs : List Int) (outs' : List Int) (t29 : Int) (t30 : Int) => x86 k k86_1005 (t86_1005 t6s_0 outs_0 outs outs' t29 t30))) = l86 k
  | 0 => rfl
  | k + 1 => by
    have h := q86 k
    show _ = (F86_1002 k ((l86 k).1) ((l86 k).2), F86_1005 k ((l86 k).1) ((l86 k).2))
    rw [← h]
    exact (Prod.ext (funext fun t6s_0 => funext fun outs_0 => funext fun outs => funext fun outs' => e86_1002 k t6s_0 outs_0 outs outs') (funext fun t6s_0 => funext fun outs_0 => funext fun outs => funext fun outs' => funext fun t29 => funext fun t30 => e86_1005 k t6s_0 outs_0 outs outs' t29 t30))
theorem w86 (k : Nat) (k_ : Int) (low : List (Int)) (high : List (Int)) : runFn ti (envOf env26) 53 h86 (finT ti true Go.Proofs.Try.f86.results.toList [(.pair (.int .i64) (.pair (.slice 3 (.int .i64)) (.slice 3 (.int .i64))), true), (.bool, false)] (.pair (.pair (.int .i64) (.pair (.slice 3 (.int .i64)) (.slice 3 (.int .i64)))) (.bool))) k (bodyOf Go.Proofs.Try.f86) (initS 0 [.int .i64 k_, .slc 3 (.int .i64) low, .slc 3 (.int .i64) high]) = F86 k (fun (t6s_0 : Int) (outs_0 : Int) (outs : List Int) (outs' : List Int) => x86 k k86_1002 (t86_1002 t6s_0 outs_0 outs outs')) (fun (t6s_0 : Int) (outs_0 : Int) (outs : List Int) (outs' : List Int) (t29 : Int) (t30 : Int) => x86 k k86_1005 (t86_1005 t6s_0 outs_0 outs outs' t29 t30)) k_ low high := by kernel_rfl
theorem v86 (k : Nat) (k_ : Int) (low : List (Int)) (high : List (Int)) : runFn ti (envOf env26) 53 h86 (finT ti true Go.Proofs.Try.f86.results.toList [(.pair (.int .i64) (.pair (.slice 3 (.int .i64)) (.slice 3 (.int .i64))), true), (.bool, false)] (.pair (.pair (.int .i64) (.pair (.slice 3 (.int .i64)) (.slice 3 (.int .i64)))) (.bool))) k (bodyOf Go.Proofs.Try.f86) (initS 0 [.int .i64 k_, .slc 3 (.int .i64) low, .slc 3 (.int .i64) high]) = f86 k k_ low high := by
  rw [w86]
  have h := q86 k
  unfold f86
  rw [← h]
theorem m86 : Meets Go.Proofs.Try.prog 86 s86 := meets_of_run tiOk env26_ok mo Go.Proofs.Try.func86 (body := bodyOf Go.Proofs.Try.f86) (by kernel_rfl) (N := 53) (by kernel_rfl) (hs := h86) (by
  intro k xs r h
  unfold s86 at h
  dsimp only at h
  split at h
  · exact ⟨Nat.le_of_ble_eq_true rfl, (v86 k _ _ _).trans h⟩
  · cases h)
theorem env27_ok : EnvOk Go.Proofs.Try.prog (envOf env27) := envOf_cons m86 Go.Proofs.Try.func86 (by kernel_rfl) (by kernel_rfl) env26_ok

-- spec.bxHalves
noncomputable def f64 (k : Nat) (L_K : Int) (L_Low : List (Int)) (L_High : List (Int)) (i : Int) : Option ((List (Int × (List (Int)) × List (Int))) × Bool) :=
  (f85 k L_K L_Low L_High).bind fun r0 =>
  bif boundA i (List.length L_Low) then
    bif boundA i (List.length L_High) then
      (f63 k r0.fst).bind fun r1 =>
      (f63 k r0.snd).bind fun r2 =>
      bif boundA i (List.length r1) then
        bif Nat.blt (Int.toNat i) (List.length r1) then
          bif boundA i (List.length r2) then
            bif Nat.blt (Int.toNat i) (List.length r2) then
              (f86 k (IntKind.wrap IntKind.i64 (L_K + 1)) r0.fst (List.set r2 (Int.toNat i) (IntKind.wrap IntKind.i64 (List.getD L_Low (Int.toNat i) 0 + List.getD L_High (Int.toNat i) 0)))).bind fun r3 =>
              (f86 k (IntKind.wrap IntKind.i64 (L_K + 1)) (List.set r1 (Int.toNat i) (IntKind.wrap IntKind.i64 (List.getD L_Low (Int.toNat i) 0 + List.getD L_High (Int.toNat i) 0))) r0.snd).bind fun r4 =>
              bif !r3.snd then
                some (([], false))
              else
                bif !r4.snd then
                  some (([], false))
                else
                  some (([(r3.fst.fst, r3.fst.snd.fst, r3.fst.snd.snd), (r4.fst.fst, r4.fst.snd.fst, r4.fst.snd.snd)], true))
            else
              none
          else
            none
        else
          none
      else
        none
    else
      none
  else
    none
noncomputable def s64 : Spec := ⟨false, [(.slice 31 (.pair (.int .i64) (.pair (.slice 3 (.int .i64)) (.slice 3 (.int .i64)))), false), (.bool, false)], true, .pair (.slice 31 (.pair (.int .i64) (.pair (.slice 3 (.int .i64)) (.slice 3 (.int .i64))))) (.bool), fun k xs => match xs with | [.agg [.int .i64 L_K, .slc 3 (.int .i64) L_Low, .slc 3 (.int .i64) L_High], .int .i64 i] => f64 k L_K L_Low L_High i | _ => none, false, none, false⟩
noncomputable def env28 : List (FuncId × Spec) := (64, s64) :: env27
theorem v64 (k : Nat) (L_K : Int) (L_Low : List (Int)) (L_High : List (Int)) (i : Int) : runFn ti (envOf env27) 70 [] (finT ti true Go.Proofs.Try.f64.results.toList [(.slice 31 (.pair (.int .i64) (.pair (.slice 3 (.int .i64)) (.slice 3 (.int .i64)))), false), (.bool, false)] (.pair (.slice 31 (.pair (.int .i64) (.pair (.slice 3 (.int .i64)) (.slice 3 (.int .i64))))) (.bool))) k (bodyOf Go.Proofs.Try.f64) (initS 0 [.agg [.int .i64 L_K, .slc 3 (.int .i64) L_Low, .slc 3 (.int .i64) L_High], .int .i64 i]) = f64 k L_K L_Low L_High i := by kernel_rfl
theorem m64 : Meets Go.Proofs.Try.prog 64 s64 := meets_of_run tiOk env27_ok mo Go.Proofs.Try.func64 (body := bodyOf Go.Proofs.Try.f64) (by kernel_rfl) (N := 70) (by kernel_rfl) (hs := []) (by
  intro k xs r h
  unfold s64 at h
  dsimp only at h
  split at h
  · exact ⟨Nat.le_of_ble_eq_true rfl, (v64 k _ _ _ _).trans h⟩
  · cases h)
theorem env28_ok : EnvOk Go.Proofs.Try.prog (envOf env28) := envOf_cons m64 Go.Proofs.Try.func64 (by kernel_rfl) (by kernel_rfl) env27_ok

-- spec.trBoxes
def h34 : Hints := [(1004, .lab [(6, .one (.own 31 (Ty.pair (Ty.int IntKind.i64) (Ty.pair (Ty.slice 3 (Ty.int IntKind.i64)) (Ty.slice 3 (Ty.int IntKind.i64)))))), (7, .one (.own 31 (Ty.pair (Ty.int IntKind.i64) (Ty.pair (Ty.slice 3 (Ty.int IntKind.i64)) (Ty.slice 3 (Ty.int IntKind.i64)))))), (15, .one (.frz 57 (Ty.pair (Ty.int IntKind.i64) (Ty.int IntKind.i64)))), (16, .one (.v)), (17, .one (.v))])]
noncomputable def F34_1004 (k : Nat) (rec1004 : List (Int × List Int × List Int) → List (Int × List Int × List Int) → List (Int × Int) → Int → Int → Option ((List (Int × (List (Int)) × List (Int))) × Bool)) (os : List (Int × List Int × List Int)) (As : List (Int × List Int × List Int)) (t15 : List (Int × Int)) (t16 : Int) (t17 : Int) : Option ((List (Int × (List (Int)) × List (Int))) × Bool) :=
  bif decide (t17 < t16) then
    bif boundA t17 (List.length t15) then
      bif boundA (IntKind.wrap IntKind.i64 ((↑(List.length As) : Int) - 1)) (List.length As) then
        bif Nat.blt (Int.toNat (IntKind.wrap IntKind.i64 ((↑(List.length As) : Int) - 1))) (List.length As) then
          bif boundE (IntKind.wrap IntKind.i64 ((↑(List.length As) : Int) - 1)) (List.length As) then
            bif !decide ((List.getD t15 (Int.toNat t17) (0, 0)).fst = 0) then
              (f63 k (List.getD As (Int.toNat (IntKind.wrap IntKind.i64 ((↑(List.length As) : Int) - 1))) (0, [], [])).snd.fst).bind fun r0 =>
              (f63 k (List.getD As (Int.toNat (IntKind.wrap IntKind.i64 ((↑(List.length As) : Int) - 1))) (0, [], [])).snd.snd).bind fun r1 =>
              bif decide ((List.length os + List.length [((List.getD As (Int.toNat (IntKind.wrap IntKind.i64 ((↑(List.length As) : Int) - 1))) (0, [], [])).fst, r0, r1)]) * 56 ≤ 140737488355328) then
                rec1004 (os ++ [((List.getD As (Int.toNat (IntKind.wrap IntKind.i64 ((↑(List.length As) : Int) - 1))) (0, [], [])).fst, r0, r1)]) (List.take (Int.toNat (IntKind.wrap IntKind.i64 ((↑(List.length As) : Int) - 1))) As) t15 t16 (IntKind.wrap IntKind.i64 (t17 + 1))
              else
                none
            else
              (f64 k (List.getD As (Int.toNat (IntKind.wrap IntKind.i64 ((↑(List.length As) : Int) - 1))) (0, [], [])).fst (List.getD As (Int.toNat (IntKind.wrap IntKind.i64 ((↑(List.length As) : Int) - 1))) (0, [], [])).snd.fst (List.getD As (Int.toNat (IntKind.wrap IntKind.i64 ((↑(List.length As) : Int) - 1))) (0, [], [])).snd.snd (List.getD t15 (Int.toNat t17) (0, 0)).snd).bind fun r2 =>
              bif !r2.snd then
                some (([], false))
              else
                bif boundA 1 (List.length r2.fst) then
                  bif Nat.blt (Int.toNat 1) (List.length r2.fst) then
                    bif boundA 0 (List.length r2.fst) then
                      bif Nat.blt (Int.toNat 0) (List.length r2.fst) then
                        bif decide ((List.length (List.take (Int.toNat (IntKind.wrap IntKind.i64 ((↑(List.length As) : Int) - 1))) As) + List.length [((List.getD r2.fst (Int.toNat 1) (0, [], [])).fst, (List.getD r2.fst (Int.toNat 1) (0, [], [])).snd.fst, (List.getD r2.fst (Int.toNat 1) (0, [], [])).snd.snd), ((List.getD r2.fst (Int.toNat 0) (0, [], [])).fst, (List.getD r2.fst (Int.toNat 0) (0, [], [])).snd.fst, (List.getD r2.fst (Int.toNat 0) (0, [], [])).snd.snd)]) * 56 ≤ 140737488355328) then
                          rec1004 os (List.take (Int.toNat (IntKind.wrap IntKind.i64 ((↑(List.length As) : Int) - 1))) As ++ [((List.getD r2.fst (Int.toNat 1) (0, [], [])).fst, (List.getD r2.fst (Int.toNat 1) (0, [], [])).snd.fst, (List.getD r2.fst (Int.toNat 1) (0, [], [])).snd.snd), ((List.getD r2.fst (Int.toNat 0) (0, [], [])).fst, (List.getD r2.fst (Int.toNat 0) (0, [], [])).snd.fst, (List.getD r2.fst (Int.toNat 0) (0, [], [])).snd.snd)]) t15 t16 (IntKind.wrap IntKind.i64 (t17 + 1))
                        else
                          none
                      else
                        none
                    else
                      none
                  else
                    none
                else
                  none
          else
            none
        else
          none
      else
        none
    else
      none
  else
    some ((os, true))
noncomputable def F34 (k : Nat) (rec1004 : List (Int × List Int × List Int) → List (Int × List Int × List Int) → List (Int × Int) → Int → Int → Option ((List (Int × (List (Int)) × List (Int))) × Bool)) (L_K : Int) (L_Low : List (Int)) (L_High : List (Int)) (i : List (Int × Int)) : Option ((List (Int × (List (Int)) × List (Int))) × Bool) :=
  rec1004 ([]) ([(L_K, L_Low, L_High)]) i ((↑(List.length i) : Int)) (0)
noncomputable def l34 : Nat → (List (Int × List Int × List Int) → List (Int × List Int × List Int) → List (Int × Int) → Int → Int → Option ((List (Int × (List (Int)) × List (Int))) × Bool))
  | 0 => fun _ _ _ _ _ => none
  | k + 1 => F34_1004 k (l34 k)
noncomputable def f34 (k : Nat) (L_K : Int) (L_Low : List (Int)) (L_High : List (Int)) (i : List (Int × Int)) : Option ((List (Int × (List (Int)) × List (Int))) × Bool) := F34 k (l34 k) L_K L_Low L_High i
noncomputable def s34 : Spec := ⟨false, [(.slice 31 (.pair (.int .i64) (.pair (.slice 3 (.int .i64)) (.slice 3 (.int .i64)))), false), (.bool, false)], true, .pair (.slice 31 (.pair (.int .i64) (.pair (.slice 3 (.int .i64)) (.slice 3 (.int .i64))))) (.bool), fun k xs => match xs with | [.agg [.int .i64 L_K, .slc 3 (.int .i64) L_Low, .slc 3 (.int .i64) L_High], .slc 57 (.pair (.int .i64) (.int .i64)) i] => f34 k L_K L_Low L_High i | _ => none, false, none, false⟩
noncomputable def env29 : List (FuncId × Spec) := (34, s34) :: env28
noncomputable abbrev x34 := exec tiC (envOf env28) 67 h34 (finT tiC true Go.Proofs.Try.f34.results.toList [(.slice 31 (.pair (.int .i64) (.pair (.slice 3 (.int .i64)) (.slice 3 (.int .i64)))), false), (.bool, false)] (.pair (.slice 31 (.pair (.int .i64) (.pair (.slice 3 (.int .i64)) (.slice 3 (.int .i64))))) (.bool)))
noncomputable def k34_1004 : List It := stackAt [.r, .r, .r, .l, .r, .b, .lb none] (bodyOf Go.Proofs.Try.f34) []
def t34_1004 (os : List (Int × List Int × List Int)) (As : List (Int × List Int × List Int)) (t15 : List (Int × Int)) (t16 : Int) (t17 : Int) : St := [(12, Cell.val (AVal.ref 33 none)), (33, Cell.row true 31 (Ty.pair (Ty.int IntKind.i64) (Ty.pair (Ty.slice 3 (Ty.int IntKind.i64)) (Ty.slice 3 (Ty.int IntKind.i64)))) os), (14, Cell.val (AVal.ref 35 none)), (35, Cell.row true 31 (Ty.pair (Ty.int IntKind.i64) (Ty.pair (Ty.slice 3 (Ty.int IntKind.i64)) (Ty.slice 3 (Ty.int IntKind.i64)))) As), (30, Cell.val (AVal.slc 57 (Ty.pair (Ty.int IntKind.i64) (Ty.int IntKind.i64)) t15)), (32, Cell.val (AVal.int IntKind.i64 t16)), (34, Cell.val (AVal.int IntKind.i64 t17))]
theorem e34_1004 (k : Nat) (os : List (Int × List Int × List Int)) (As : List (Int × List Int × List Int)) (t15 : List (Int × Int)) (t16 : Int) (t17 : Int) : x34 (k + 1) k34_1004 (t34_1004 os As t15 t16 t17) = F34_1004 k (fun (os : List (Int × List Int × List Int)) (As : List (Int × List Int × List Int)) (t15 : List (Int × Int)) (t16 : Int) (t17 : Int) => x34 k k34_1004 (t34_1004 os As t15 t16 t17)) os As t15 t16 t17 := by kernel_rfl
theorem q34 : ∀ k : Nat, (fun (os : List (Int × List Int × List Int)) (As : List (Int × List Int × List Int)) (t15 : List (Int × Int)) (t16 : Int) (t17 : Int) => x34 k k34_1004 (t34_1004 os As t15 t16 t17)) = l34 k
  | 0 => rfl
  | k + 1 => by
    have h := q34 k
    show _ = F34_1004 k (l34 k)
    rw [← h]
    exact (funext fun os => funext fun As => funext fun t15 => funext fun t16 => funext fun t17 => e34_1004 k os As t15 t16 t17)
theorem w34 (k : Nat) (L_K : Int) (L_Low : List (Int)) (L_High : List (Int)) (i : List (Int × Int)) : runFn tiC (envOf env28) 67 h34 (finT tiC true Go.Proofs.Try.f34.results.toList [(.slice 31 (.pair (.int .i64) (.pair (.slice 3 (.int .i64)) (.slice 3 (.int .i64)))), false), (.bool, false)] (.pair (.slice 31 (.pair (.int .i64) (.pair (.slice 3 (.int .i64)) (.slice 3 (.int .i64))))) (.bool))) k (bodyOf Go.Proofs.Try.f34) (initS 0 [.agg [.int .i64 L_K, .slc 3 (.int .i64) L_Low, .slc 3 (.int .i64) L_High], .slc 57 (.pair (.int .i64) (.int .i64)) i]) = F34 k (fun (os : List (Int × List Int × List Int)) (As : List (Int × List Int × List Int)) (t15 : List (Int × Int)) (t16 : Int) (t17 : Int) => x34 k k34_1004 (t34_1004 os As t15 t16 t17)) L_K L_Low L_High i := by kernel_rfl
theorem v34 (k : Nat) (L_K : Int) (L_Low : List (Int)) (L_High : List (Int)) (i : List (Int × Int)) : runFn tiC (envOf env28) 67 h34 (finT tiC true Go.Proofs.Try.f34.results.toList [(.slice 31 (.pair (.int .i64) (.pair (.slice 3 (.int .i64)) (.slice 3 (.int .i64)))), false), (.bool, false)] (.pair (.slice 31 (.pair (.int .i64) (.pair (.slice 3 (.int .i64)) (.slice 3 (.int .i64))))) (.bool))) k (bodyOf Go.Proofs.Try.f34) (initS 0 [.agg [.int .i64 L_K, .slc 3 (.int .i64) L_Low, .slc 3 (.int .i64) L_High], .slc 57 (.pair (.int .i64) (.int .i64)) i]) = f34 k L_K L_Low L_High i := by
  rw [w34]
  have h := q34 k
  unfold f34
  rw [← h]
theorem m34 : Meets Go.Proofs.Try.prog 34 s34 := meets_of_run tiCOk env28_ok mo Go.Proofs.Try.func34 (body := bodyOf Go.Proofs.Try.f34) (by kernel_rfl) (N := 67) (by kernel_rfl) (hs := h34) (by
  intro k xs r h
  unfold s34 at h
  dsimp only at h
  split at h
  · exact ⟨Nat.le_of_ble_eq_true rfl, (v34 k _ _ _ _).trans h⟩
  · cases h)
theorem env29_ok : EnvOk Go.Proofs.Try.prog (envOf env29) := envOf_cons m34 Go.Proofs.Try.func34 (by kernel_rfl) (by kernel_rfl) env28_ok

-- spec.rpAsked
noncomputable def f46 (k : Nat) (b_K : Int) (b_Low : List (Int)) (b_High : List (Int)) (l : List (Int × Int)) : Option ((List (Int × (List (Int)) × List (Int))) × Bool) :=
  (f32 k b_K b_Low b_High).bind fun r0 =>
  bif !r0 then
    some (([], false))
  else
    (f33 k l (↑(List.length b_Low) : Int)).bind fun r1 =>
    bif !r1 then
      some (([], false))
    else
      (f34 k b_K b_Low b_High l).bind fun r2 =>
      some ((r2.fst, r2.snd))
noncomputable def s46 : Spec := ⟨false, [(.slice 31 (.pair (.int .i64) (.pair (.slice 3 (.int .i64)) (.slice 3 (.int .i64)))), false), (.bool, false)], true, .pair (.slice 31 (.pair (.int .i64) (.pair (.slice 3 (.int .i64)) (.slice 3 (.int .i64))))) (.bool), fun k xs => match xs with | [.agg [.int .i64 b_K, .slc 3 (.int .i64) b_Low, .slc 3 (.int .i64) b_High], .slc 57 (.pair (.int .i64) (.int .i64)) l] => f46 k b_K b_Low b_High l | _ => none, false, none, false⟩
noncomputable def env30 : List (FuncId × Spec) := (46, s46) :: env29
theorem v46 (k : Nat) (b_K : Int) (b_Low : List (Int)) (b_High : List (Int)) (l : List (Int × Int)) : runFn ti (envOf env29) 22 [] (finT ti true Go.Proofs.Try.f46.results.toList [(.slice 31 (.pair (.int .i64) (.pair (.slice 3 (.int .i64)) (.slice 3 (.int .i64)))), false), (.bool, false)] (.pair (.slice 31 (.pair (.int .i64) (.pair (.slice 3 (.int .i64)) (.slice 3 (.int .i64))))) (.bool))) k (bodyOf Go.Proofs.Try.f46) (initS 0 [.agg [.int .i64 b_K, .slc 3 (.int .i64) b_Low, .slc 3 (.int .i64) b_High], .slc 57 (.pair (.int .i64) (.int .i64)) l]) = f46 k b_K b_Low b_High l := by kernel_rfl
theorem m46 : Meets Go.Proofs.Try.prog 46 s46 := meets_of_run tiOk env29_ok mo Go.Proofs.Try.func46 (body := bodyOf Go.Proofs.Try.f46) (by kernel_rfl) (N := 22) (by kernel_rfl) (hs := []) (by
  intro k xs r h
  unfold s46 at h
  dsimp only at h
  split at h
  · exact ⟨Nat.le_of_ble_eq_true rfl, (v46 k _ _ _ _).trans h⟩
  · cases h)
theorem env30_ok : EnvOk Go.Proofs.Try.prog (envOf env30) := envOf_cons m46 Go.Proofs.Try.func46 (by kernel_rfl) (by kernel_rfl) env29_ok

-- spec.rpLeaves
def h48 : Hints := [(1003, .lab [(3, .one (.own 57 (Ty.pair (Ty.int IntKind.i64) (Ty.int IntKind.i64)))), (6, .one (.frz 57 (Ty.pair (Ty.int IntKind.i64) (Ty.int IntKind.i64)))), (7, .one (.v)), (8, .one (.v))])]
noncomputable def F48_1003 (k : Nat) (rec1003 : List (Int × Int) → List (Int × Int) → Int → Int → Option (List (Int × Int))) (outs : List (Int × Int)) (t6 : List (Int × Int)) (t7 : Int) (t8 : Int) : Option (List (Int × Int)) :=
  bif decide (t8 < t7) then
    bif boundA t8 (List.length t6) then
      bif !decide ((List.getD t6 (Int.toNat t8) (0, 0)).fst = 0) then
        bif decide ((List.length outs + List.length [((List.getD t6 (Int.toNat t8) (0, 0)).fst, (List.getD t6 (Int.toNat t8) (0, 0)).snd)]) * 16 ≤ 140737488355328) then
          rec1003 (outs ++ [((List.getD t6 (Int.toNat t8) (0, 0)).fst, (List.getD t6 (Int.toNat t8) (0, 0)).snd)]) t6 t7 (IntKind.wrap IntKind.i64 (t8 + 1))
        else
          none
      else
        rec1003 outs t6 t7 (IntKind.wrap IntKind.i64 (t8 + 1))
    else
      none
  else
    some outs
noncomputable def F48 (k : Nat) (rec1003 : List (Int × Int) → List (Int × Int) → Int → Int → Option (List (Int × Int))) (l : List (Int × Int)) : Option (List (Int × Int)) :=
  rec1003 ([]) l ((↑(List.length l) : Int)) (0)
noncomputable def l48 : Nat → (List (Int × Int) → List (Int × Int) → Int → Int → Option (List (Int × Int)))
  | 0 => fun _ _ _ _ => none
  | k + 1 => F48_1003 k (l48 k)
noncomputable def f48 (k : Nat) (l : List (Int × Int)) : Option (List (Int × Int)) := F48 k (l48 k) l
noncomputable def s48 : Spec := ⟨false, [(.slice 57 (.pair (.int .i64) (.int .i64)), false)], true, .slice 57 (.pair (.int .i64) (.int .i64)), fun k xs => match xs with | [.slc 57 (.pair (.int .i64) (.int .i64)) l] => f48 k l | _ => none, false, none, false⟩
noncomputable def env31 : List (FuncId × Spec) := (48, s48) :: env30
noncomputable abbrev x48 := exec ti (envOf env30) 21 h48 (finT ti true Go.Proofs.Try.f48.results.toList [(.slice 57 (.pair (.int .i64) (.int .i64)), false)] (.slice 57 (.pair (.int .i64) (.int .i64))))
noncomputable def k48_1003 : List It := stackAt [.r, .r, .l, .r, .b, .lb none] (bodyOf Go.Proofs.Try.f48) []
def t48_1003 (outs : List (Int × Int)) (t6 : List (Int × Int)) (t7 : Int) (t8 : Int) : St := [(6, Cell.val (AVal.ref 33 none)), (33, Cell.row true 57 (Ty.pair (Ty.int IntKind.i64) (Ty.int IntKind.i64)) outs), (12, Cell.val (AVal.slc 57 (Ty.pair (Ty.int IntKind.i64) (Ty.int IntKind.i64)) t6)), (14, Cell.val (AVal.int IntKind.i64 t7)), (16, Cell.val (AVal.int IntKind.i64 t8))]
theorem e48_1003 (k : Nat) (outs : List (Int × Int)) (t6 : List (Int × Int)) (t7 : Int) (t8 : Int) : x48 (k + 1) k48_1003 (t48_1003 outs t6 t7 t8) = F48_1003 k (fun (outs : List (Int × Int)) (t6 : List (Int × Int)) (t7 : Int) (t8 : Int) => x48 k k48_1003 (t48_1003 outs t6 t7 t8)) outs t6 t7 t8 := by kernel_rfl
theorem q48 : ∀ k : Nat, (fun (outs : List (Int × Int)) (t6 : List (Int × Int)) (t7 : Int) (t8 : Int) => x48 k k48_1003 (t48_1003 outs t6 t7 t8)) = l48 k
  | 0 => rfl
  | k + 1 => by
    have h := q48 k
    show _ = F48_1003 k (l48 k)
    rw [← h]
    exact (funext fun outs => funext fun t6 => funext fun t7 => funext fun t8 => e48_1003 k outs t6 t7 t8)
theorem w48 (k : Nat) (l : List (Int × Int)) : runFn ti (envOf env30) 21 h48 (finT ti true Go.Proofs.Try.f48.results.toList [(.slice 57 (.pair (.int .i64) (.int .i64)), false)] (.slice 57 (.pair (.int .i64) (.int .i64)))) k (bodyOf Go.Proofs.Try.f48) (initS 0 [.slc 57 (.pair (.int .i64) (.int .i64)) l]) = F48 k (fun (outs : List (Int × Int)) (t6 : List (Int × Int)) (t7 : Int) (t8 : Int) => x48 k k48_1003 (t48_1003 outs t6 t7 t8)) l := by kernel_rfl
theorem v48 (k : Nat) (l : List (Int × Int)) : runFn ti (envOf env30) 21 h48 (finT ti true Go.Proofs.Try.f48.results.toList [(.slice 57 (.pair (.int .i64) (.int .i64)), false)] (.slice 57 (.pair (.int .i64) (.int .i64)))) k (bodyOf Go.Proofs.Try.f48) (initS 0 [.slc 57 (.pair (.int .i64) (.int .i64)) l]) = f48 k l := by
  rw [w48]
  have h := q48 k
  unfold f48
  rw [← h]
theorem m48 : Meets Go.Proofs.Try.prog 48 s48 := meets_of_run tiOk env30_ok mo Go.Proofs.Try.func48 (body := bodyOf Go.Proofs.Try.f48) (by kernel_rfl) (N := 21) (by kernel_rfl) (hs := h48) (by
  intro k xs r h
  unfold s48 at h
  dsimp only at h
  split at h
  · exact ⟨Nat.le_of_ble_eq_true rfl, (v48 k _).trans h⟩
  · cases h)
theorem env31_ok : EnvOk Go.Proofs.Try.prog (envOf env31) := envOf_cons m48 Go.Proofs.Try.func48 (by kernel_rfl) (by kernel_rfl) env30_ok

-- spec.dyDown
noncomputable def f90 (k : Nat) (a : Int) (b : Int) : Option (Int) :=
  bif !decide (b = 0) then
    bif !decide (b = 0) then
      bif decide (Int.tmod a b < 0) then
        some (IntKind.wrap IntKind.i64 (IntKind.wrap IntKind.i64 (Int.tdiv a b) - 1))
      else
        some (IntKind.wrap IntKind.i64 (Int.tdiv a b))
    else
      none
  else
    none
noncomputable def s90 : Spec := ⟨false, [(.int .i64, false)], true, .int .i64, fun k xs => match xs with | [.int .i64 a, .int .i64 b] => f90 k a b | _ => none, false, none, false⟩
noncomputable def env32 : List (FuncId × Spec) := (90, s90) :: env31
theorem v90 (k : Nat) (a : Int) (b : Int) : runFn ti (envOf env31) 16 [] (finT ti true Go.Proofs.Try.f90.results.toList [(.int .i64, false)] (.int .i64)) k (bodyOf Go.Proofs.Try.f90) (initS 0 [.int .i64 a, .int .i64 b]) = f90 k a b := by kernel_rfl
theorem m90 : Meets Go.Proofs.Try.prog 90 s90 := meets_of_run tiOk env31_ok mo Go.Proofs.Try.func90 (body := bodyOf Go.Proofs.Try.f90) (by kernel_rfl) (N := 16) (by kernel_rfl) (hs := []) (by
  intro k xs r h
  unfold s90 at h
  dsimp only at h
  split at h
  · exact ⟨Nat.le_of_ble_eq_true rfl, (v90 k _ _).trans h⟩
  · cases h)
theorem env32_ok : EnvOk Go.Proofs.Try.prog (envOf env32) := envOf_cons m90 Go.Proofs.Try.func90 (by kernel_rfl) (by kernel_rfl) env31_ok

-- spec.dyFloor
noncomputable def f72 (k : Nat) (a_N : Int) (a_K : Int) : Option (Int) :=
  (f61 k a_K).bind fun r0 =>
  (f90 k a_N r0).bind fun r1 =>
  some r1
noncomputable def s72 : Spec := ⟨false, [(.int .i64, false)], true, .int .i64, fun k xs => match xs with | [.agg [.int .i64 a_N, .int .i64 a_K]] => f72 k a_N a_K | _ => none, false, none, false⟩
noncomputable def env33 : List (FuncId × Spec) := (72, s72) :: env32
theorem v72 (k : Nat) (a_N : Int) (a_K : Int) : runFn ti (envOf env32) 9 [] (finT ti true Go.Proofs.Try.f72.results.toList [(.int .i64, false)] (.int .i64)) k (bodyOf Go.Proofs.Try.f72) (initS 0 [.agg [.int .i64 a_N, .int .i64 a_K]]) = f72 k a_N a_K := by kernel_rfl
theorem m72 : Meets Go.Proofs.Try.prog 72 s72 := meets_of_run tiOk env32_ok mo Go.Proofs.Try.func72 (body := bodyOf Go.Proofs.Try.f72) (by kernel_rfl) (N := 9) (by kernel_rfl) (hs := []) (by
  intro k xs r h
  unfold s72 at h
  dsimp only at h
  split at h
  · exact ⟨Nat.le_of_ble_eq_true rfl, (v72 k _ _).trans h⟩
  · cases h)
theorem env33_ok : EnvOk Go.Proofs.Try.prog (envOf env33) := envOf_cons m72 Go.Proofs.Try.func72 (by kernel_rfl) (by kernel_rfl) env32_ok

-- spec.l1Sign
noncomputable def f73 (k : Nat) (n : Int) : Option (Int) :=
  bif decide (0 < n) then
    some (1)
  else
    bif decide (n < 0) then
      some (-1)
    else
      some (0)
noncomputable def s73 : Spec := ⟨false, [(.int .i64, false)], true, .int .i64, fun k xs => match xs with | [.int .i64 n] => f73 k n | _ => none, false, none, false⟩
noncomputable def env34 : List (FuncId × Spec) := (73, s73) :: env33
theorem v73 (k : Nat) (n : Int) : runFn ti (envOf env33) 9 [] (finT ti true Go.Proofs.Try.f73.results.toList [(.int .i64, false)] (.int .i64)) k (bodyOf Go.Proofs.Try.f73) (initS 0 [.int .i64 n]) = f73 k n := by kernel_rfl
theorem m73 : Meets Go.Proofs.Try.prog 73 s73 := meets_of_run tiOk env33_ok mo Go.Proofs.Try.func73 (body := bodyOf Go.Proofs.Try.f73) (by kernel_rfl) (N := 9) (by kernel_rfl) (hs := []) (by
  intro k xs r h
  unfold s73 at h
  dsimp only at h
  split at h
  · exact ⟨Nat.le_of_ble_eq_true rfl, (v73 k _).trans h⟩
  · cases h)
theorem env34_ok : EnvOk Go.Proofs.Try.prog (envOf env34) := envOf_cons m73 Go.Proofs.Try.func73 (by kernel_rfl) (by kernel_rfl) env33_ok

-- spec.dyAt
def h74 : Hints := [(1004, .lab [(1, .one (.v)), (2, .box 71 [.v, .v]), (6, .one (.v))])]
noncomputable def F74_1004 (k : Nat) (rec1004 : Int → Int → Int → Int → Option (Int × Bool)) (k_ : Int) (as_0 : Int) (as_1 : Int) (i : Int) : Option (Int × Bool) :=
  bif decide (i < k_) then
    (f60 k as_0 (IntKind.wrap IntKind.i64 (0 - IntKind.wrap IntKind.i64 (1 * 2 ^ min (Int.toNat (IntKind.wrap IntKind.u64 60)) (IntKind.bits IntKind.i64)))) (IntKind.wrap IntKind.i64 (1 * 2 ^ min (Int.toNat (IntKind.wrap IntKind.u64 60)) (IntKind.bits IntKind.i64)))).bind fun r0 =>
    bif !r0 then
      some ((0, false))
    else
      rec1004 k_ (IntKind.wrap IntKind.i64 (as_0 * 2)) as_1 (IntKind.wrap IntKind.i64 (i + 1))
  else
    some ((as_0, true))
noncomputable def F74 (k : Nat) (rec1004 : Int → Int → Int → Int → Option (Int × Bool)) (a_N : Int) (a_K : Int) (k_ : Int) : Option (Int × Bool) :=
  bif decide (a_N = 0) then
    some ((0, true))
  else
    rec1004 k_ a_N a_K a_K
noncomputable def l74 : Nat → (Int → Int → Int → Int → Option (Int × Bool))
  | 0 => fun _ _ _ _ => none
  | k + 1 => F74_1004 k (l74 k)
noncomputable def f74 (k : Nat) (a_N : Int) (a_K : Int) (k_ : Int) : Option (Int × Bool) := F74 k (l74 k) a_N a_K k_
noncomputable def s74 : Spec := ⟨false, [(.int .i64, false), (.bool, false)], true, .pair (.int .i64) (.bool), fun k xs => match xs with | [.agg [.int .i64 a_N, .int .i64 a_K], .int .i64 k_] => f74 k a_N a_K k_ | _ => none, false, none, false⟩
noncomputable def env35 : List (FuncId × Spec) := (74, s74) :: env34
noncomputable abbrev x74 := exec ti (envOf env34) 30 h74 (finT ti true Go.Proofs.Try.f74.results.toList [(.int .i64, false), (.bool, false)] (.pair (.int .i64) (.bool)))
noncomputable def k74_1004 : List It := stackAt [.r, .r, .l, .r, .b, .lb none] (bodyOf Go.Proofs.Try.f74) []
def t74_1004 (k_ : Int) (as_0 : Int) (as_1 : Int) (i : Int) : St := [(2, Cell.val (AVal.int IntKind.i64 k_)), (4, Cell.val (AVal.ptr 33 0)), (33, Cell.mem true 71 [AVal.int IntKind.i64 as_0, AVal.int IntKind.i64 as_1]), (12, Cell.val (AVal.int IntKind.i64 i))]
theorem e74_1004 (k : Nat) (k_ : Int) (as_0 : Int) (as_1 : Int) (i : Int) : x74 (k + 1) k74_1004 (t74_1004 k_ as_0 as_1 i) = F74_1004 k (fun (k_ : Int) (as_0 : Int) (as_1 : Int) (i : Int) => x74 k k74_1004 (t74_1004 k_ as_0 as_1 i)) k_ as_0 as_1 i := by kernel_rfl
theorem q74 : ∀ k : Nat, (fun (k_ : Int) (as_0 : Int) (as_1 : Int) (i : Int) => x74 k k74_1004 (t74_1004 k_ as_0 as_1 i)) = l74 k
  | 0 => rfl
  | k + 1 => by
    have h := q74 k
    show _ = F74_1004 k (l74 k)
    rw [← h]
    exact (funext fun k_ => funext fun as_0 => funext fun as_1 => funext fun i => e74_1004 k k_ as_0 as_1 i)
theorem w74 (k : Nat) (a_N : Int) (a_K : Int) (k_ : Int) : runFn ti (envOf env34) 30 h74 (finT ti true Go.Proofs.Try.f74.results.toList [(.int .i64, false), (.bool, false)] (.pair (.int .i64) (.bool))) k (bodyOf Go.Proofs.Try.f74) (initS 0 [.agg [.int .i64 a_N, .int .i64 a_K], .int .i64 k_]) = F74 k (fun (k_ : Int) (as_0 : Int) (as_1 : Int) (i : Int) => x74 k k74_1004 (t74_1004 k_ as_0 as_1 i)) a_N a_K k_ := by kernel_rfl
theorem v74 (k : Nat) (a_N : Int) (a_K : Int) (k_ : Int) : runFn ti (envOf env34) 30 h74 (finT ti true Go.Proofs.Try.f74.results.toList [(.int .i64, false), (.bool, false)] (.pair (.int .i64) (.bool))) k (bodyOf Go.Proofs.Try.f74) (initS 0 [.agg [.int .i64 a_N, .int .i64 a_K], .int .i64 k_]) = f74 k a_N a_K k_ := by
  rw [w74]
  have h := q74 k
  unfold f74
  rw [← h]
theorem m74 : Meets Go.Proofs.Try.prog 74 s74 := meets_of_run tiOk env34_ok mo Go.Proofs.Try.func74 (body := bodyOf Go.Proofs.Try.f74) (by kernel_rfl) (N := 30) (by kernel_rfl) (hs := h74) (by
  intro k xs r h
  unfold s74 at h
  dsimp only at h
  split at h
  · exact ⟨Nat.le_of_ble_eq_true rfl, (v74 k _ _ _).trans h⟩
  · cases h)
theorem env35_ok : EnvOk Go.Proofs.Try.prog (envOf env35) := envOf_cons m74 Go.Proofs.Try.func74 (by kernel_rfl) (by kernel_rfl) env34_ok

-- spec.dyCmp
noncomputable def f52 (k : Nat) (a_N : Int) (a_K : Int) (b_N : Int) (b_K : Int) : Option (Int) :=
  (f72 k a_N a_K).bind fun r0 =>
  (f72 k b_N b_K).bind fun r1 =>
  bif !decide (r0 = r1) then
    (f73 k (IntKind.wrap IntKind.i64 (r0 - r1))).bind fun r2 =>
    some r2
  else
    (f61 k a_K).bind fun r3 =>
    (f74 k (IntKind.wrap IntKind.i64 (a_N - IntKind.wrap IntKind.i64 (r0 * r3))) a_K 24).bind fun r4 =>
    (f61 k b_K).bind fun r5 =>
    (f74 k (IntKind.wrap IntKind.i64 (b_N - IntKind.wrap IntKind.i64 (r1 * r5))) b_K 24).bind fun r6 =>
    (f73 k (IntKind.wrap IntKind.i64 (r4.fst - r6.fst))).bind fun r7 =>
    some r7
noncomputable def s52 : Spec := ⟨false, [(.int .i64, false)], true, .int .i64, fun k xs => match xs with | [.agg [.int .i64 a_N, .int .i64 a_K], .agg [.int .i64 b_N, .int .i64 b_K]] => f52 k a_N a_K b_N b_K | _ => none, false, none, false⟩
noncomputable def env36 : List (FuncId × Spec) := (52, s52) :: env35
theorem v52 (k : Nat) (a_N : Int) (a_K : Int) (b_N : Int) (b_K : Int) : runFn ti (envOf env35) 56 [] (finT ti true Go.Proofs.Try.f52.results.toList [(.int .i64, false)] (.int .i64)) k (bodyOf Go.Proofs.Try.f52) (initS 0 [.agg [.int .i64 a_N, .int .i64 a_K], .agg [.int .i64 b_N, .int .i64 b_K]]) = f52 k a_N a_K b_N b_K := by kernel_rfl
theorem m52 : Meets Go.Proofs.Try.prog 52 s52 := meets_of_run tiOk env35_ok mo Go.Proofs.Try.func52 (body := bodyOf Go.Proofs.Try.f52) (by kernel_rfl) (N := 56) (by kernel_rfl) (hs := []) (by
  intro k xs r h
  unfold s52 at h
  dsimp only at h
  split at h
  · exact ⟨Nat.le_of_ble_eq_true rfl, (v52 k _ _ _ _).trans h⟩
  · cases h)
theorem env36_ok : EnvOk Go.Proofs.Try.prog (envOf env36) := envOf_cons m52 Go.Proofs.Try.func52 (by kernel_rfl) (by kernel_rfl) env35_ok

end Go.Proofs.YtchdegcfohegfaaE
