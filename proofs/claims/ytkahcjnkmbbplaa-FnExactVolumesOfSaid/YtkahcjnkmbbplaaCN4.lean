/- Functions, by the engine; printed. -/
import Derived.Test.YtkahcjnkmbbplaaCN3
set_option maxRecDepth 100000
set_option maxHeartbeats 4000000
set_option linter.unusedVariables false
namespace Go.Proofs.YtkahcjnkmbbplaaE
-- spec.bxVolume
def h54 : Hints := [(1003, .lab [(1, .box 32 [.v, .frz 3 (Ty.int IntKind.i64), .frz 3 (Ty.int IntKind.i64)]), (2, .box 68 [.v, .v]), (3, .one (.v)), (7, .one (.frz 3 (Ty.int IntKind.i64))), (8, .one (.v)), (9, .one (.v))])]
noncomputable def F54_1003 (k : Nat) (rec1003 : Int → List Int → List Int → Int → Int → Int → List Int → Int → Int → Option (Int × Int)) (bs_0 : Int) (bs_1 : List Int) (bs_2 : List Int) (t2s_0 : Int) (t2s_1 : Int) (n : Int) (t7 : List Int) (t8 : Int) (t9 : Int) : Option (Int × Int) :=
  bif decide (t9 < t8) then
    bif boundA t9 (List.length t7) then
      bif boundA t9 (List.length bs_2) then
        rec1003 bs_0 bs_1 bs_2 t2s_0 t2s_1 (IntKind.wrap IntKind.i64 (n * IntKind.wrap IntKind.i64 (List.getD bs_2 (Int.toNat t9) 0 - List.getD t7 (Int.toNat t9) 0))) t7 t8 (IntKind.wrap IntKind.i64 (t9 + 1))
      else
        none
    else
      none
  else
    (f71 k n (IntKind.wrap IntKind.i64 ((↑(List.length bs_1) : Int) * bs_0))).bind fun r0 =>
    some ((r0.fst, r0.snd))
noncomputable def F54 (k : Nat) (rec1003 : Int → List Int → List Int → Int → Int → Int → List Int → Int → Int → Option (Int × Int)) (b_K : Int) (b_Low : List (Int)) (b_High : List (Int)) : Option (Int × Int) :=
  rec1003 b_K b_Low b_High (0) (0) (1) b_Low ((↑(List.length b_Low) : Int)) (0)
noncomputable def l54 : Nat → (Int → List Int → List Int → Int → Int → Int → List Int → Int → Int → Option (Int × Int))
  | 0 => fun _ _ _ _ _ _ _ _ _ => none
  | k + 1 => F54_1003 k (l54 k)
noncomputable def f54 (k : Nat) (b_K : Int) (b_Low : List (Int)) (b_High : List (Int)) : Option (Int × Int) := F54 k (l54 k) b_K b_Low b_High
noncomputable def s54 : Spec := ⟨false, [(.pair (.int .i64) (.int .i64), true)], true, .pair (.int .i64) (.int .i64), fun k xs => match xs with | [.agg [.int .i64 b_K, .slc 3 (.int .i64) b_Low, .slc 3 (.int .i64) b_High]] => f54 k b_K b_Low b_High | _ => none, false, none⟩
noncomputable def env37 : List (FuncId × Spec) := (54, s54) :: env36
noncomputable abbrev x54 := exec ti (envOf env36) 32 h54 (finT ti true Go.Proofs.Try.f54.results.toList [(.pair (.int .i64) (.int .i64), true)] (.pair (.int .i64) (.int .i64)))
noncomputable def k54_1003 : List It := stackAt [.r, .r, .l, .r, .b, .lb none] (bodyOf Go.Proofs.Try.f54) []
def t54_1003 (bs_0 : Int) (bs_1 : List Int) (bs_2 : List Int) (t2s_0 : Int) (t2s_1 : Int) (n : Int) (t7 : List Int) (t8 : Int) (t9 : Int) : St := [(2, Cell.val (AVal.ptr 33 0)), (33, Cell.mem true 32 [AVal.int IntKind.i64 bs_0, AVal.slc 3 (Ty.int IntKind.i64) bs_1, AVal.slc 3 (Ty.int IntKind.i64) bs_2]), (4, Cell.val (AVal.ptr 35 0)), (35, Cell.mem true 68 [AVal.int IntKind.i64 t2s_0, AVal.int IntKind.i64 t2s_1]), (6, Cell.val (AVal.int IntKind.i64 n)), (14, Cell.val (AVal.slc 3 (Ty.int IntKind.i64) t7)), (16, Cell.val (AVal.int IntKind.i64 t8)), (18, Cell.val (AVal.int IntKind.i64 t9))]
theorem e54_1003 (k : Nat) (bs_0 : Int) (bs_1 : List Int) (bs_2 : List Int) (t2s_0 : Int) (t2s_1 : Int) (n : Int) (t7 : List Int) (t8 : Int) (t9 : Int) : x54 (k + 1) k54_1003 (t54_1003 bs_0 bs_1 bs_2 t2s_0 t2s_1 n t7 t8 t9) = F54_1003 k (fun (bs_0 : Int) (bs_1 : List Int) (bs_2 : List Int) (t2s_0 : Int) (t2s_1 : Int) (n : Int) (t7 : List Int) (t8 : Int) (t9 : Int) => x54 k k54_1003 (t54_1003 bs_0 bs_1 bs_2 t2s_0 t2s_1 n t7 t8 t9)) bs_0 bs_1 bs_2 t2s_0 t2s_1 n t7 t8 t9 := by kernel_rfl
theorem q54 : ∀ k : Nat, (fun (bs_0 : Int) (bs_1 : List Int) (bs_2 : List Int) (t2s_0 : Int) (t2s_1 : Int) (n : Int) (t7 : List Int) (t8 : Int) (t9 : Int) => x54 k k54_1003 (t54_1003 bs_0 bs_1 bs_2 t2s_0 t2s_1 n t7 t8 t9)) = l54 k
  | 0 => rfl
  | k + 1 => by
    have h := q54 k
    show _ = F54_1003 k (l54 k)
    rw [← h]
    exact (funext fun bs_0 => funext fun bs_1 => funext fun bs_2 => funext fun t2s_0 => funext fun t2s_1 => funext fun n => funext fun t7 => funext fun t8 => funext fun t9 => e54_1003 k bs_0 bs_1 bs_2 t2s_0 t2s_1 n t7 t8 t9)
theorem w54 (k : Nat) (b_K : Int) (b_Low : List (Int)) (b_High : List (Int)) : runFn ti (envOf env36) 32 h54 (finT ti true Go.Proofs.Try.f54.results.toList [(.pair (.int .i64) (.int .i64), true)] (.pair (.int .i64) (.int .i64))) k (bodyOf Go.Proofs.Try.f54) (initS 0 [.agg [.int .i64 b_K, .slc 3 (.int .i64) b_Low, .slc 3 (.int .i64) b_High]]) = F54 k (fun (bs_0 : Int) (bs_1 : List Int) (bs_2 : List Int) (t2s_0 : Int) (t2s_1 : Int) (n : Int) (t7 : List Int) (t8 : Int) (t9 : Int) => x54 k k54_1003 (t54_1003 bs_0 bs_1 bs_2 t2s_0 t2s_1 n t7 t8 t9)) b_K b_Low b_High := by kernel_rfl
theorem v54 (k : Nat) (b_K : Int) (b_Low : List (Int)) (b_High : List (Int)) : runFn ti (envOf env36) 32 h54 (finT ti true Go.Proofs.Try.f54.results.toList [(.pair (.int .i64) (.int .i64), true)] (.pair (.int .i64) (.int .i64))) k (bodyOf Go.Proofs.Try.f54) (initS 0 [.agg [.int .i64 b_K, .slc 3 (.int .i64) b_Low, .slc 3 (.int .i64) b_High]]) = f54 k b_K b_Low b_High := by
  rw [w54]
  have h := q54 k
  unfold f54
  rw [← h]
theorem m54 : Meets Go.Proofs.Try.prog 54 s54 := meets_of_run tiOk env36_ok mo Go.Proofs.Try.func54 (body := bodyOf Go.Proofs.Try.f54) (by kernel_rfl) (N := 32) (by kernel_rfl) (hs := h54) (by
  intro k xs r h
  unfold s54 at h
  dsimp only at h
  split at h
  · exact ⟨Nat.le_of_ble_eq_true rfl, (v54 k _ _ _).trans h⟩
  · cases h)
theorem env37_ok : EnvOk Go.Proofs.Try.prog (envOf env37) := envOf_cons m54 Go.Proofs.Try.func54 (by kernel_rfl) (by kernel_rfl) env36_ok

-- spec.l1Most
noncomputable def f111 (k : Nat) (a : Int) (b : Int) : Option (Int) :=
  bif decide (b < a) then
    some a
  else
    some b
noncomputable def s111 : Spec := ⟨false, [(.int .i64, false)], true, .int .i64, fun k xs => match xs with | [.int .i64 a, .int .i64 b] => f111 k a b | _ => none, false, none⟩
noncomputable def env38 : List (FuncId × Spec) := (111, s111) :: env37
theorem v111 (k : Nat) (a : Int) (b : Int) : runFn ti (envOf env37) 10 [] (finT ti true Go.Proofs.Try.f111.results.toList [(.int .i64, false)] (.int .i64)) k (bodyOf Go.Proofs.Try.f111) (initS 0 [.int .i64 a, .int .i64 b]) = f111 k a b := by kernel_rfl
theorem m111 : Meets Go.Proofs.Try.prog 111 s111 := meets_of_run tiOk env37_ok mo Go.Proofs.Try.func111 (body := bodyOf Go.Proofs.Try.f111) (by kernel_rfl) (N := 10) (by kernel_rfl) (hs := []) (by
  intro k xs r h
  unfold s111 at h
  dsimp only at h
  split at h
  · exact ⟨Nat.le_of_ble_eq_true rfl, (v111 k _ _).trans h⟩
  · cases h)
theorem env38_ok : EnvOk Go.Proofs.Try.prog (envOf env38) := envOf_cons m111 Go.Proofs.Try.func111 (by kernel_rfl) (by kernel_rfl) env37_ok

-- spec.dyAdd
noncomputable def f82 (k : Nat) (a_N : Int) (a_K : Int) (b_N : Int) (b_K : Int) : Option ((Int × Int) × Bool) :=
  (f111 k a_K b_K).bind fun r0 =>
  (f64 k a_N a_K r0).bind fun r1 =>
  (f64 k b_N b_K r0).bind fun r2 =>
  bif !r1.snd then
    some (((0, 0), false))
  else
    bif !r2.snd then
      some (((0, 0), false))
    else
      (f103 k (IntKind.wrap IntKind.i64 (r1.fst + r2.fst)) r0).bind fun r3 =>
      some (((r3.fst.fst, r3.fst.snd), r3.snd))
noncomputable def s82 : Spec := ⟨false, [(.pair (.int .i64) (.int .i64), true), (.bool, false)], true, .pair (.pair (.int .i64) (.int .i64)) (.bool), fun k xs => match xs with | [.agg [.int .i64 a_N, .int .i64 a_K], .agg [.int .i64 b_N, .int .i64 b_K]] => f82 k a_N a_K b_N b_K | _ => none, false, none⟩
noncomputable def env39 : List (FuncId × Spec) := (82, s82) :: env38
theorem v82 (k : Nat) (a_N : Int) (a_K : Int) (b_N : Int) (b_K : Int) : runFn ti (envOf env38) 42 [] (finT ti true Go.Proofs.Try.f82.results.toList [(.pair (.int .i64) (.int .i64), true), (.bool, false)] (.pair (.pair (.int .i64) (.int .i64)) (.bool))) k (bodyOf Go.Proofs.Try.f82) (initS 0 [.agg [.int .i64 a_N, .int .i64 a_K], .agg [.int .i64 b_N, .int .i64 b_K]]) = f82 k a_N a_K b_N b_K := by kernel_rfl
theorem m82 : Meets Go.Proofs.Try.prog 82 s82 := meets_of_run tiOk env38_ok mo Go.Proofs.Try.func82 (body := bodyOf Go.Proofs.Try.f82) (by kernel_rfl) (N := 42) (by kernel_rfl) (hs := []) (by
  intro k xs r h
  unfold s82 at h
  dsimp only at h
  split at h
  · exact ⟨Nat.le_of_ble_eq_true rfl, (v82 k _ _ _ _).trans h⟩
  · cases h)
theorem env39_ok : EnvOk Go.Proofs.Try.prog (envOf env39) := envOf_cons m82 Go.Proofs.Try.func82 (by kernel_rfl) (by kernel_rfl) env38_ok

-- spec.rpVolume
def h50 : Hints := [(1003, .lab [(0, .one (.frz 32 (Ty.pair (Ty.int IntKind.i64) (Ty.pair (Ty.slice 3 (Ty.int IntKind.i64)) (Ty.slice 3 (Ty.int IntKind.i64)))))), (2, .one (.v)), (6, .box 68 [.v, .v]), (7, .box 68 [.v, .v]), (12, .one (.own 63 (Ty.pair (Ty.int IntKind.i64) (Ty.int IntKind.i64)))), (13, .one (.v)), (14, .one (.v))])]
noncomputable def F50_1003 (k : Nat) (rec1003 : List (Int × List Int × List Int) → Int → Int → Int → Int → Int → List (Int × Int) → Int → Int → Option (Int × Int)) (boxes : List (Int × List Int × List Int)) (kind : Int) (t6s_0 : Int) (t6s_1 : Int) (sums_0 : Int) (sums_1 : Int) (t12s : List (Int × Int)) (t13 : Int) (t14 : Int) : Option (Int × Int) :=
  bif decide (t14 < t13) then
    bif boundA t14 (List.length t12s) then
      bif Nat.blt (Int.toNat t14) (List.length t12s) then
        bif decide ((List.getD t12s (Int.toNat t14) (0, 0)).fst = kind) then
          bif boundA t14 (List.length boxes) then
            (f54 k (List.getD boxes (Int.toNat t14) (0, [], [])).fst (List.getD boxes (Int.toNat t14) (0, [], [])).snd.fst (List.getD boxes (Int.toNat t14) (0, [], [])).snd.snd).bind fun r0 =>
            (f82 k sums_0 sums_1 r0.fst r0.snd).bind fun r1 =>
            rec1003 boxes kind t6s_0 t6s_1 (r1.fst.fst) (r1.fst.snd) t12s t13 (IntKind.wrap IntKind.i64 (t14 + 1))
          else
            none
        else
          rec1003 boxes kind t6s_0 t6s_1 sums_0 sums_1 t12s t13 (IntKind.wrap IntKind.i64 (t14 + 1))
      else
        none
    else
      none
  else
    some ((sums_0, sums_1))
noncomputable def F50 (k : Nat) (rec1003 : List (Int × List Int × List Int) → Int → Int → Int → Int → Int → List (Int × Int) → Int → Int → Option (Int × Int)) (boxes : List (Int × (List (Int)) × List (Int))) (l : List (Int × Int)) (kind : Int) : Option (Int × Int) :=
  (f53 k l).bind fun r0 =>
  rec1003 boxes kind (0) (0) (0) (0) r0 ((↑(List.length r0) : Int)) (0)
noncomputable def l50 : Nat → (List (Int × List Int × List Int) → Int → Int → Int → Int → Int → List (Int × Int) → Int → Int → Option (Int × Int))
  | 0 => fun _ _ _ _ _ _ _ _ _ => none
  | k + 1 => F50_1003 k (l50 k)
noncomputable def f50 (k : Nat) (boxes : List (Int × (List (Int)) × List (Int))) (l : List (Int × Int)) (kind : Int) : Option (Int × Int) := F50 k (l50 k) boxes l kind
noncomputable def s50 : Spec := ⟨false, [(.pair (.int .i64) (.int .i64), true)], true, .pair (.int .i64) (.int .i64), fun k xs => match xs with | [.slc 32 (.pair (.int .i64) (.pair (.slice 3 (.int .i64)) (.slice 3 (.int .i64)))) boxes, .slc 63 (.pair (.int .i64) (.int .i64)) l, .int .i64 kind] => f50 k boxes l kind | _ => none, false, none⟩
noncomputable def env40 : List (FuncId × Spec) := (50, s50) :: env39
noncomputable abbrev x50 := exec ti (envOf env39) 35 h50 (finT ti true Go.Proofs.Try.f50.results.toList [(.pair (.int .i64) (.int .i64), true)] (.pair (.int .i64) (.int .i64)))
noncomputable def k50_1003 : List It := stackAt [.r, .r, .l, .r, .b, .lb none] (bodyOf Go.Proofs.Try.f50) []
def t50_1003 (boxes : List (Int × List Int × List Int)) (kind : Int) (t6s_0 : Int) (t6s_1 : Int) (sums_0 : Int) (sums_1 : Int) (t12s : List (Int × Int)) (t13 : Int) (t14 : Int) : St := [(0, Cell.val (AVal.slc 32 (Ty.pair (Ty.int IntKind.i64) (Ty.pair (Ty.slice 3 (Ty.int IntKind.i64)) (Ty.slice 3 (Ty.int IntKind.i64)))) boxes)), (4, Cell.val (AVal.int IntKind.i64 kind)), (12, Cell.val (AVal.ptr 33 0)), (33, Cell.mem true 68 [AVal.int IntKind.i64 t6s_0, AVal.int IntKind.i64 t6s_1]), (14, Cell.val (AVal.ptr 35 0)), (35, Cell.mem true 68 [AVal.int IntKind.i64 sums_0, AVal.int IntKind.i64 sums_1]), (24, Cell.val (AVal.ref 37 none)), (37, Cell.row true 63 (Ty.pair (Ty.int IntKind.i64) (Ty.int IntKind.i64)) t12s), (26, Cell.val (AVal.int IntKind.i64 t13)), (28, Cell.val (AVal.int IntKind.i64 t14))]
theorem e50_1003 (k : Nat) (boxes : List (Int × List Int × List Int)) (kind : Int) (t6s_0 : Int) (t6s_1 : Int) (sums_0 : Int) (sums_1 : Int) (t12s : List (Int × Int)) (t13 : Int) (t14 : Int) : x50 (k + 1) k50_1003 (t50_1003 boxes kind t6s_0 t6s_1 sums_0 sums_1 t12s t13 t14) = F50_1003 k (fun (boxes : List (Int × List Int × List Int)) (kind : Int) (t6s_0 : Int) (t6s_1 : Int) (sums_0 : Int) (sums_1 : Int) (t12s : List (Int × Int)) (t13 : Int) (t14 : Int) => x50 k k50_1003 (t50_1003 boxes kind t6s_0 t6s_1 sums_0 sums_1 t12s t13 t14)) boxes kind t6s_0 t6s_1 sums_0 sums_1 t12s t13 t14 := by kernel_rfl
theorem q50 : ∀ k : Nat, (fun (boxes : List (Int × List Int × List Int)) (kind : Int) (t6s_0 : Int) (t6s_1 : Int) (sums_0 : Int) (sums_1 : Int) (t12s : List (Int × Int)) (t13 : Int) (t14 : Int) => x50 k k50_1003 (t50_1003 boxes kind t6s_0 t6s_1 sums_0 sums_1 t12s t13 t14)) = l50 k
  | 0 => rfl
  | k + 1 => by
    have h := q50 k
    show _ = F50_1003 k (l50 k)
    rw [← h]
    exact (funext fun boxes => funext fun kind => funext fun t6s_0 => funext fun t6s_1 => funext fun sums_0 => funext fun sums_1 => funext fun t12s => funext fun t13 => funext fun t14 => e50_1003 k boxes kind t6s_0 t6s_1 sums_0 sums_1 t12s t13 t14)
theorem w50 (k : Nat) (boxes : List (Int × (List (Int)) × List (Int))) (l : List (Int × Int)) (kind : Int) : runFn ti (envOf env39) 35 h50 (finT ti true Go.Proofs.Try.f50.results.toList [(.pair (.int .i64) (.int .i64), true)] (.pair (.int .i64) (.int .i64))) k (bodyOf Go.Proofs.Try.f50) (initS 0 [.slc 32 (.pair (.int .i64) (.pair (.slice 3 (.int .i64)) (.slice 3 (.int .i64)))) boxes, .slc 63 (.pair (.int .i64) (.int .i64)) l, .int .i64 kind]) = F50 k (fun (boxes : List (Int × List Int × List Int)) (kind : Int) (t6s_0 : Int) (t6s_1 : Int) (sums_0 : Int) (sums_1 : Int) (t12s : List (Int × Int)) (t13 : Int) (t14 : Int) => x50 k k50_1003 (t50_1003 boxes kind t6s_0 t6s_1 sums_0 sums_1 t12s t13 t14)) boxes l kind := by kernel_rfl
theorem v50 (k : Nat) (boxes : List (Int × (List (Int)) × List (Int))) (l : List (Int × Int)) (kind : Int) : runFn ti (envOf env39) 35 h50 (finT ti true Go.Proofs.Try.f50.results.toList [(.pair (.int .i64) (.int .i64), true)] (.pair (.int .i64) (.int .i64))) k (bodyOf Go.Proofs.Try.f50) (initS 0 [.slc 32 (.pair (.int .i64) (.pair (.slice 3 (.int .i64)) (.slice 3 (.int .i64)))) boxes, .slc 63 (.pair (.int .i64) (.int .i64)) l, .int .i64 kind]) = f50 k boxes l kind := by
  rw [w50]
  have h := q50 k
  unfold f50
  rw [← h]
theorem m50 : Meets Go.Proofs.Try.prog 50 s50 := meets_of_run tiOk env39_ok mo Go.Proofs.Try.func50 (body := bodyOf Go.Proofs.Try.f50) (by kernel_rfl) (N := 35) (by kernel_rfl) (hs := h50) (by
  intro k xs r h
  unfold s50 at h
  dsimp only at h
  split at h
  · exact ⟨Nat.le_of_ble_eq_true rfl, (v50 k _ _ _).trans h⟩
  · cases h)
theorem env40_ok : EnvOk Go.Proofs.Try.prog (envOf env40) := envOf_cons m50 Go.Proofs.Try.func50 (by kernel_rfl) (by kernel_rfl) env39_ok

-- spec.CompareTrees
noncomputable def f19 (k : Nat) (b_K : Int) (b_Low : List (Int)) (b_High : List (Int)) (l : List (Int × Int)) (m : List (Int × Int)) : Option (Int × Bool) :=
  (f35 k b_K b_Low b_High l).bind fun r0 =>
  (f35 k b_K b_Low b_High m).bind fun r1 =>
  bif !r0.snd then
    some ((0, false))
  else
    bif !r1.snd then
      some ((0, false))
    else
      (f50 k r0.fst l 3).bind fun r2 =>
      (f50 k r1.fst m 3).bind fun r3 =>
      (f49 k r2.fst r2.snd r3.fst r3.snd).bind fun r4 =>
      some ((r4, true))
noncomputable def s19 : Spec := ⟨false, [(.int .i64, false), (.bool, false)], true, .pair (.int .i64) (.bool), fun k xs => match xs with | [.agg [.int .i64 b_K, .slc 3 (.int .i64) b_Low, .slc 3 (.int .i64) b_High], .slc 63 (.pair (.int .i64) (.int .i64)) l, .slc 63 (.pair (.int .i64) (.int .i64)) m] => f19 k b_K b_Low b_High l m | _ => none, false, none⟩
noncomputable def env41 : List (FuncId × Spec) := (19, s19) :: env40
theorem v19 (k : Nat) (b_K : Int) (b_Low : List (Int)) (b_High : List (Int)) (l : List (Int × Int)) (m : List (Int × Int)) : runFn ti (envOf env40) 37 [] (finT ti true Go.Proofs.Try.f19.results.toList [(.int .i64, false), (.bool, false)] (.pair (.int .i64) (.bool))) k (bodyOf Go.Proofs.Try.f19) (initS 0 [.agg [.int .i64 b_K, .slc 3 (.int .i64) b_Low, .slc 3 (.int .i64) b_High], .slc 63 (.pair (.int .i64) (.int .i64)) l, .slc 63 (.pair (.int .i64) (.int .i64)) m]) = f19 k b_K b_Low b_High l m := by kernel_rfl
theorem m19 : Meets Go.Proofs.Try.prog 19 s19 := meets_of_run tiOk env40_ok mo Go.Proofs.Try.func19 (body := bodyOf Go.Proofs.Try.f19) (by kernel_rfl) (N := 37) (by kernel_rfl) (hs := []) (by
  intro k xs r h
  unfold s19 at h
  dsimp only at h
  split at h
  · exact ⟨Nat.le_of_ble_eq_true rfl, (v19 k _ _ _ _ _).trans h⟩
  · cases h)
theorem env41_ok : EnvOk Go.Proofs.Try.prog (envOf env41) := envOf_cons m19 Go.Proofs.Try.func19 (by kernel_rfl) (by kernel_rfl) env40_ok

-- impl.scaled
def h104 : Hints := [(1003, .lab [(1, .one (.v)), (5, .one (.own 3 (Ty.int IntKind.i64))), (8, .one (.frz 3 (Ty.int IntKind.i64))), (9, .one (.v)), (10, .one (.v))])]
noncomputable def F104_1003 (k : Nat) (rec1003 : Int → List Int → List Int → Int → Int → Option (List (Int))) (k_ : Int) (outs : List Int) (t8 : List Int) (t9 : Int) (t10 : Int) : Option (List (Int)) :=
  bif decide (t10 < t9) then
    bif boundA t10 (List.length t8) then
      bif !decide (k_ < 0) then
        bif decide ((List.length outs + List.length [IntKind.wrap IntKind.i64 (List.getD t8 (Int.toNat t10) 0 * 2 ^ min (Int.toNat k_) (IntKind.bits IntKind.i64))]) * 8 ≤ 140737488355328) then
          rec1003 k_ (outs ++ [IntKind.wrap IntKind.i64 (List.getD t8 (Int.toNat t10) 0 * 2 ^ min (Int.toNat k_) (IntKind.bits IntKind.i64))]) t8 t9 (IntKind.wrap IntKind.i64 (t10 + 1))
        else
          none
      else
        none
    else
      none
  else
    some outs
noncomputable def F104 (k : Nat) (rec1003 : Int → List Int → List Int → Int → Int → Option (List (Int))) (list : List (Int)) (k_ : Int) : Option (List (Int)) :=
  rec1003 k_ ([]) list ((↑(List.length list) : Int)) (0)
noncomputable def l104 : Nat → (Int → List Int → List Int → Int → Int → Option (List (Int)))
  | 0 => fun _ _ _ _ _ => none
  | k + 1 => F104_1003 k (l104 k)
noncomputable def f104 (k : Nat) (list : List (Int)) (k_ : Int) : Option (List (Int)) := F104 k (l104 k) list k_
noncomputable def s104 : Spec := ⟨false, [(.slice 3 (.int .i64), false)], true, .slice 3 (.int .i64), fun k xs => match xs with | [.slc 3 (.int .i64) list, .int .i64 k_] => f104 k list k_ | _ => none, false, none⟩
noncomputable def env42 : List (FuncId × Spec) := (104, s104) :: env41
noncomputable abbrev x104 := exec ti (envOf env41) 22 h104 (finT ti true Go.Proofs.Try.f104.results.toList [(.slice 3 (.int .i64), false)] (.slice 3 (.int .i64)))
noncomputable def k104_1003 : List It := stackAt [.r, .r, .l, .r, .b, .lb none] (bodyOf Go.Proofs.Try.f104) []
def t104_1003 (k_ : Int) (outs : List Int) (t8 : List Int) (t9 : Int) (t10 : Int) : St := [(2, Cell.val (AVal.int IntKind.i64 k_)), (10, Cell.val (AVal.ref 33 none)), (33, Cell.row true 3 (Ty.int IntKind.i64) outs), (16, Cell.val (AVal.slc 3 (Ty.int IntKind.i64) t8)), (18, Cell.val (AVal.int IntKind.i64 t9)), (20, Cell.val (AVal.int IntKind.i64 t10))]
theorem e104_1003 (k : Nat) (k_ : Int) (outs : List Int) (t8 : List Int) (t9 : Int) (t10 : Int) : x104 (k + 1) k104_1003 (t104_1003 k_ outs t8 t9 t10) = F104_1003 k (fun (k_ : Int) (outs : List Int) (t8 : List Int) (t9 : Int) (t10 : Int) => x104 k k104_1003 (t104_1003 k_ outs t8 t9 t10)) k_ outs t8 t9 t10 := by kernel_rfl
theorem q104 : ∀ k : Nat, (fun (k_ : Int) (outs : List Int) (t8 : List Int) (t9 : Int) (t10 : Int) => x104 k k104_1003 (t104_1003 k_ outs t8 t9 t10)) = l104 k
  | 0 => rfl
  | k + 1 => by
    have h := q104 k
    show _ = F104_1003 k (l104 k)
    rw [← h]
    exact (funext fun k_ => funext fun outs => funext fun t8 => funext fun t9 => funext fun t10 => e104_1003 k k_ outs t8 t9 t10)
theorem w104 (k : Nat) (list : List (Int)) (k_ : Int) : runFn ti (envOf env41) 22 h104 (finT ti true Go.Proofs.Try.f104.results.toList [(.slice 3 (.int .i64), false)] (.slice 3 (.int .i64))) k (bodyOf Go.Proofs.Try.f104) (initS 0 [.slc 3 (.int .i64) list, .int .i64 k_]) = F104 k (fun (k_ : Int) (outs : List Int) (t8 : List Int) (t9 : Int) (t10 : Int) => x104 k k104_1003 (t104_1003 k_ outs t8 t9 t10)) list k_ := by kernel_rfl
theorem v104 (k : Nat) (list : List (Int)) (k_ : Int) : runFn ti (envOf env41) 22 h104 (finT ti true Go.Proofs.Try.f104.results.toList [(.slice 3 (.int .i64), false)] (.slice 3 (.int .i64))) k (bodyOf Go.Proofs.Try.f104) (initS 0 [.slc 3 (.int .i64) list, .int .i64 k_]) = f104 k list k_ := by
  rw [w104]
  have h := q104 k
  unfold f104
  rw [← h]
theorem m104 : Meets Go.Proofs.Try.prog 104 s104 := meets_of_run tiOk env41_ok mo Go.Proofs.Try.func104 (body := bodyOf Go.Proofs.Try.f104) (by kernel_rfl) (N := 22) (by kernel_rfl) (hs := h104) (by
  intro k xs r h
  unfold s104 at h
  dsimp only at h
  split at h
  · exact ⟨Nat.le_of_ble_eq_true rfl, (v104 k _ _).trans h⟩
  · cases h)
theorem env42_ok : EnvOk Go.Proofs.Try.prog (envOf env42) := envOf_cons m104 Go.Proofs.Try.func104 (by kernel_rfl) (by kernel_rfl) env41_ok

-- slices.Clone[[]int,int]
noncomputable def f105 (k : Nat) (s : List (Int)) : Option (List (Int)) :=
  bif decide ((0 + List.length s) * 8 ≤ 140737488355328) then
    some s
  else
    none
noncomputable def s105 : Spec := ⟨false, [(.slice 3 (.int .i64), false)], true, .slice 3 (.int .i64), fun k xs => match xs with | [.slc 3 (.int .i64) s] => f105 k s | _ => none, false, none⟩
noncomputable def env43 : List (FuncId × Spec) := (105, s105) :: env42
theorem m105 : Meets Go.Proofs.Try.prog 105 s105 := meets_clone (N := 8) tiOk env42_ok mo Go.Proofs.Try.func105 rfl rfl rfl rfl rfl rfl rfl rfl rfl rfl Go.Proofs.Try.underlying22 rfl (Nat.le_of_ble_eq_true rfl) (by
  intro k xs r h
  unfold s105 at h
  dsimp only at h
  split at h
  · rename_i s
    refine ⟨3, (.int .i64), s, rfl, fun hx => ?_, ?_⟩
    · subst hx
      refine Eq.trans ?_ h
      kernel_rfl
    · refine Eq.trans ?_ h
      kernel_rfl
  · cases h)
theorem env43_ok : EnvOk Go.Proofs.Try.prog (envOf env43) := envOf_cons m105 Go.Proofs.Try.func105 (by kernel_rfl) (by kernel_rfl) env42_ok

-- impl.inside
noncomputable def f91 (k : Nat) (n : Int) (low : Int) (high : Int) : Option (Bool) :=
  bif decide (low ≤ n) then
    some (decide (n ≤ high))
  else
    some false
noncomputable def s91 : Spec := ⟨false, [(.bool, false)], true, .bool, fun k xs => match xs with | [.int .i64 n, .int .i64 low, .int .i64 high] => f91 k n low high | _ => none, false, none⟩
noncomputable def env44 : List (FuncId × Spec) := (91, s91) :: env43
theorem v91 (k : Nat) (n : Int) (low : Int) (high : Int) : runFn ti (envOf env43) 15 [] (finT ti true Go.Proofs.Try.f91.results.toList [(.bool, false)] (.bool)) k (bodyOf Go.Proofs.Try.f91) (initS 0 [.int .i64 n, .int .i64 low, .int .i64 high]) = f91 k n low high := by kernel_rfl
theorem m91 : Meets Go.Proofs.Try.prog 91 s91 := meets_of_run tiOk env43_ok mo Go.Proofs.Try.func91 (body := bodyOf Go.Proofs.Try.f91) (by kernel_rfl) (N := 15) (by kernel_rfl) (hs := []) (by
  intro k xs r h
  unfold s91 at h
  dsimp only at h
  split at h
  · exact ⟨Nat.le_of_ble_eq_true rfl, (v91 k _ _ _).trans h⟩
  · cases h)
theorem env44_ok : EnvOk Go.Proofs.Try.prog (envOf env44) := envOf_cons m91 Go.Proofs.Try.func91 (by kernel_rfl) (by kernel_rfl) env43_ok

-- impl.isBox
def h60 : Hints := [(1005, .lab [(0, .one (.v)), (3, .one (.v)), (4, .one (.v)), (48, .one (.frz 3 (Ty.int IntKind.i64))), (49, .one (.v)), (50, .one (.v))])]
noncomputable def F60_1005 (k : Nat) (rec1005 : Int × List Int × List Int → Int → Bool → List Int → Int → Int → Option (Bool)) (L : Int × List Int × List Int) (t : Int) (t4 : Bool) (t48 : List Int) (t49 : Int) (t50 : Int) : Option (Bool) :=
  bif decide (t50 < t49) then
    bif boundA t50 (List.length t48) then
      (f91 k (List.getD t48 (Int.toNat t50) 0) (IntKind.wrap IntKind.i64 (0 - t)) t).bind fun r0 =>
      bif !r0 then
        some false
      else
        bif boundA t50 (List.length L.snd.snd) then
          (f91 k (List.getD L.snd.snd (Int.toNat t50) 0) (IntKind.wrap IntKind.i64 (List.getD t48 (Int.toNat t50) 0 + 1)) t).bind fun r1 =>
          bif !r1 then
            some false
          else
            bif t4 then
              rec1005 L t true t48 t49 (IntKind.wrap IntKind.i64 (t50 + 1))
            else
              bif !decide (Int.tmod (List.getD t48 (Int.toNat t50) 0) 2 = 0) then
                rec1005 L t true t48 t49 (IntKind.wrap IntKind.i64 (t50 + 1))
              else
                bif boundA t50 (List.length L.snd.snd) then
                  rec1005 L t (!decide (Int.tmod (List.getD L.snd.snd (Int.toNat t50) 0) 2 = 0)) t48 t49 (IntKind.wrap IntKind.i64 (t50 + 1))
                else
                  none
        else
          none
    else
      none
  else
    some t4
noncomputable def F60 (k : Nat) (rec1005 : Int × List Int × List Int → Int → Bool → List Int → Int → Int → Option (Bool)) (L : Int × (List (Int)) × List (Int)) : Option (Bool) :=
  (f91 k L.fst 0 8).bind fun r0 =>
  bif !r0 then
    some false
  else
    (f91 k (↑(List.length L.snd.fst) : Int) 1 3).bind fun r1 =>
    bif !r1 then
      some false
    else
      bif !decide ((↑(List.length L.snd.snd) : Int) = (↑(List.length L.snd.fst) : Int)) then
        some false
      else
        bif !decide (L.fst < 0) then
          rec1005 L (IntKind.wrap IntKind.i64 (8 * 2 ^ min (Int.toNat L.fst) (IntKind.bits IntKind.i64))) (decide (L.fst = 0)) (L.snd.fst) ((↑(List.length L.snd.fst) : Int)) (0)
        else
          none
noncomputable def l60 : Nat → (Int × List Int × List Int → Int → Bool → List Int → Int → Int → Option (Bool))
  | 0 => fun _ _ _ _ _ _ => none
  | k + 1 => F60_1005 k (l60 k)
noncomputable def f60 (k : Nat) (L : Int × (List (Int)) × List (Int)) : Option (Bool) := F60 k (l60 k) L
noncomputable def s60 : Spec := ⟨false, [(.bool, false)], true, .bool, fun k xs => match xs with | [.fptr (.pair (.int .i64) (.pair (.slice 3 (.int .i64)) (.slice 3 (.int .i64)))) L] => f60 k L | _ => none, false, none⟩
noncomputable def env45 : List (FuncId × Spec) := (60, s60) :: env44
noncomputable abbrev x60 := exec ti (envOf env44) 94 h60 (finT ti true Go.Proofs.Try.f60.results.toList [(.bool, false)] (.bool))
noncomputable def k60_1005 : List It := stackAt [.r, .r, .r, .l, .r, .b, .lb none] (bodyOf Go.Proofs.Try.f60) []
def t60_1005 (L : Int × List Int × List Int) (t : Int) (t4 : Bool) (t48 : List Int) (t49 : Int) (t50 : Int) : St := [(0, Cell.val (AVal.fptr (Ty.pair (Ty.int IntKind.i64) (Ty.pair (Ty.slice 3 (Ty.int IntKind.i64)) (Ty.slice 3 (Ty.int IntKind.i64)))) L)), (6, Cell.val (AVal.int IntKind.i64 t)), (8, Cell.val (AVal.bool t4)), (96, Cell.val (AVal.slc 3 (Ty.int IntKind.i64) t48)), (98, Cell.val (AVal.int IntKind.i64 t49)), (100, Cell.val (AVal.int IntKind.i64 t50))]
theorem e60_1005 (k : Nat) (L : Int × List Int × List Int) (t : Int) (t4 : Bool) (t48 : List Int) (t49 : Int) (t50 : Int) : x60 (k + 1) k60_1005 (t60_1005 L t t4 t48 t49 t50) = F60_1005 k (fun (L : Int × List Int × List Int) (t : Int) (t4 : Bool) (t48 : List Int) (t49 : Int) (t50 : Int) => x60 k k60_1005 (t60_1005 L t t4 t48 t49 t50)) L t t4 t48 t49 t50 := by kernel_rfl
theorem q60 : ∀ k : Nat, (fun (L : Int × List Int × List Int) (t : Int) (t4 : Bool) (t48 : List Int) (t49 : Int) (t50 : Int) => x60 k k60_1005 (t60_1005 L t t4 t48 t49 t50)) = l60 k
  | 0 => rfl
  | k + 1 => by
    have h := q60 k
    show _ = F60_1005 k (l60 k)
    rw [← h]
    exact (funext fun L => funext fun t => funext fun t4 => funext fun t48 => funext fun t49 => funext fun t50 => e60_1005 k L t t4 t48 t49 t50)
theorem w60 (k : Nat) (L : Int × (List (Int)) × List (Int)) : runFn ti (envOf env44) 94 h60 (finT ti true Go.Proofs.Try.f60.results.toList [(.bool, false)] (.bool)) k (bodyOf Go.Proofs.Try.f60) (initS 0 [.fptr (.pair (.int .i64) (.pair (.slice 3 (.int .i64)) (.slice 3 (.int .i64)))) L]) = F60 k (fun (L : Int × List Int × List Int) (t : Int) (t4 : Bool) (t48 : List Int) (t49 : Int) (t50 : Int) => x60 k k60_1005 (t60_1005 L t t4 t48 t49 t50)) L := by kernel_rfl
theorem v60 (k : Nat) (L : Int × (List (Int)) × List (Int)) : runFn ti (envOf env44) 94 h60 (finT ti true Go.Proofs.Try.f60.results.toList [(.bool, false)] (.bool)) k (bodyOf Go.Proofs.Try.f60) (initS 0 [.fptr (.pair (.int .i64) (.pair (.slice 3 (.int .i64)) (.slice 3 (.int .i64)))) L]) = f60 k L := by
  rw [w60]
  have h := q60 k
  unfold f60
  rw [← h]
theorem m60 : Meets Go.Proofs.Try.prog 60 s60 := meets_of_run tiOk env44_ok mo Go.Proofs.Try.func60 (body := bodyOf Go.Proofs.Try.f60) (by kernel_rfl) (N := 94) (by kernel_rfl) (hs := h60) (by
  intro k xs r h
  unfold s60 at h
  dsimp only at h
  split at h
  · exact ⟨Nat.le_of_ble_eq_true rfl, (v60 k _).trans h⟩
  · cases h)
theorem env45_ok : EnvOk Go.Proofs.Try.prog (envOf env45) := envOf_cons m60 Go.Proofs.Try.func60 (by kernel_rfl) (by kernel_rfl) env44_ok

-- impl.boxOf$1
noncomputable def f123 (k : Nat) (n : Int) : Option (Bool) :=
  some (!decide (Int.tmod n 2 = 0))
noncomputable def s123 : Spec := ⟨false, [(.bool, false)], true, .bool, fun k xs => match xs with | [.int .i64 n] => f123 k n | _ => none, false, none⟩
noncomputable def env46 : List (FuncId × Spec) := (123, s123) :: env45
theorem v123 (k : Nat) (n : Int) : runFn ti (envOf env45) 6 [] (finT ti true Go.Proofs.Try.f123.results.toList [(.bool, false)] (.bool)) k (bodyOf Go.Proofs.Try.f123) (initS 0 [.int .i64 n]) = f123 k n := by kernel_rfl
theorem m123 : Meets Go.Proofs.Try.prog 123 s123 := meets_of_run tiOk env45_ok mo Go.Proofs.Try.func123 (body := bodyOf Go.Proofs.Try.f123) (by kernel_rfl) (N := 6) (by kernel_rfl) (hs := []) (by
  intro k xs r h
  unfold s123 at h
  dsimp only at h
  split at h
  · exact ⟨Nat.le_of_ble_eq_true rfl, (v123 k _).trans h⟩
  · cases h)
theorem env46_ok : EnvOk Go.Proofs.Try.prog (envOf env46) := envOf_cons m123 Go.Proofs.Try.func123 (by kernel_rfl) (by kernel_rfl) env45_ok

-- slices.IndexFunc[[]int,int]
def h127_123 : Hints := [(1002, .lab [(0, .one (.frz 3 (Ty.int IntKind.i64))), (1, .one (.v)), (7, .one (.v)), (8, .one (.v))])]
noncomputable def F127_123_1002 (k : Nat) (rec1002 : List Int → Int → Int → Option (Int)) (s : List Int) (t7 : Int) (t8 : Int) : Option (Int) :=
  bif decide (t8 < t7) then
    bif boundA t8 (List.length s) then
      bif !decide (Int.tmod (List.getD s (Int.toNat t8) 0) 2 = 0) then
        some t8
      else
        rec1002 s t7 (IntKind.wrap IntKind.i64 (t8 + 1))
    else
      none
  else
    some (-1)
noncomputable def F127_123 (k : Nat) (rec1002 : List Int → Int → Int → Option (Int)) (s : List (Int)) : Option (Int) :=
  rec1002 s ((↑(List.length s) : Int)) (0)
noncomputable def l127_123 : Nat → (List Int → Int → Int → Option (Int))
  | 0 => fun _ _ _ => none
  | k + 1 => F127_123_1002 k (l127_123 k)
noncomputable def f127_123 (k : Nat) (s : List (Int)) : Option (Int) := F127_123 k (l127_123 k) s
noncomputable def s127 : Spec := ⟨false, [(.int .i64, false)], true, .int .i64, fun k xs => match xs with | [.slc 3 (.int .i64) s, .fn 123] => f127_123 k s | _ => none, false, none⟩
noncomputable def env47 : List (FuncId × Spec) := (127, s127) :: env46
noncomputable abbrev x127_123 := exec ti (envOf env46) 19 h127_123 (finT ti true Go.Proofs.Try.f127.results.toList [(.int .i64, false)] (.int .i64))
noncomputable def k127_123_1002 : List It := stackAt [.r, .l, .r, .b, .lb none] (bodyOf Go.Proofs.Try.f127) []
def t127_123_1002 (s : List Int) (t7 : Int) (t8 : Int) : St := [(0, Cell.val (AVal.slc 3 (Ty.int IntKind.i64) s)), (2, Cell.val (AVal.fn 123)), (14, Cell.val (AVal.int IntKind.i64 t7)), (16, Cell.val (AVal.int IntKind.i64 t8))]
theorem e127_123_1002 (k : Nat) (s : List Int) (t7 : Int) (t8 : Int) : x127_123 (k + 1) k127_123_1002 (t127_123_1002 s t7 t8) = F127_123_1002 k (fun (s : List Int) (t7 : Int) (t8 : Int) => x127_123 k k127_123_1002 (t127_123_1002 s t7 t8)) s t7 t8 := by kernel_rfl
theorem q127_123 : ∀ k : Nat, (fun (s : List Int) (t7 : Int) (t8 : Int) => x127_123 k k127_123_1002 (t127_123_1002 s t7 t8)) = l127_123 k
  | 0 => rfl
  | k + 1 => by
    have h := q127_123 k
    show _ = F127_123_1002 k (l127_123 k)
    rw [← h]
    exact (funext fun s => funext fun t7 => funext fun t8 => e127_123_1002 k s t7 t8)
theorem w127_123 (k : Nat) (s : List (Int)) : runFn ti (envOf env46) 19 h127_123 (finT ti true Go.Proofs.Try.f127.results.toList [(.int .i64, false)] (.int .i64)) k (bodyOf Go.Proofs.Try.f127) (initS 0 [.slc 3 (.int .i64) s, .fn 123]) = F127_123 k (fun (s : List Int) (t7 : Int) (t8 : Int) => x127_123 k k127_123_1002 (t127_123_1002 s t7 t8)) s := by kernel_rfl
theorem v127_123 (k : Nat) (s : List (Int)) : runFn ti (envOf env46) 19 h127_123 (finT ti true Go.Proofs.Try.f127.results.toList [(.int .i64, false)] (.int .i64)) k (bodyOf Go.Proofs.Try.f127) (initS 0 [.slc 3 (.int .i64) s, .fn 123]) = f127_123 k s := by
  rw [w127_123]
  have h := q127_123 k
  unfold f127_123
  rw [← h]
theorem m127 : Meets Go.Proofs.Try.prog 127 s127 := meets_of_run tiOk env46_ok mo Go.Proofs.Try.func127 (body := bodyOf Go.Proofs.Try.f127) (by kernel_rfl) (N := 19) (by kernel_rfl) (hs := h127_123) (by
  intro k xs r h
  unfold s127 at h
  dsimp only at h
  split at h
  · exact ⟨Nat.le_of_ble_eq_true rfl, (v127_123 k _).trans h⟩
  · cases h)
theorem env47_ok : EnvOk Go.Proofs.Try.prog (envOf env47) := envOf_cons m127 Go.Proofs.Try.func127 (by kernel_rfl) (by kernel_rfl) env46_ok

-- slices.ContainsFunc[[]int,int]
noncomputable def f121_123 (k : Nat) (s : List (Int)) : Option (Bool) :=
  (f127_123 k s).bind fun r0 =>
  some (decide (0 ≤ r0))
noncomputable def s121 : Spec := ⟨false, [(.bool, false)], true, .bool, fun k xs => match xs with | [.slc 3 (.int .i64) s, .fn 123] => f121_123 k s | _ => none, false, none⟩
noncomputable def env48 : List (FuncId × Spec) := (121, s121) :: env47
theorem v121_123 (k : Nat) (s : List (Int)) : runFn ti (envOf env47) 9 [] (finT ti true Go.Proofs.Try.f121.results.toList [(.bool, false)] (.bool)) k (bodyOf Go.Proofs.Try.f121) (initS 0 [.slc 3 (.int .i64) s, .fn 123]) = f121_123 k s := by kernel_rfl
theorem m121 : Meets Go.Proofs.Try.prog 121 s121 := meets_of_run tiOk env47_ok mo Go.Proofs.Try.func121 (body := bodyOf Go.Proofs.Try.f121) (by kernel_rfl) (N := 9) (by kernel_rfl) (hs := []) (by
  intro k xs r h
  unfold s121 at h
  dsimp only at h
  split at h
  · exact ⟨Nat.le_of_ble_eq_true rfl, (v121_123 k _).trans h⟩
  · cases h)
theorem env48_ok : EnvOk Go.Proofs.Try.prog (envOf env48) := envOf_cons m121 Go.Proofs.Try.func121 (by kernel_rfl) (by kernel_rfl) env47_ok

end Go.Proofs.YtkahcjnkmbbplaaE
