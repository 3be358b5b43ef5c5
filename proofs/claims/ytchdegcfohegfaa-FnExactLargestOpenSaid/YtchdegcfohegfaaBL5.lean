/- Functions, by the engine; printed. -/
import Derived.Test.YtchdegcfohegfaaBL4
set_option maxRecDepth 100000
set_option maxHeartbeats 4000000
set_option linter.unusedVariables false
namespace Go.Proofs.YtchdegcfohegfaaE
-- slices.Clone[[]int,int]
noncomputable def f88 (k : Nat) (s : List (Int)) : Option (List (Int)) :=
  bif decide ((0 + List.length s) * 8 ≤ 140737488355328) then
    some s
  else
    none
noncomputable def s88 : Spec := ⟨false, [(.slice 3 (.int .i64), false)], true, .slice 3 (.int .i64), fun k xs => match xs with | [.slc 3 (.int .i64) s] => f88 k s | _ => none, false, none, false⟩
noncomputable def env49 : List (FuncId × Spec) := (88, s88) :: env48
theorem m88 : Meets Go.Proofs.Try.prog 88 s88 := meets_clone (N := 8) tiOk env48_ok mo Go.Proofs.Try.func88 rfl rfl rfl rfl rfl rfl rfl rfl rfl rfl Go.Proofs.Try.underlying22 rfl (Nat.le_of_ble_eq_true rfl) (by
  intro k xs r h
  unfold s88 at h
  dsimp only at h
  split at h
  · rename_i s
    refine ⟨3, (.int .i64), s, rfl, fun hx => ?_, ?_⟩
    · subst hx
      refine Eq.trans ?_ h
      kernel_rfl
    · refine Eq.trans ?_ h
      kernel_rfl
  · cases h)
theorem env49_ok : EnvOk Go.Proofs.Try.prog (envOf env49) := envOf_cons m88 Go.Proofs.Try.func88 (by kernel_rfl) (by kernel_rfl) env48_ok

-- impl.boxOf$1
noncomputable def f98 (k : Nat) (n : Int) : Option (Bool) :=
  some (!decide (Int.tmod n 2 = 0))
noncomputable def s98 : Spec := ⟨false, [(.bool, false)], true, .bool, fun k xs => match xs with | [.int .i64 n] => f98 k n | _ => none, false, none, false⟩
noncomputable def env50 : List (FuncId × Spec) := (98, s98) :: env49
theorem v98 (k : Nat) (n : Int) : runFn ti (envOf env49) 6 [] (finT ti true Go.Proofs.Try.f98.results.toList [(.bool, false)] (.bool)) k (bodyOf Go.Proofs.Try.f98) (initS 0 [.int .i64 n]) = f98 k n := by kernel_rfl
theorem m98 : Meets Go.Proofs.Try.prog 98 s98 := meets_of_run tiOk env49_ok mo Go.Proofs.Try.func98 (body := bodyOf Go.Proofs.Try.f98) (by kernel_rfl) (N := 6) (by kernel_rfl) (hs := []) (by
  intro k xs r h
  unfold s98 at h
  dsimp only at h
  split at h
  · exact ⟨Nat.le_of_ble_eq_true rfl, (v98 k _).trans h⟩
  · cases h)
theorem env50_ok : EnvOk Go.Proofs.Try.prog (envOf env50) := envOf_cons m98 Go.Proofs.Try.func98 (by kernel_rfl) (by kernel_rfl) env49_ok

-- slices.IndexFunc[[]int,int]
def h102_98 : Hints := [(1002, .lab [(0, .one (.frz 3 (Ty.int IntKind.i64))), (1, .one (.v)), (7, .one (.v)), (8, .one (.v))])]
noncomputable def F102_98_1002 (k : Nat) (rec1002 : List Int → Int → Int → Option (Int)) (s : List Int) (t7 : Int) (t8 : Int) : Option (Int) :=
  bif decide (t8 < t7) then
    bif boundA t8 (List.length s) then
      bif !decide (Int.tmod (List.getD s (Int.toNat t8) 0) 2 = 0) then
        some t8
      else
        rec1002 s t7 (IntKind.wrap IntKind.i64 (t8 + 1))
    else
      none
  else
    some (-1)
noncomputable def F102_98 (k : Nat) (rec1002 : List Int → Int → Int → Option (Int)) (s : List (Int)) : Option (Int) :=
  rec1002 s ((↑(List.length s) : Int)) (0)
noncomputable def l102_98 : Nat → (List Int → Int → Int → Option (Int))
  | 0 => fun _ _ _ => none
  | k + 1 => F102_98_1002 k (l102_98 k)
noncomputable def f102_98 (k : Nat) (s : List (Int)) : Option (Int) := F102_98 k (l102_98 k) s
noncomputable def s102 : Spec := ⟨false, [(.int .i64, false)], true, .int .i64, fun k xs => match xs with | [.slc 3 (.int .i64) s, .fn 98] => f102_98 k s | _ => none, false, none, false⟩
noncomputable def env51 : List (FuncId × Spec) := (102, s102) :: env50
noncomputable abbrev x102_98 := exec ti (envOf env50) 19 h102_98 (finT ti true Go.Proofs.Try.f102.results.toList [(.int .i64, false)] (.int .i64))
noncomputable def k102_98_1002 : List It := stackAt [.r, .l, .r, .b, .lb none] (bodyOf Go.Proofs.Try.f102) []
def t102_98_1002 (s : List Int) (t7 : Int) (t8 : Int) : St := [(0, Cell.val (AVal.slc 3 (Ty.int IntKind.i64) s)), (2, Cell.val (AVal.fn 98)), (14, Cell.val (AVal.int IntKind.i64 t7)), (16, Cell.val (AVal.int IntKind.i64 t8))]
theorem e102_98_1002 (k : Nat) (s : List Int) (t7 : Int) (t8 : Int) : x102_98 (k + 1) k102_98_1002 (t102_98_1002 s t7 t8) = F102_98_1002 k (fun (s : List Int) (t7 : Int) (t8 : Int) => x102_98 k k102_98_1002 (t102_98_1002 s t7 t8)) s t7 t8 := by kernel_rfl
theorem q102_98 : ∀ k : Nat, (fun (s : List Int) (t7 : Int) (t8 : Int) => x102_98 k k102_98_1002 (t102_98_1002 s t7 t8)) = l102_98 k
  | 0 => rfl
  | k + 1 => by
    have h := q102_98 k
    show _ = F102_98_1002 k (l102_98 k)
    rw [← h]
    exact (funext fun s => funext fun t7 => funext fun t8 => e102_98_1002 k s t7 t8)
theorem w102_98 (k : Nat) (s : List (Int)) : runFn ti (envOf env50) 19 h102_98 (finT ti true Go.Proofs.Try.f102.results.toList [(.int .i64, false)] (.int .i64)) k (bodyOf Go.Proofs.Try.f102) (initS 0 [.slc 3 (.int .i64) s, .fn 98]) = F102_98 k (fun (s : List Int) (t7 : Int) (t8 : Int) => x102_98 k k102_98_1002 (t102_98_1002 s t7 t8)) s := by kernel_rfl
theorem v102_98 (k : Nat) (s : List (Int)) : runFn ti (envOf env50) 19 h102_98 (finT ti true Go.Proofs.Try.f102.results.toList [(.int .i64, false)] (.int .i64)) k (bodyOf Go.Proofs.Try.f102) (initS 0 [.slc 3 (.int .i64) s, .fn 98]) = f102_98 k s := by
  rw [w102_98]
  have h := q102_98 k
  unfold f102_98
  rw [← h]
theorem m102 : Meets Go.Proofs.Try.prog 102 s102 := meets_of_run tiOk env50_ok mo Go.Proofs.Try.func102 (body := bodyOf Go.Proofs.Try.f102) (by kernel_rfl) (N := 19) (by kernel_rfl) (hs := h102_98) (by
  intro k xs r h
  unfold s102 at h
  dsimp only at h
  split at h
  · exact ⟨Nat.le_of_ble_eq_true rfl, (v102_98 k _).trans h⟩
  · cases h)
theorem env51_ok : EnvOk Go.Proofs.Try.prog (envOf env51) := envOf_cons m102 Go.Proofs.Try.func102 (by kernel_rfl) (by kernel_rfl) env50_ok

-- slices.ContainsFunc[[]int,int]
noncomputable def f96_98 (k : Nat) (s : List (Int)) : Option (Bool) :=
  (f102_98 k s).bind fun r0 =>
  some (decide (0 ≤ r0))
noncomputable def s96 : Spec := ⟨false, [(.bool, false)], true, .bool, fun k xs => match xs with | [.slc 3 (.int .i64) s, .fn 98] => f96_98 k s | _ => none, false, none, false⟩
noncomputable def env52 : List (FuncId × Spec) := (96, s96) :: env51
theorem v96_98 (k : Nat) (s : List (Int)) : runFn ti (envOf env51) 9 [] (finT ti true Go.Proofs.Try.f96.results.toList [(.bool, false)] (.bool)) k (bodyOf Go.Proofs.Try.f96) (initS 0 [.slc 3 (.int .i64) s, .fn 98]) = f96_98 k s := by kernel_rfl
theorem m96 : Meets Go.Proofs.Try.prog 96 s96 := meets_of_run tiOk env51_ok mo Go.Proofs.Try.func96 (body := bodyOf Go.Proofs.Try.f96) (by kernel_rfl) (N := 9) (by kernel_rfl) (hs := []) (by
  intro k xs r h
  unfold s96 at h
  dsimp only at h
  split at h
  · exact ⟨Nat.le_of_ble_eq_true rfl, (v96_98 k _).trans h⟩
  · cases h)
theorem env52_ok : EnvOk Go.Proofs.Try.prog (envOf env52) := envOf_cons m96 Go.Proofs.Try.func96 (by kernel_rfl) (by kernel_rfl) env51_ok

-- slices.Grow[[]int,int]
noncomputable def f103 (k : Nat) (n : Int) : Option (List (Int)) :=
  bif decide (n < 0) then
    none
  else
    bif decide (0 < IntKind.wrap IntKind.i64 (n - IntKind.wrap IntKind.i64 (0 - (↑0 : Int)))) then
      bif decide (0 < IntKind.wrap IntKind.i64 (n - IntKind.wrap IntKind.i64 (0 - (↑0 : Int)))) then
        bif decide (Int.toNat (IntKind.wrap IntKind.i64 (n - IntKind.wrap IntKind.i64 (0 - (↑0 : Int)))) * 8 ≤ 140737488355328) then
          some (List.take (Int.toNat (↑0 : Int)) (List.replicate (Int.toNat (IntKind.wrap IntKind.i64 (n - IntKind.wrap IntKind.i64 (0 - (↑0 : Int))))) (dflt (Ty.int IntKind.i64))))
        else
          none
      else
        none
    else
      some ([])
noncomputable def s103 : Spec := ⟨false, [(.slice 3 (.int .i64), false)], true, .slice 3 (.int .i64), fun k xs => match xs with | [.nilslc, .int .i64 n] => f103 k n | _ => none, true, none, false⟩
noncomputable def env53 : List (FuncId × Spec) := (103, s103) :: env52
theorem v103 (k : Nat) (n : Int) : runFn tiC (envOf env52) 27 [] (finT tiC true Go.Proofs.Try.f103.results.toList [(.slice 3 (.int .i64), false)] (.slice 3 (.int .i64))) k (bodyOf Go.Proofs.Try.f103) (initS 0 [.nilslc, .int .i64 n]) = f103 k n := by kernel_rfl
theorem m103 : Meets Go.Proofs.Try.prog 103 s103 := meets_of_run tiCOk env52_ok mo Go.Proofs.Try.func103 (body := bodyOf Go.Proofs.Try.f103) (by kernel_rfl) (N := 27) (by kernel_rfl) (hs := []) (by
  intro k xs r h
  unfold s103 at h
  dsimp only at h
  split at h
  · exact ⟨Nat.le_of_ble_eq_true rfl, (v103 k _).trans h⟩
  · cases h)
theorem env53_ok : EnvOk Go.Proofs.Try.prog (envOf env53) := envOf_cons m103 Go.Proofs.Try.func103 (by kernel_rfl) (by kernel_rfl) env52_ok

-- slices.Concat[[]int,int]
def h97 : Hints := [(1003, .lab [(0, .one (.frz 22 (Ty.slice 3 (Ty.int IntKind.i64)))), (3, .one (.v)), (9, .one (.frz 22 (Ty.slice 3 (Ty.int IntKind.i64)))), (10, .one (.v)), (11, .one (.v))]), (1011, .lab [(6, .one (.own 3 (Ty.int IntKind.i64))), (25, .one (.frz 22 (Ty.slice 3 (Ty.int IntKind.i64)))), (26, .one (.v)), (27, .one (.v))])]
noncomputable def F97_1003 (k : Nat) (rec1003 : List (List Int) → Int → List (List Int) → Int → Int → Option (List (Int))) (rec1011 : List Int → List (List Int) → Int → Int → Option (List (Int))) (slices : List (List Int)) (size : Int) (t9 : List (List Int)) (t10 : Int) (t11 : Int) : Option (List (Int)) :=
  bif decide (t11 < t10) then
    bif boundA t11 (List.length t9) then
      bif decide (IntKind.wrap IntKind.i64 (size + (↑(List.length (List.getD t9 (Int.toNat t11) [])) : Int)) < 0) then
        none
      else
        rec1003 slices (IntKind.wrap IntKind.i64 (size + (↑(List.length (List.getD t9 (Int.toNat t11) [])) : Int))) t9 t10 (IntKind.wrap IntKind.i64 (t11 + 1))
    else
      none
  else
    (f103 k size).bind fun r0 =>
    rec1011 r0 slices ((↑(List.length slices) : Int)) (0)
noncomputable def F97_1011 (k : Nat) (rec1003 : List (List Int) → Int → List (List Int) → Int → Int → Option (List (Int))) (rec1011 : List Int → List (List Int) → Int → Int → Option (List (Int))) (newslices : List Int) (t25 : List (List Int)) (t26 : Int) (t27 : Int) : Option (List (Int)) :=
  bif decide (t27 < t26) then
    bif boundA t27 (List.length t25) then
      bif decide ((List.length newslices + List.length (List.getD t25 (Int.toNat t27) [])) * 8 ≤ 140737488355328) then
        rec1011 (newslices ++ List.getD t25 (Int.toNat t27) []) t25 t26 (IntKind.wrap IntKind.i64 (t27 + 1))
      else
        none
    else
      none
  else
    some newslices
noncomputable def F97 (k : Nat) (rec1003 : List (List Int) → Int → List (List Int) → Int → Int → Option (List (Int))) (rec1011 : List Int → List (List Int) → Int → Int → Option (List (Int))) (slices : List (List (Int))) : Option (List (Int)) :=
  rec1003 slices (0) slices ((↑(List.length slices) : Int)) (0)
noncomputable def l97 : Nat → (List (List Int) → Int → List (List Int) → Int → Int → Option (List (Int))) × (List Int → List (List Int) → Int → Int → Option (List (Int)))
  | 0 => (fun _ _ _ _ _ => none, fun _ _ _ _ => none)
  | k + 1 => (F97_1003 k ((l97 k).1) ((l97 k).2), F97_1011 k ((l97 k).1) ((l97 k).2))
noncomputable def f97 (k : Nat) (slices : List (List (Int))) : Option (List (Int)) := F97 k ((l97 k).1) ((l97 k).2) slices
noncomputable def s97 : Spec := ⟨false, [(.slice 3 (.int .i64), false)], true, .slice 3 (.int .i64), fun k xs => match xs with | [.slc 22 (.slice 3 (.int .i64)) slices] => f97 k slices | _ => none, false, none, false⟩
noncomputable def env54 : List (FuncId × Spec) := (97, s97) :: env53
noncomputable abbrev x97 := exec ti (envOf env53) 36 h97 (finT ti true Go.Proofs.Try.f97.results.toList [(.slice 3 (.int .i64), false)] (.slice 3 (.int .i64)))
noncomputable def k97_1003 : List It := stackAt [.r, .r, .l, .r, .b, .lb none] (bodyOf Go.Proofs.Try.f97) []
def t97_1003 (slices : List (List Int)) (size : Int) (t9 : List (List Int)) (t10 : Int) (t11 : Int) : St := [(0, Cell.val (AVal.slc 22 (Ty.slice 3 (Ty.int IntKind.i64)) slices)), (6, Cell.val (AVal.int IntKind.i64 size)), (18, Cell.val (AVal.slc 22 (Ty.slice 3 (Ty.int IntKind.i64)) t9)), (20, Cell.val (AVal.int IntKind.i64 t10)), (22, Cell.val (AVal.int IntKind.i64 t11))]
noncomputable def k97_1011 : List It := stackAt [.r, .r, .r, .r, .l, .r, .b, .lb none] (bodyOf Go.Proofs.Try.f97) []
def t97_1011 (newslices : List Int) (t25 : List (List Int)) (t26 : Int) (t27 : Int) : St := [(12, Cell.val (AVal.ref 33 none)), (33, Cell.row true 3 (Ty.int IntKind.i64) newslices), (50, Cell.val (AVal.slc 22 (Ty.slice 3 (Ty.int IntKind.i64)) t25)), (52, Cell.val (AVal.int IntKind.i64 t26)), (54, Cell.val (AVal.int IntKind.i64 t27))]
theorem e97_1003 (k : Nat) (slices : List (List Int)) (size : Int) (t9 : List (List Int)) (t10 : Int) (t11 : Int) : x97 (k + 1) k97_1003 (t97_1003 slices size t9 t10 t11) = F97_1003 k (fun (slices : List (List Int)) (size : Int) (t9 : List (List Int)) (t10 : Int) (t11 : Int) => x97 k k97_1003 (t97_1003 slices size t9 t10 t11)) (fun (newslices : List Int) (t25 : List (List Int)) (t26 : Int) (t27 : Int) => x97 k k97_1011 (t97_1011 newslices t25 t26 t27)) slices size t9 t10 t11 := by kernel_rfl
theorem e97_1011 (k : Nat) (newslices : List Int) (t25 : List (List Int)) (t26 : Int) (t27 : Int) : x97 (k + 1) k97_1011 (t97_1011 newslices t25 t26 t27) = F97_1011 k (fun (slices : List (List Int)) (size : Int) (t9 : List (List Int)) (t10 : Int) (t11 : Int) => x97 k k97_1003 (t97_1003 slices size t9 t10 t11)) (fun (newslices : List Int) (t25 : List (List Int)) (t26 : Int) (t27 : Int) => x97 k k97_1011 (t97_1011 newslices t25 t26 t27)) newslices t25 t26 t27 := by kernel_rfl
theorem q97 : ∀ k : Nat, ((fun (slices : List (List Int)) (size : Int) (t9 : List (List Int)) (t10 : Int) (t11 : Int) => x97 k k97_1003 (t97_1003 slices size t9 t10 t11)), (fun (newslices : List Int) (t25 : List (List Int)) (t26 : Int) (t27 : Int) => x97 k k97_1011 (t97_1011 newslices t25 t26 t27))) = l97 k
  | 0 => rfl
  | k + 1 => by
    have h := q97 k
    show _ = (F97_1003 k ((l97 k).1) ((l97 k).2), F97_1011 k ((l97 k).1) ((l97 k).2))
    rw [← h]
    exact (Prod.ext (funext fun slices => funext fun size => funext fun t9 => funext fun t10 => funext fun t11 => e97_1003 k slices size t9 t10 t11) (funext fun newslices => funext fun t25 => funext fun t26 => funext fun t27 => e97_1011 k newslices t25 t26 t27))
theorem w97 (k : Nat) (slices : List (List (Int))) : runFn ti (envOf env53) 36 h97 (finT ti true Go.Proofs.Try.f97.results.toList [(.slice 3 (.int .i64), false)] (.slice 3 (.int .i64))) k (bodyOf Go.Proofs.Try.f97) (initS 0 [.slc 22 (.slice 3 (.int .i64)) slices]) = F97 k (fun (slices : List (List Int)) (size : Int) (t9 : List (List Int)) (t10 : Int) (t11 : Int) => x97 k k97_1003 (t97_1003 slices size t9 t10 t11)) (fun (newslices : List Int) (t25 : List (List Int)) (t26 : Int) (t27 : Int) => x97 k k97_1011 (t97_1011 newslices t25 t26 t27)) slices := by kernel_rfl
theorem v97 (k : Nat) (slices : List (List (Int))) : runFn ti (envOf env53) 36 h97 (finT ti true Go.Proofs.Try.f97.results.toList [(.slice 3 (.int .i64), false)] (.slice 3 (.int .i64))) k (bodyOf Go.Proofs.Try.f97) (initS 0 [.slc 22 (.slice 3 (.int .i64)) slices]) = f97 k slices := by
  rw [w97]
  have h := q97 k
  unfold f97
  rw [← h]
theorem m97 : Meets Go.Proofs.Try.prog 97 s97 := meets_of_run tiOk env53_ok mo Go.Proofs.Try.func97 (body := bodyOf Go.Proofs.Try.f97) (by kernel_rfl) (N := 36) (by kernel_rfl) (hs := h97) (by
  intro k xs r h
  unfold s97 at h
  dsimp only at h
  split at h
  · exact ⟨Nat.le_of_ble_eq_true rfl, (v97 k _).trans h⟩
  · cases h)
theorem env54_ok : EnvOk Go.Proofs.Try.prog (envOf env54) := envOf_cons m97 Go.Proofs.Try.func97 (by kernel_rfl) (by kernel_rfl) env53_ok

-- impl.boxOf
def h89 : Hints := [(1002, .lab [(6, .box 31 [.v, .v, .v]), (8, .box 31 [.v, .own 3 (Ty.int IntKind.i64), .own 3 (Ty.int IntKind.i64)])]), (1008, .lab [(6, .box 31 [.v, .v, .v]), (8, .box 31 [.v, .own 3 (Ty.int IntKind.i64), .own 3 (Ty.int IntKind.i64)]), (10, .one (.own 3 (Ty.int IntKind.i64))), (39, .rbox 22 [.own 3 (.int .i64), .own 3 (.int .i64)]), (40, .one (.v)), (41, .one (.v)), (46, .one (.v)), (47, .one (.v))]), (1005, .unr 3)]
noncomputable def F89_1002 (k : Nat) (rec1002 : Int → Int → List Int → List Int → Option ((Int × (List (Int)) × List (Int)) × Bool)) (rec11008 : Int → Int → List Int → List Int → Int → Int → Option ((Int × (List (Int)) × List (Int)) × Bool)) (rec21008 : Int → Int → List Int → List Int → Int → Int → Option ((Int × (List (Int)) × List (Int)) × Bool)) (t6s_0 : Int) (bs_0 : Int) (bs : List Int) (bs' : List Int) : Option ((Int × (List (Int)) × List (Int)) × Bool) :=
  bif decide (0 < bs_0) then
    (f97 k [bs, bs']).bind fun r0 =>
    (f96_98 k r0).bind fun r1 =>
    bif !r1 then
      rec11008 t6s_0 (IntKind.wrap IntKind.i64 (bs_0 - 1)) bs bs' ((↑(List.length bs) : Int)) (0)
    else
      (f39 k (bs_0, bs, bs')).bind fun r2 =>
      bif !r2 then
        some (((0, [], []), false))
      else
        some (((bs_0, bs, bs'), true))
  else
    (f39 k (bs_0, bs, bs')).bind fun r3 =>
    bif !r3 then
      some (((0, [], []), false))
    else
      some (((bs_0, bs, bs'), true))
noncomputable def F89_11008 (k : Nat) (rec1002 : Int → Int → List Int → List Int → Option ((Int × (List (Int)) × List (Int)) × Bool)) (rec11008 : Int → Int → List Int → List Int → Int → Int → Option ((Int × (List (Int)) × List (Int)) × Bool)) (rec21008 : Int → Int → List Int → List Int → Int → Int → Option ((Int × (List (Int)) × List (Int)) × Bool)) (t6s_0 : Int) (bs_0 : Int) (bs : List Int) (bs' : List Int) (t46 : Int) (t47 : Int) : Option ((Int × (List (Int)) × List (Int)) × Bool) :=
  bif decide (t47 < t46) then
    bif boundA t47 (List.length bs) then
      bif Nat.blt (Int.toNat t47) (List.length bs) then
        bif boundA t47 (List.length bs) then
          bif Nat.blt (Int.toNat t47) (List.length bs) then
            rec11008 t6s_0 bs_0 (List.set bs (Int.toNat t47) (IntKind.wrap IntKind.i64 (Int.tdiv (List.getD bs (Int.toNat t47) 0) 2))) bs' t46 (IntKind.wrap IntKind.i64 (t47 + 1))
          else
            none
        else
          none
      else
        none
    else
      none
  else
    rec21008 t6s_0 bs_0 bs bs' ((↑(List.length bs') : Int)) (0)
noncomputable def F89_21008 (k : Nat) (rec1002 : Int → Int → List Int → List Int → Option ((Int × (List (Int)) × List (Int)) × Bool)) (rec11008 : Int → Int → List Int → List Int → Int → Int → Option ((Int × (List (Int)) × List (Int)) × Bool)) (rec21008 : Int → Int → List Int → List Int → Int → Int → Option ((Int × (List (Int)) × List (Int)) × Bool)) (t6s_0 : Int) (bs_0 : Int) (bs : List Int) (bs' : List Int) (t46 : Int) (t47 : Int) : Option ((Int × (List (Int)) × List (Int)) × Bool) :=
  bif decide (t47 < t46) then
    bif boundA t47 (List.length bs') then
      bif Nat.blt (Int.toNat t47) (List.length bs') then
        bif boundA t47 (List.length bs') then
          bif Nat.blt (Int.toNat t47) (List.length bs') then
            rec21008 t6s_0 bs_0 bs (List.set bs' (Int.toNat t47) (IntKind.wrap IntKind.i64 (Int.tdiv (List.getD bs' (Int.toNat t47) 0) 2))) t46 (IntKind.wrap IntKind.i64 (t47 + 1))
          else
            none
        else
          none
      else
        none
    else
      none
  else
    rec1002 t6s_0 bs_0 bs bs'
noncomputable def F89 (k : Nat) (rec1002 : Int → Int → List Int → List Int → Option ((Int × (List (Int)) × List (Int)) × Bool)) (rec11008 : Int → Int → List Int → List Int → Int → Int → Option ((Int × (List (Int)) × List (Int)) × Bool)) (rec21008 : Int → Int → List Int → List Int → Int → Int → Option ((Int × (List (Int)) × List (Int)) × Bool)) (k_ : Int) (low : List (Int)) (high : List (Int)) : Option ((Int × (List (Int)) × List (Int)) × Bool) :=
  (f88 k low).bind fun r0 =>
  (f88 k high).bind fun r1 =>
  rec1002 (0) k_ r0 r1
noncomputable def l89 : Nat → (Int → Int → List Int → List Int → Option ((Int × (List (Int)) × List (Int)) × Bool)) × (Int → Int → List Int → List Int → Int → Int → Option ((Int × (List (Int)) × List (Int)) × Bool)) × (Int → Int → List Int → List Int → Int → Int → Option ((Int × (List (Int)) × List (Int)) × Bool))
  | 0 => (fun _ _ _ _ => none, fun _ _ _ _ _ _ => none, fun _ _ _ _ _ _ => none)
  | k + 1 => (F89_1002 k ((l89 k).1) ((l89 k).2.1) ((l89 k).2.2), F89_11008 k ((l89 k).1) ((l89 k).2.1) ((l89 k).2.2), F89_21008 k ((l89 k).1) ((l89 k).2.1) ((l89 k).2.2))
noncomputable def f89 (k : Nat) (k_ : Int) (low : List (Int)) (high : List (Int)) : Option ((Int × (List (Int)) × List (Int)) × Bool) := F89 k ((l89 k).1) ((l89 k).2.1) ((l89 k).2.2) k_ low high
noncomputable def s89 : Spec := ⟨false, [(.pair (.int .i64) (.pair (.slice 3 (.int .i64)) (.slice 3 (.int .i64))), true), (.bool, false)], true, .pair (.pair (.int .i64) (.pair (.slice 3 (.int .i64)) (.slice 3 (.int .i64)))) (.bool), fun k xs => match xs with | [.int .i64 k_, .slc 3 (.int .i64) low, .slc 3 (.int .i64) high] => f89 k k_ low high | _ => none, false, none, false⟩
noncomputable def env55 : List (FuncId × Spec) := (89, s89) :: env54
noncomputable abbrev x89 := exec ti (envOf env54) 62 h89 (finT ti true Go.Proofs.Try.f89.results.toList [(.pair (.int .i64) (.pair (.slice 3 (.int .i64)) (.slice 3 (.int .i64))), true), (.bool, false)] (.pair (.pair (.int .i64) (.pair (.slice 3 (.int .i64)) (.slice 3 (.int .i64)))) (.bool)))
noncomputable def k89_1002 : List It := stackAt [.r, .r, .l, .b, .lb none] (bodyOf Go.Proofs.Try.f89) []
def t89_1002 (t6s_0 : Int) (bs_0 : Int) (bs : List Int) (bs' : List Int) : St := [(12, Cell.val (AVal.ptr 33 0)), (33, Cell.mem true 31 [AVal.int IntKind.i64 t6s_0, AVal.nilslc, AVal.nilslc]), (16, Cell.val (AVal.ptr 35 0)), (35, Cell.mem true 31 [AVal.int IntKind.i64 bs_0, AVal.ref 37 none, AVal.ref 39 none]), (37, Cell.row true 3 (Ty.int IntKind.i64) bs), (39, Cell.row true 3 (Ty.int IntKind.i64) bs')]
noncomputable def k89_11008 : List It := stackAt [.r, .r, .l, .b, .lb none, .r, .b, .r, .r, .b, .lb (some 2), .r, .r, .l, .b, .r, .r, .b, .lb none] (bodyOf Go.Proofs.Try.f89) []
def t89_11008 (t6s_0 : Int) (bs_0 : Int) (bs : List Int) (bs' : List Int) (t46 : Int) (t47 : Int) : St := [(12, Cell.val (AVal.ptr 33 0)), (33, Cell.mem true 31 [AVal.int IntKind.i64 t6s_0, AVal.nilslc, AVal.nilslc]), (16, Cell.val (AVal.ptr 35 0)), (35, Cell.mem true 31 [AVal.int IntKind.i64 bs_0, AVal.ref 37 none, AVal.ref 39 none]), (37, Cell.row true 3 (Ty.int IntKind.i64) bs), (39, Cell.row true 3 (Ty.int IntKind.i64) bs'), (20, Cell.val (AVal.ref 37 none)), (78, Cell.val (AVal.ref 41 none)), (41, Cell.mem true 22 [AVal.ref 37 none, AVal.ref 39 none]), (80, Cell.val (AVal.int IntKind.i64 (Int.ofNat 2))), (82, Cell.val (AVal.int IntKind.i64 (Int.ofNat 0))), (92, Cell.val (AVal.int IntKind.i64 t46)), (94, Cell.val (AVal.int IntKind.i64 t47))]
noncomputable def k89_21008 : List It := stackAt [.r, .r, .l, .b, .lb none, .r, .b, .r, .r, .b, .lb (some 1), .r, .r, .l, .b, .r, .r, .b, .lb none] (bodyOf Go.Proofs.Try.f89) []
def t89_21008 (t6s_0 : Int) (bs_0 : Int) (bs : List Int) (bs' : List Int) (t46 : Int) (t47 : Int) : St := [(12, Cell.val (AVal.ptr 33 0)), (33, Cell.mem true 31 [AVal.int IntKind.i64 t6s_0, AVal.nilslc, AVal.nilslc]), (16, Cell.val (AVal.ptr 35 0)), (35, Cell.mem true 31 [AVal.int IntKind.i64 bs_0, AVal.ref 37 none, AVal.ref 39 none]), (37, Cell.row true 3 (Ty.int IntKind.i64) bs), (39, Cell.row true 3 (Ty.int IntKind.i64) bs'), (20, Cell.val (AVal.ref 39 none)), (78, Cell.val (AVal.ref 41 none)), (41, Cell.mem true 22 [AVal.ref 37 none, AVal.ref 39 none]), (80, Cell.val (AVal.int IntKind.i64 (Int.ofNat 2))), (82, Cell.val (AVal.int IntKind.i64 (Int.ofNat 1))), (92, Cell.val (AVal.int IntKind.i64 t46)), (94, Cell.val (AVal.int IntKind.i64 t47))]
theorem e89_1002 (k : Nat) (t6s_0 : Int) (bs_0 : Int) (bs : List Int) (bs' : List Int) : x89 (k + 1) k89_1002 (t89_1002 t6s_0 bs_0 bs bs') = F89_1002 k (fun (t6s_0 : Int) (bs_0 : Int) (bs : List Int) (bs' : List Int) => x89 k k89_1002 (t89_1002 t6s_0 bs_0 bs bs')) (fun (t6s_0 : Int) (bs_0 : Int) (bs : List Int) (bs' : List Int) (t46 : Int) (t47 : Int) => x89 k k89_11008 (t89_11008 t6s_0 bs_0 bs bs' t46 t47)) (fun (t6s_0 : Int) (bs_0 : Int) (bs : List Int) (bs' : List Int) (t46 : Int) (t47 : Int) => x89 k k89_21008 (t89_21008 t6s_0 bs_0 bs bs' t46 t47)) t6s_0 bs_0 bs bs' := by kernel_rfl
theorem e89_11008 (k : Nat) (t6s_0 : Int) (bs_0 : Int) (bs : List Int) (bs' : List Int) (t46 : Int) (t47 : Int) : x89 (k + 1) k89_11008 (t89_11008 t6s_0 bs_0 bs bs' t46 t47) = F89_11008 k (fun (t6s_0 : Int) (bs_0 : Int) (bs : List Int) (bs' : List Int) => x89 k k89_1002 (t89_1002 t6s_0 bs_0 bs bs')) (fun (t6s_0 : Int) (bs_0 : Int) (bs : List Int) (bs' : List Int) (t46 : Int) (t47 : Int) => x89 k k89_11008 (t89_11008 t6s_0 bs_0 bs bs' t46 t47)) (fun (t6s_0 : Int) (bs_0 : Int) (bs : List Int) (bs' : List Int) (t46 : Int) (t47 : Int) => x89 k k89_21008 (t89_21008 t6s_0 bs_0 bs bs' t46 t47)) t6s_0 bs_0 bs bs' t46 t47 := by kernel_rfl
theorem e89_21008 (k : Nat) (t6s_0 : Int) (bs_0 : Int) (bs : List Int) (bs' : List Int) (t46 : Int) (t47 : Int) : x89 (k + 1) k89_21008 (t89_21008 t6s_0 bs_0 bs bs' t46 t47) = F89_21008 k (fun (t6s_0 : Int) (bs_0 : Int) (bs : List Int) (bs' : List Int) => x89 k k89_1002 (t89_1002 t6s_0 bs_0 bs bs')) (fun (t6s_0 : Int) (bs_0 : Int) (bs : List Int) (bs' : List Int) (t46 : Int) (t47 : Int) => x89 k k89_11008 (t89_11008 t6s_0 bs_0 bs bs' t46 t47)) (fun (t6s_0 : Int) (bs_0 : Int) (bs : List Int) (bs' : List Int) (t46 : Int) (t47 : Int) => x89 k k89_21008 (t89_21008 t6s_0 bs_0 bs bs' t46 t47)) t6s_0 bs_0 bs bs' t46 t47 := by kernel_rfl
theorem q89 : ∀ k : Nat, ((fun (t6s_0 : Int) (bs_0 : Int) (bs : List Int) (bs' : List Int) => x89 k k89_1002 (t89_1002 t6s_0 bs_0 bs bs')), (fun (t6s_0 : Int) (bs_0 : Int) (bs : List Int) (bs' : List Int) (t46 : Int) (t47 : Int) => x89 k k89_11008 (t89_11008 t6s_0 bs_0 bs bs' t46 t47)), (fun (t6s_0 : Int) (bs_0 : Int) (bs : List Int) (bs' : List Int) (t46 : Int) (t47 : Int) => x89 k k89_21008 (t89_21008 t6s_0 bs_0 bs bs' t46 t47))) = l89 k
  | 0 => rfl
  | k + 1 => by
    have h := q89 k
    show _ = (F89_1002 k ((l89 k).1) ((l89 k).2.1) ((l89 k).2.2), F89_11008 k ((l89 k).1) ((l89 k).2.1) ((l89 k).2.2), F89_21008 k ((l89 k).1) ((l89 k).2.1) ((l89 k).2.2))
    rw [← h]
    exact (Prod.ext (funext fun t6s_0 => funext fun bs_0 => funext fun bs => funext fun bs' => e89_1002 k t6s_0 bs_0 bs bs') (Prod.ext (funext fun t6s_0 => funext fun bs_0 => funext fun bs => funext fun bs' => funext fun t46 => funext fun t47 => e89_11008 k t6s_0 bs_0 bs bs' t46 t47) (funext fun t6s_0 => funext fun bs_0 => funext fun bs => funext fun bs' => funext fun t46 => funext fun t47 => e89_21008 k t6s_0 bs_0 bs bs' t46 t47)))
theorem w89 (k : Nat) (k_ : Int) (low : List (Int)) (high : List (Int)) : runFn ti (envOf env54) 62 h89 (finT ti true Go.Proofs.Try.f89.results.toList [(.pair (.int .i64) (.pair (.slice 3 (.int .i64)) (.slice 3 (.int .i64))), true), (.bool, false)] (.pair (.pair (.int .i64) (.pair (.slice 3 (.int .i64)) (.slice 3 (.int .i64)))) (.bool))) k (bodyOf Go.Proofs.Try.f89) (initS 0 [.int .i64 k_, .slc 3 (.int .i64) low, .slc 3 (.int .i64) high]) = F89 k (fun (t6s_0 : Int) (bs_0 : Int) (bs : List Int) (bs' : List Int) => x89 k k89_1002 (t89_1002 t6s_0 bs_0 bs bs')) (fun (t6s_0 : Int) (bs_0 : Int) (bs : List Int) (bs' : List Int) (t46 : Int) (t47 : Int) => x89 k k89_11008 (t89_11008 t6s_0 bs_0 bs bs' t46 t47)) (fun (t6s_0 : Int) (bs_0 : Int) (bs : List Int) (bs' : List Int) (t46 : Int) (t47 : Int) => x89 k k89_21008 (t89_21008 t6s_0 bs_0 bs bs' t46 t47)) k_ low high := by kernel_rfl
theorem v89 (k : Nat) (k_ : Int) (low : List (Int)) (high : List (Int)) : runFn ti (envOf env54) 62 h89 (finT ti true Go.Proofs.Try.f89.results.toList [(.pair (.int .i64) (.pair (.slice 3 (.int .i64)) (.slice 3 (.int .i64))), true), (.bool, false)] (.pair (.pair (.int .i64) (.pair (.slice 3 (.int .i64)) (.slice 3 (.int .i64)))) (.bool))) k (bodyOf Go.Proofs.Try.f89) (initS 0 [.int .i64 k_, .slc 3 (.int .i64) low, .slc 3 (.int .i64) high]) = f89 k k_ low high := by
  rw [w89]
  have h := q89 k
  unfold f89
  rw [← h]
theorem m89 : Meets Go.Proofs.Try.prog 89 s89 := meets_of_run tiOk env54_ok mo Go.Proofs.Try.func89 (body := bodyOf Go.Proofs.Try.f89) (by kernel_rfl) (N := 62) (by kernel_rfl) (hs := h89) (by
  intro k xs r h
  unfold s89 at h
  dsimp only at h
  split at h
  · exact ⟨Nat.le_of_ble_eq_true rfl, (v89 k _ _ _).trans h⟩
  · cases h)
theorem env55_ok : EnvOk Go.Proofs.Try.prog (envOf env55) := envOf_cons m89 Go.Proofs.Try.func89 (by kernel_rfl) (by kernel_rfl) env54_ok

-- impl.Box).halves
noncomputable def f69 (k : Nat) (L : Int × (List (Int)) × List (Int)) (i : Int) : Option ((List (Int × (List (Int)) × List (Int))) × Bool) :=
  (f87 k L.snd.fst 1).bind fun r0 =>
  (f87 k L.snd.snd 1).bind fun r1 =>
  bif boundA i (List.length L.snd.fst) then
    bif boundA i (List.length L.snd.snd) then
      (f88 k r1).bind fun r2 =>
      (f88 k r0).bind fun r3 =>
      bif boundA i (List.length r2) then
        bif Nat.blt (Int.toNat i) (List.length r2) then
          bif boundA i (List.length r3) then
            bif Nat.blt (Int.toNat i) (List.length r3) then
              (f89 k (IntKind.wrap IntKind.i64 (L.fst + 1)) r0 (List.set r2 (Int.toNat i) (IntKind.wrap IntKind.i64 (List.getD L.snd.fst (Int.toNat i) 0 + List.getD L.snd.snd (Int.toNat i) 0)))).bind fun r4 =>
              (f89 k (IntKind.wrap IntKind.i64 (L.fst + 1)) (List.set r3 (Int.toNat i) (IntKind.wrap IntKind.i64 (List.getD L.snd.fst (Int.toNat i) 0 + List.getD L.snd.snd (Int.toNat i) 0))) r1).bind fun r5 =>
              bif !r4.snd then
                some (([], false))
              else
                bif !r5.snd then
                  some (([], false))
                else
                  some (([(r4.fst.fst, r4.fst.snd.fst, r4.fst.snd.snd), (r5.fst.fst, r5.fst.snd.fst, r5.fst.snd.snd)], true))
            else
              none
          else
            none
        else
          none
      else
        none
    else
      none
  else
    none
noncomputable def s69 : Spec := ⟨false, [(.slice 31 (.pair (.int .i64) (.pair (.slice 3 (.int .i64)) (.slice 3 (.int .i64)))), false), (.bool, false)], true, .pair (.slice 31 (.pair (.int .i64) (.pair (.slice 3 (.int .i64)) (.slice 3 (.int .i64))))) (.bool), fun k xs => match xs with | [.fptr (.pair (.int .i64) (.pair (.slice 3 (.int .i64)) (.slice 3 (.int .i64)))) L, .int .i64 i] => f69 k L i | _ => none, false, none, false⟩
noncomputable def env56 : List (FuncId × Spec) := (69, s69) :: env55
theorem v69 (k : Nat) (L : Int × (List (Int)) × List (Int)) (i : Int) : runFn ti (envOf env55) 83 [] (finT ti true Go.Proofs.Try.f69.results.toList [(.slice 31 (.pair (.int .i64) (.pair (.slice 3 (.int .i64)) (.slice 3 (.int .i64)))), false), (.bool, false)] (.pair (.slice 31 (.pair (.int .i64) (.pair (.slice 3 (.int .i64)) (.slice 3 (.int .i64))))) (.bool))) k (bodyOf Go.Proofs.Try.f69) (initS 0 [.fptr (.pair (.int .i64) (.pair (.slice 3 (.int .i64)) (.slice 3 (.int .i64)))) L, .int .i64 i]) = f69 k L i := by kernel_rfl
theorem m69 : Meets Go.Proofs.Try.prog 69 s69 := meets_of_run tiOk env55_ok mo Go.Proofs.Try.func69 (body := bodyOf Go.Proofs.Try.f69) (by kernel_rfl) (N := 83) (by kernel_rfl) (hs := []) (by
  intro k xs r h
  unfold s69 at h
  dsimp only at h
  split at h
  · exact ⟨Nat.le_of_ble_eq_true rfl, (v69 k _ _).trans h⟩
  · cases h)
theorem env56_ok : EnvOk Go.Proofs.Try.prog (envOf env56) := envOf_cons m69 Go.Proofs.Try.func69 (by kernel_rfl) (by kernel_rfl) env55_ok

-- impl.copyBoxes
def h70 : Hints := [(1003, .lab [(3, .one (.deep false 31 (Ty.pair (Ty.int IntKind.i64) (Ty.pair (Ty.slice 3 (Ty.int IntKind.i64)) (Ty.slice 3 (Ty.int IntKind.i64)))))), (6, .one (.frz 31 (Ty.pair (Ty.int IntKind.i64) (Ty.pair (Ty.slice 3 (Ty.int IntKind.i64)) (Ty.slice 3 (Ty.int IntKind.i64)))))), (7, .one (.v)), (8, .one (.v))])]
noncomputable def F70_1003 (k : Nat) (rec1003 : List (Int × List Int × List Int) → List (Int × List Int × List Int) → Int → Int → Option (List (Int × (List (Int)) × List (Int)))) (outs : List (Int × List Int × List Int)) (t6 : List (Int × List Int × List Int)) (t7 : Int) (t8 : Int) : Option (List (Int × (List (Int)) × List (Int))) :=
  bif decide (t8 < t7) then
    bif boundA t8 (List.length t6) then
      (f88 k (List.getD t6 (Int.toNat t8) (0, [], [])).snd.fst).bind fun r0 =>
      (f88 k (List.getD t6 (Int.toNat t8) (0, [], [])).snd.snd).bind fun r1 =>
      bif decide ((List.length outs + List.length [((List.getD t6 (Int.toNat t8) (0, [], [])).fst, r0, r1)]) * 56 ≤ 140737488355328) then
        rec1003 (outs ++ [((List.getD t6 (Int.toNat t8) (0, [], [])).fst, r0, r1)]) t6 t7 (IntKind.wrap IntKind.i64 (t8 + 1))
      else
        none
    else
      none
  else
    some outs
noncomputable def F70 (k : Nat) (rec1003 : List (Int × List Int × List Int) → List (Int × List Int × List Int) → Int → Int → Option (List (Int × (List (Int)) × List (Int)))) (l : List (Int × (List (Int)) × List (Int))) : Option (List (Int × (List (Int)) × List (Int))) :=
  rec1003 ([]) l ((↑(List.length l) : Int)) (0)
noncomputable def l70 : Nat → (List (Int × List Int × List Int) → List (Int × List Int × List Int) → Int → Int → Option (List (Int × (List (Int)) × List (Int))))
  | 0 => fun _ _ _ _ => none
  | k + 1 => F70_1003 k (l70 k)
noncomputable def f70 (k : Nat) (l : List (Int × (List (Int)) × List (Int))) : Option (List (Int × (List (Int)) × List (Int))) := F70 k (l70 k) l
noncomputable def s70 : Spec := ⟨false, [(.slice 31 (.pair (.int .i64) (.pair (.slice 3 (.int .i64)) (.slice 3 (.int .i64)))), false)], true, .slice 31 (.pair (.int .i64) (.pair (.slice 3 (.int .i64)) (.slice 3 (.int .i64)))), fun k xs => match xs with | [.slc 31 (.pair (.int .i64) (.pair (.slice 3 (.int .i64)) (.slice 3 (.int .i64)))) l] => f70 k l | _ => none, false, none, true⟩
noncomputable def env57 : List (FuncId × Spec) := (70, s70) :: env56
noncomputable abbrev x70 := exec ti (envOf env56) 26 h70 (finD ti Go.Proofs.Try.f70.results.toList [(.slice 31 (.pair (.int .i64) (.pair (.slice 3 (.int .i64)) (.slice 3 (.int .i64)))), false)] (.slice 31 (.pair (.int .i64) (.pair (.slice 3 (.int .i64)) (.slice 3 (.int .i64))))))
noncomputable def k70_1003 : List It := stackAt [.r, .r, .l, .r, .b, .lb none] (bodyOf Go.Proofs.Try.f70) []
def t70_1003 (outs : List (Int × List Int × List Int)) (t6 : List (Int × List Int × List Int)) (t7 : Int) (t8 : Int) : St := [(6, Cell.val (AVal.ref 33 none)), (33, Cell.deep 31 (Ty.pair (Ty.int IntKind.i64) (Ty.pair (Ty.slice 3 (Ty.int IntKind.i64)) (Ty.slice 3 (Ty.int IntKind.i64)))) 0 outs none), (12, Cell.val (AVal.slc 31 (Ty.pair (Ty.int IntKind.i64) (Ty.pair (Ty.slice 3 (Ty.int IntKind.i64)) (Ty.slice 3 (Ty.int IntKind.i64)))) t6)), (14, Cell.val (AVal.int IntKind.i64 t7)), (16, Cell.val (AVal.int IntKind.i64 t8))]
theorem e70_1003 (k : Nat) (outs : List (Int × List Int × List Int)) (t6 : List (Int × List Int × List Int)) (t7 : Int) (t8 : Int) : x70 (k + 1) k70_1003 (t70_1003 outs t6 t7 t8) = F70_1003 k (fun (outs : List (Int × List Int × List Int)) (t6 : List (Int × List Int × List Int)) (t7 : Int) (t8 : Int) => x70 k k70_1003 (t70_1003 outs t6 t7 t8)) outs t6 t7 t8 := by kernel_rfl
theorem q70 : ∀ k : Nat, (fun (outs : List (Int × List Int × List Int)) (t6 : List (Int × List Int × List Int)) (t7 : Int) (t8 : Int) => x70 k k70_1003 (t70_1003 outs t6 t7 t8)) = l70 k
  | 0 => rfl
  | k + 1 => by
    have h := q70 k
    show _ = F70_1003 k (l70 k)
    rw [← h]
    exact (funext fun outs => funext fun t6 => funext fun t7 => funext fun t8 => e70_1003 k outs t6 t7 t8)
theorem w70 (k : Nat) (l : List (Int × (List (Int)) × List (Int))) : runFn ti (envOf env56) 26 h70 (finD ti Go.Proofs.Try.f70.results.toList [(.slice 31 (.pair (.int .i64) (.pair (.slice 3 (.int .i64)) (.slice 3 (.int .i64)))), false)] (.slice 31 (.pair (.int .i64) (.pair (.slice 3 (.int .i64)) (.slice 3 (.int .i64)))))) k (bodyOf Go.Proofs.Try.f70) (initS 0 [.slc 31 (.pair (.int .i64) (.pair (.slice 3 (.int .i64)) (.slice 3 (.int .i64)))) l]) = F70 k (fun (outs : List (Int × List Int × List Int)) (t6 : List (Int × List Int × List Int)) (t7 : Int) (t8 : Int) => x70 k k70_1003 (t70_1003 outs t6 t7 t8)) l := by kernel_rfl
theorem v70 (k : Nat) (l : List (Int × (List (Int)) × List (Int))) : runFn ti (envOf env56) 26 h70 (finD ti Go.Proofs.Try.f70.results.toList [(.slice 31 (.pair (.int .i64) (.pair (.slice 3 (.int .i64)) (.slice 3 (.int .i64)))), false)] (.slice 31 (.pair (.int .i64) (.pair (.slice 3 (.int .i64)) (.slice 3 (.int .i64)))))) k (bodyOf Go.Proofs.Try.f70) (initS 0 [.slc 31 (.pair (.int .i64) (.pair (.slice 3 (.int .i64)) (.slice 3 (.int .i64)))) l]) = f70 k l := by
  rw [w70]
  have h := q70 k
  unfold f70
  rw [← h]
theorem m70 : Meets Go.Proofs.Try.prog 70 s70 := meets_deep_of_run tiOk env56_ok mo Go.Proofs.Try.func70 (body := bodyOf Go.Proofs.Try.f70) (by kernel_rfl) (N := 26) (by kernel_rfl) (hs := h70) (by
  intro k xs r h
  unfold s70 at h
  dsimp only at h
  split at h
  · exact ⟨Nat.le_of_ble_eq_true rfl, (v70 k _).trans h⟩
  · cases h)
theorem env57_ok : EnvOk Go.Proofs.Try.prog (envOf env57) := envOf_cons m70 Go.Proofs.Try.func70 (by kernel_rfl) (by kernel_rfl) env56_ok

-- impl.leafBoxes
def h41 : Hints := [(1004, .lab [(6, .one (.own 31 (Ty.pair (Ty.int IntKind.i64) (Ty.pair (Ty.slice 3 (Ty.int IntKind.i64)) (Ty.slice 3 (Ty.int IntKind.i64)))))), (7, .one (.own 31 (Ty.pair (Ty.int IntKind.i64) (Ty.pair (Ty.slice 3 (Ty.int IntKind.i64)) (Ty.slice 3 (Ty.int IntKind.i64)))))), (17, .one (.frz 57 (Ty.pair (Ty.int IntKind.i64) (Ty.int IntKind.i64)))), (18, .one (.v)), (19, .one (.v))])]
noncomputable def F41_1004 (k : Nat) (rec1004 : List (Int × List Int × List Int) → List (Int × List Int × List Int) → List (Int × Int) → Int → Int → Option ((List (Int × (List (Int)) × List (Int))) × Bool)) (open_s : List (Int × List Int × List Int)) (outs : List (Int × List Int × List Int)) (t17 : List (Int × Int)) (t18 : Int) (t19 : Int) : Option ((List (Int × (List (Int)) × List (Int))) × Bool) :=
  bif decide (t19 < t18) then
    bif boundA t19 (List.length t17) then
      bif boundA (IntKind.wrap IntKind.i64 ((↑(List.length open_s) : Int) - 1)) (List.length open_s) then
        bif Nat.blt (Int.toNat (IntKind.wrap IntKind.i64 ((↑(List.length open_s) : Int) - 1))) (List.length open_s) then
          bif boundE (IntKind.wrap IntKind.i64 ((↑(List.length open_s) : Int) - 1)) (List.length open_s) then
            bif !decide ((List.getD t17 (Int.toNat t19) (0, 0)).fst = 0) then
              bif decide ((List.length outs + List.length [((List.getD open_s (Int.toNat (IntKind.wrap IntKind.i64 ((↑(List.length open_s) : Int) - 1))) (0, [], [])).fst, (List.getD open_s (Int.toNat (IntKind.wrap IntKind.i64 ((↑(List.length open_s) : Int) - 1))) (0, [], [])).snd.fst, (List.getD open_s (Int.toNat (IntKind.wrap IntKind.i64 ((↑(List.length open_s) : Int) - 1))) (0, [], [])).snd.snd)]) * 56 ≤ 140737488355328) then
                rec1004 (List.take (Int.toNat (IntKind.wrap IntKind.i64 ((↑(List.length open_s) : Int) - 1))) open_s) (outs ++ [((List.getD open_s (Int.toNat (IntKind.wrap IntKind.i64 ((↑(List.length open_s) : Int) - 1))) (0, [], [])).fst, (List.getD open_s (Int.toNat (IntKind.wrap IntKind.i64 ((↑(List.length open_s) : Int) - 1))) (0, [], [])).snd.fst, (List.getD open_s (Int.toNat (IntKind.wrap IntKind.i64 ((↑(List.length open_s) : Int) - 1))) (0, [], [])).snd.snd)]) t17 t18 (IntKind.wrap IntKind.i64 (t19 + 1))
              else
                none
            else
              (f69 k ((List.getD open_s (Int.toNat (IntKind.wrap IntKind.i64 ((↑(List.length open_s) : Int) - 1))) (0, [], [])).fst, (List.getD open_s (Int.toNat (IntKind.wrap IntKind.i64 ((↑(List.length open_s) : Int) - 1))) (0, [], [])).snd.fst, (List.getD open_s (Int.toNat (IntKind.wrap IntKind.i64 ((↑(List.length open_s) : Int) - 1))) (0, [], [])).snd.snd) (List.getD t17 (Int.toNat t19) (0, 0)).snd).bind fun r0 =>
              bif !r0.snd then
                some (([], false))
              else
                bif boundA 1 (List.length r0.fst) then
                  bif Nat.blt (Int.toNat 1) (List.length r0.fst) then
                    bif boundA 0 (List.length r0.fst) then
                      bif Nat.blt (Int.toNat 0) (List.length r0.fst) then
                        bif decide ((List.length (List.take (Int.toNat (IntKind.wrap IntKind.i64 ((↑(List.length open_s) : Int) - 1))) open_s) + List.length [((List.getD r0.fst (Int.toNat 1) (0, [], [])).fst, (List.getD r0.fst (Int.toNat 1) (0, [], [])).snd.fst, (List.getD r0.fst (Int.toNat 1) (0, [], [])).snd.snd), ((List.getD r0.fst (Int.toNat 0) (0, [], [])).fst, (List.getD r0.fst (Int.toNat 0) (0, [], [])).snd.fst, (List.getD r0.fst (Int.toNat 0) (0, [], [])).snd.snd)]) * 56 ≤ 140737488355328) then
                          rec1004 (List.take (Int.toNat (IntKind.wrap IntKind.i64 ((↑(List.length open_s) : Int) - 1))) open_s ++ [((List.getD r0.fst (Int.toNat 1) (0, [], [])).fst, (List.getD r0.fst (Int.toNat 1) (0, [], [])).snd.fst, (List.getD r0.fst (Int.toNat 1) (0, [], [])).snd.snd), ((List.getD r0.fst (Int.toNat 0) (0, [], [])).fst, (List.getD r0.fst (Int.toNat 0) (0, [], [])).snd.fst, (List.getD r0.fst (Int.toNat 0) (0, [], [])).snd.snd)]) outs t17 t18 (IntKind.wrap IntKind.i64 (t19 + 1))
                        else
                          none
                      else
                        none
                    else
                      none
                  else
                    none
                else
                  none
          else
            none
        else
          none
      else
        none
    else
      none
  else
    (f70 k outs).bind fun r1 =>
    some ((r1, true))
noncomputable def F41 (k : Nat) (rec1004 : List (Int × List Int × List Int) → List (Int × List Int × List Int) → List (Int × Int) → Int → Int → Option ((List (Int × (List (Int)) × List (Int))) × Bool)) (b : Int × (List (Int)) × List (Int)) (l : List (Int × Int)) : Option ((List (Int × (List (Int)) × List (Int))) × Bool) :=
  rec1004 ([(b.fst, b.snd.fst, b.snd.snd)]) ([]) l ((↑(List.length l) : Int)) (0)
noncomputable def l41 : Nat → (List (Int × List Int × List Int) → List (Int × List Int × List Int) → List (Int × Int) → Int → Int → Option ((List (Int × (List (Int)) × List (Int))) × Bool))
  | 0 => fun _ _ _ _ _ => none
  | k + 1 => F41_1004 k (l41 k)
noncomputable def f41 (k : Nat) (b : Int × (List (Int)) × List (Int)) (l : List (Int × Int)) : Option ((List (Int × (List (Int)) × List (Int))) × Bool) := F41 k (l41 k) b l
noncomputable def s41 : Spec := ⟨false, [(.slice 31 (.pair (.int .i64) (.pair (.slice 3 (.int .i64)) (.slice 3 (.int .i64)))), false), (.bool, false)], true, .pair (.slice 31 (.pair (.int .i64) (.pair (.slice 3 (.int .i64)) (.slice 3 (.int .i64))))) (.bool), fun k xs => match xs with | [.fptr (.pair (.int .i64) (.pair (.slice 3 (.int .i64)) (.slice 3 (.int .i64)))) b, .slc 57 (.pair (.int .i64) (.int .i64)) l] => f41 k b l | _ => none, false, none, true⟩
noncomputable def env58 : List (FuncId × Spec) := (41, s41) :: env57
noncomputable abbrev x41 := exec tiC (envOf env57) 61 h41 (finD tiC Go.Proofs.Try.f41.results.toList [(.slice 31 (.pair (.int .i64) (.pair (.slice 3 (.int .i64)) (.slice 3 (.int .i64)))), false), (.bool, false)] (.pair (.slice 31 (.pair (.int .i64) (.pair (.slice 3 (.int .i64)) (.slice 3 (.int .i64))))) (.bool)))
noncomputable def k41_1004 : List It := stackAt [.r, .r, .r, .l, .r, .b, .lb none] (bodyOf Go.Proofs.Try.f41) []
def t41_1004 (open_s : List (Int × List Int × List Int)) (outs : List (Int × List Int × List Int)) (t17 : List (Int × Int)) (t18 : Int) (t19 : Int) : St := [(12, Cell.val (AVal.ref 33 none)), (33, Cell.row true 31 (Ty.pair (Ty.int IntKind.i64) (Ty.pair (Ty.slice 3 (Ty.int IntKind.i64)) (Ty.slice 3 (Ty.int IntKind.i64)))) open_s), (14, Cell.val (AVal.ref 35 none)), (35, Cell.row true 31 (Ty.pair (Ty.int IntKind.i64) (Ty.pair (Ty.slice 3 (Ty.int IntKind.i64)) (Ty.slice 3 (Ty.int IntKind.i64)))) outs), (34, Cell.val (AVal.slc 57 (Ty.pair (Ty.int IntKind.i64) (Ty.int IntKind.i64)) t17)), (36, Cell.val (AVal.int IntKind.i64 t18)), (38, Cell.val (AVal.int IntKind.i64 t19))]
theorem e41_1004 (k : Nat) (open_s : List (Int × List Int × List Int)) (outs : List (Int × List Int × List Int)) (t17 : List (Int × Int)) (t18 : Int) (t19 : Int) : x41 (k + 1) k41_1004 (t41_1004 open_s outs t17 t18 t19) = F41_1004 k (fun (open_s : List (Int × List Int × List Int)) (outs : List (Int × List Int × List Int)) (t17 : List (Int × Int)) (t18 : Int) (t19 : Int) => x41 k k41_1004 (t41_1004 open_s outs t17 t18 t19)) open_s outs t17 t18 t19 := by kernel_rfl
theorem q41 : ∀ k : Nat, (fun (open_s : List (Int × List Int × List Int)) (outs : List (Int × List Int × List Int)) (t17 : List (Int × Int)) (t18 : Int) (t19 : Int) => x41 k k41_1004 (t41_1004 open_s outs t17 t18 t19)) = l41 k
  | 0 => rfl
  | k + 1 => by
    have h := q41 k
    show _ = F41_1004 k (l41 k)
    rw [← h]
    exact (funext fun open_s => funext fun outs => funext fun t17 => funext fun t18 => funext fun t19 => e41_1004 k open_s outs t17 t18 t19)
theorem w41 (k : Nat) (b : Int × (List (Int)) × List (Int)) (l : List (Int × Int)) : runFn tiC (envOf env57) 61 h41 (finD tiC Go.Proofs.Try.f41.results.toList [(.slice 31 (.pair (.int .i64) (.pair (.slice 3 (.int .i64)) (.slice 3 (.int .i64)))), false), (.bool, false)] (.pair (.slice 31 (.pair (.int .i64) (.pair (.slice 3 (.int .i64)) (.slice 3 (.int .i64))))) (.bool))) k (bodyOf Go.Proofs.Try.f41) (initS 0 [.fptr (.pair (.int .i64) (.pair (.slice 3 (.int .i64)) (.slice 3 (.int .i64)))) b, .slc 57 (.pair (.int .i64) (.int .i64)) l]) = F41 k (fun (open_s : List (Int × List Int × List Int)) (outs : List (Int × List Int × List Int)) (t17 : List (Int × Int)) (t18 : Int) (t19 : Int) => x41 k k41_1004 (t41_1004 open_s outs t17 t18 t19)) b l := by kernel_rfl
theorem v41 (k : Nat) (b : Int × (List (Int)) × List (Int)) (l : List (Int × Int)) : runFn tiC (envOf env57) 61 h41 (finD tiC Go.Proofs.Try.f41.results.toList [(.slice 31 (.pair (.int .i64) (.pair (.slice 3 (.int .i64)) (.slice 3 (.int .i64)))), false), (.bool, false)] (.pair (.slice 31 (.pair (.int .i64) (.pair (.slice 3 (.int .i64)) (.slice 3 (.int .i64))))) (.bool))) k (bodyOf Go.Proofs.Try.f41) (initS 0 [.fptr (.pair (.int .i64) (.pair (.slice 3 (.int .i64)) (.slice 3 (.int .i64)))) b, .slc 57 (.pair (.int .i64) (.int .i64)) l]) = f41 k b l := by
  rw [w41]
  have h := q41 k
  unfold f41
  rw [← h]
theorem m41 : Meets Go.Proofs.Try.prog 41 s41 := meets_deep_of_run tiCOk env57_ok mo Go.Proofs.Try.func41 (body := bodyOf Go.Proofs.Try.f41) (by kernel_rfl) (N := 61) (by kernel_rfl) (hs := h41) (by
  intro k xs r h
  unfold s41 at h
  dsimp only at h
  split at h
  · exact ⟨Nat.le_of_ble_eq_true rfl, (v41 k _ _).trans h⟩
  · cases h)
theorem env58_ok : EnvOk Go.Proofs.Try.prog (envOf env58) := envOf_cons m41 Go.Proofs.Try.func41 (by kernel_rfl) (by kernel_rfl) env57_ok

-- impl.treeFits
noncomputable def f49 (k : Nat) (b : Int × (List (Int)) × List (Int)) (l : List (Int × Int)) : Option (Bool) :=
  (f39 k b).bind fun r0 =>
  bif !r0 then
    some false
  else
    (f40 k l (↑(List.length b.snd.fst) : Int)).bind fun r1 =>
    bif !r1 then
      some false
    else
      (f41 k b l).bind fun r2 =>
      some (r2.snd)
noncomputable def s49 : Spec := ⟨false, [(.bool, false)], true, .bool, fun k xs => match xs with | [.fptr (.pair (.int .i64) (.pair (.slice 3 (.int .i64)) (.slice 3 (.int .i64)))) b, .slc 57 (.pair (.int .i64) (.int .i64)) l] => f49 k b l | _ => none, false, none, false⟩
noncomputable def env59 : List (FuncId × Spec) := (49, s49) :: env58
theorem v49 (k : Nat) (b : Int × (List (Int)) × List (Int)) (l : List (Int × Int)) : runFn ti (envOf env58) 27 [] (finT ti true Go.Proofs.Try.f49.results.toList [(.bool, false)] (.bool)) k (bodyOf Go.Proofs.Try.f49) (initS 0 [.fptr (.pair (.int .i64) (.pair (.slice 3 (.int .i64)) (.slice 3 (.int .i64)))) b, .slc 57 (.pair (.int .i64) (.int .i64)) l]) = f49 k b l := by kernel_rfl
theorem m49 : Meets Go.Proofs.Try.prog 49 s49 := meets_of_run tiOk env58_ok mo Go.Proofs.Try.func49 (body := bodyOf Go.Proofs.Try.f49) (by kernel_rfl) (N := 27) (by kernel_rfl) (hs := []) (by
  intro k xs r h
  unfold s49 at h
  dsimp only at h
  split at h
  · exact ⟨Nat.le_of_ble_eq_true rfl, (v49 k _ _).trans h⟩
  · cases h)
theorem env59_ok : EnvOk Go.Proofs.Try.prog (envOf env59) := envOf_cons m49 Go.Proofs.Try.func49 (by kernel_rfl) (by kernel_rfl) env58_ok

-- impl.leafPlaces
def h58 : Hints := [(1003, .lab [(3, .one (.own 3 (Ty.int IntKind.i64))), (6, .one (.frz 57 (Ty.pair (Ty.int IntKind.i64) (Ty.int IntKind.i64)))), (7, .one (.v)), (8, .one (.v))])]
noncomputable def F58_1003 (k : Nat) (rec1003 : List Int → List (Int × Int) → Int → Int → Option (List (Int))) (outs : List Int) (t6 : List (Int × Int)) (t7 : Int) (t8 : Int) : Option (List (Int)) :=
  bif decide (t8 < t7) then
    bif boundA t8 (List.length t6) then
      bif !decide ((List.getD t6 (Int.toNat t8) (0, 0)).fst = 0) then
        bif decide ((List.length outs + List.length [t8]) * 8 ≤ 140737488355328) then
          rec1003 (outs ++ [t8]) t6 t7 (IntKind.wrap IntKind.i64 (t8 + 1))
        else
          none
      else
        rec1003 outs t6 t7 (IntKind.wrap IntKind.i64 (t8 + 1))
    else
      none
  else
    some outs
noncomputable def F58 (k : Nat) (rec1003 : List Int → List (Int × Int) → Int → Int → Option (List (Int))) (l : List (Int × Int)) : Option (List (Int)) :=
  rec1003 ([]) l ((↑(List.length l) : Int)) (0)
noncomputable def l58 : Nat → (List Int → List (Int × Int) → Int → Int → Option (List (Int)))
  | 0 => fun _ _ _ _ => none
  | k + 1 => F58_1003 k (l58 k)
noncomputable def f58 (k : Nat) (l : List (Int × Int)) : Option (List (Int)) := F58 k (l58 k) l
noncomputable def s58 : Spec := ⟨false, [(.slice 3 (.int .i64), false)], true, .slice 3 (.int .i64), fun k xs => match xs with | [.slc 57 (.pair (.int .i64) (.int .i64)) l] => f58 k l | _ => none, false, none, false⟩
noncomputable def env60 : List (FuncId × Spec) := (58, s58) :: env59
noncomputable abbrev x58 := exec ti (envOf env59) 22 h58 (finT ti true Go.Proofs.Try.f58.results.toList [(.slice 3 (.int .i64), false)] (.slice 3 (.int .i64)))
noncomputable def k58_1003 : List It := stackAt [.r, .r, .l, .r, .b, .lb none] (bodyOf Go.Proofs.Try.f58) []
def t58_1003 (outs : List Int) (t6 : List (Int × Int)) (t7 : Int) (t8 : Int) : St := [(6, Cell.val (AVal.ref 33 none)), (33, Cell.row true 3 (Ty.int IntKind.i64) outs), (12, Cell.val (AVal.slc 57 (Ty.pair (Ty.int IntKind.i64) (Ty.int IntKind.i64)) t6)), (14, Cell.val (AVal.int IntKind.i64 t7)), (16, Cell.val (AVal.int IntKind.i64 t8))]
theorem e58_1003 (k : Nat) (outs : List Int) (t6 : List (Int × Int)) (t7 : Int) (t8 : Int) : x58 (k + 1) k58_1003 (t58_1003 outs t6 t7 t8) = F58_1003 k (fun (outs : List Int) (t6 : List (Int × Int)) (t7 : Int) (t8 : Int) => x58 k k58_1003 (t58_1003 outs t6 t7 t8)) outs t6 t7 t8 := by kernel_rfl
theorem q58 : ∀ k : Nat, (fun (outs : List Int) (t6 : List (Int × Int)) (t7 : Int) (t8 : Int) => x58 k k58_1003 (t58_1003 outs t6 t7 t8)) = l58 k
  | 0 => rfl
  | k + 1 => by
    have h := q58 k
    show _ = F58_1003 k (l58 k)
    rw [← h]
    exact (funext fun outs => funext fun t6 => funext fun t7 => funext fun t8 => e58_1003 k outs t6 t7 t8)
theorem w58 (k : Nat) (l : List (Int × Int)) : runFn ti (envOf env59) 22 h58 (finT ti true Go.Proofs.Try.f58.results.toList [(.slice 3 (.int .i64), false)] (.slice 3 (.int .i64))) k (bodyOf Go.Proofs.Try.f58) (initS 0 [.slc 57 (.pair (.int .i64) (.int .i64)) l]) = F58 k (fun (outs : List Int) (t6 : List (Int × Int)) (t7 : Int) (t8 : Int) => x58 k k58_1003 (t58_1003 outs t6 t7 t8)) l := by kernel_rfl
theorem v58 (k : Nat) (l : List (Int × Int)) : runFn ti (envOf env59) 22 h58 (finT ti true Go.Proofs.Try.f58.results.toList [(.slice 3 (.int .i64), false)] (.slice 3 (.int .i64))) k (bodyOf Go.Proofs.Try.f58) (initS 0 [.slc 57 (.pair (.int .i64) (.int .i64)) l]) = f58 k l := by
  rw [w58]
  have h := q58 k
  unfold f58
  rw [← h]
theorem m58 : Meets Go.Proofs.Try.prog 58 s58 := meets_of_run tiOk env59_ok mo Go.Proofs.Try.func58 (body := bodyOf Go.Proofs.Try.f58) (by kernel_rfl) (N := 22) (by kernel_rfl) (hs := h58) (by
  intro k xs r h
  unfold s58 at h
  dsimp only at h
  split at h
  · exact ⟨Nat.le_of_ble_eq_true rfl, (v58 k _).trans h⟩
  · cases h)
theorem env60_ok : EnvOk Go.Proofs.Try.prog (envOf env60) := envOf_cons m58 Go.Proofs.Try.func58 (by kernel_rfl) (by kernel_rfl) env59_ok

end Go.Proofs.YtchdegcfohegfaaE
