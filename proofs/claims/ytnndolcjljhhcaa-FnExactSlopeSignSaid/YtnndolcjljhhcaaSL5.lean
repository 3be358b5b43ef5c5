/- Functions, by the engine; printed. -/
import Derived.Test.YtnndolcjljhhcaaSL4
set_option maxRecDepth 100000
set_option maxHeartbeats 4000000
set_option linter.unusedVariables false
namespace Go.Proofs.YtnndolcjljhhcaaE
-- impl.integer
def f153 (k : Nat) (n : Int) : Option (Int × Int) :=
  some ((n, 0))
def s153 : Spec := ⟨false, [(.pair (.int .i64) (.int .i64), true)], true, .pair (.int .i64) (.int .i64), fun k xs => match xs with | [.int .i64 n] => f153 k n | _ => none⟩
def env49 : List (FuncId × Spec) := (153, s153) :: env48
theorem v153 (k : Nat) (n : Int) : runFn ti (envOf env48) 5 [] (finT ti true Go.Proofs.Try.f153.results.toList [(.pair (.int .i64) (.int .i64), true)] (.pair (.int .i64) (.int .i64))) k (bodyOf Go.Proofs.Try.f153) (initS 0 [.int .i64 n]) = f153 k n := by kernel_rfl
theorem m153 : Meets Go.Proofs.Try.prog 153 s153 := meets_of_run tiOk env48_ok mo Go.Proofs.Try.func153 (body := bodyOf Go.Proofs.Try.f153) (by kernel_rfl) (N := 5) (by kernel_rfl) (hs := []) (by
  intro k xs r h
  unfold s153 at h
  dsimp only at h
  split at h
  · exact ⟨Nat.le_of_ble_eq_true rfl, (v153 k _).trans h⟩
  · cases h)
theorem env49_ok : EnvOk Go.Proofs.Try.prog (envOf env49) := envOf_cons m153 Go.Proofs.Try.func153 (by kernel_rfl) (by kernel_rfl) env48_ok

-- impl.inRange
def f121 (k : Nat) (a_N : Int) (a_K : Int) : Option (Bool) :=
  (f152 k (-8) 0 a_N a_K).bind fun r0 =>
  bif decide (r0 ≤ 0) then
    (f152 k a_N a_K 8 0).bind fun r1 =>
    some (decide (r1 ≤ 0))
  else
    some false
def s121 : Spec := ⟨false, [(.bool, false)], true, .bool, fun k xs => match xs with | [.agg [.int .i64 a_N, .int .i64 a_K]] => f121 k a_N a_K | _ => none⟩
def env50 : List (FuncId × Spec) := (121, s121) :: env49
theorem v121 (k : Nat) (a_N : Int) (a_K : Int) : runFn ti (envOf env49) 13 [] (finT ti true Go.Proofs.Try.f121.results.toList [(.bool, false)] (.bool)) k (bodyOf Go.Proofs.Try.f121) (initS 0 [.agg [.int .i64 a_N, .int .i64 a_K]]) = f121 k a_N a_K := by kernel_rfl
theorem m121 : Meets Go.Proofs.Try.prog 121 s121 := meets_of_run tiOk env49_ok mo Go.Proofs.Try.func121 (body := bodyOf Go.Proofs.Try.f121) (by kernel_rfl) (N := 13) (by kernel_rfl) (hs := []) (by
  intro k xs r h
  unfold s121 at h
  dsimp only at h
  split at h
  · exact ⟨Nat.le_of_ble_eq_true rfl, (v121 k _ _).trans h⟩
  · cases h)
theorem env50_ok : EnvOk Go.Proofs.Try.prog (envOf env50) := envOf_cons m121 Go.Proofs.Try.func121 (by kernel_rfl) (by kernel_rfl) env49_ok

-- impl.isPlaces
def f151 (k : Nat) (places : Int) : Option (Bool) :=
  (f74 k places 0 24).bind fun r0 =>
  some r0
def s151 : Spec := ⟨false, [(.bool, false)], true, .bool, fun k xs => match xs with | [.int .i64 places] => f151 k places | _ => none⟩
def env51 : List (FuncId × Spec) := (151, s151) :: env50
theorem v151 (k : Nat) (places : Int) : runFn ti (envOf env50) 5 [] (finT ti true Go.Proofs.Try.f151.results.toList [(.bool, false)] (.bool)) k (bodyOf Go.Proofs.Try.f151) (initS 0 [.int .i64 places]) = f151 k places := by kernel_rfl
theorem m151 : Meets Go.Proofs.Try.prog 151 s151 := meets_of_run tiOk env50_ok mo Go.Proofs.Try.func151 (body := bodyOf Go.Proofs.Try.f151) (by kernel_rfl) (N := 5) (by kernel_rfl) (hs := []) (by
  intro k xs r h
  unfold s151 at h
  dsimp only at h
  split at h
  · exact ⟨Nat.le_of_ble_eq_true rfl, (v151 k _).trans h⟩
  · cases h)
theorem env51_ok : EnvOk Go.Proofs.Try.prog (envOf env51) := envOf_cons m151 Go.Proofs.Try.func151 (by kernel_rfl) (by kernel_rfl) env50_ok

-- impl.isDyadic
def f120 (k : Nat) (a_N : Int) (a_K : Int) : Option (Bool) :=
  (f151 k a_K).bind fun r0 =>
  bif r0 then
    (f74 k a_N (-1099511627776) 1099511627776).bind fun r1 =>
    bif r1 then
      bif decide (a_K = 0) then
        some true
      else
        some (!decide (Int.tmod a_N 2 = 0))
    else
      some false
  else
    some false
def s120 : Spec := ⟨false, [(.bool, false)], true, .bool, fun k xs => match xs with | [.agg [.int .i64 a_N, .int .i64 a_K]] => f120 k a_N a_K | _ => none⟩
def env52 : List (FuncId × Spec) := (120, s120) :: env51
theorem v120 (k : Nat) (a_N : Int) (a_K : Int) : runFn ti (envOf env51) 22 [] (finT ti true Go.Proofs.Try.f120.results.toList [(.bool, false)] (.bool)) k (bodyOf Go.Proofs.Try.f120) (initS 0 [.agg [.int .i64 a_N, .int .i64 a_K]]) = f120 k a_N a_K := by kernel_rfl
theorem m120 : Meets Go.Proofs.Try.prog 120 s120 := meets_of_run tiOk env51_ok mo Go.Proofs.Try.func120 (body := bodyOf Go.Proofs.Try.f120) (by kernel_rfl) (N := 22) (by kernel_rfl) (hs := []) (by
  intro k xs r h
  unfold s120 at h
  dsimp only at h
  split at h
  · exact ⟨Nat.le_of_ble_eq_true rfl, (v120 k _ _).trans h⟩
  · cases h)
theorem env52_ok : EnvOk Go.Proofs.Try.prog (envOf env52) := envOf_cons m120 Go.Proofs.Try.func120 (by kernel_rfl) (by kernel_rfl) env51_ok

-- impl.isInterval
def f135 (k : Nat) (i_Low_N : Int) (i_Low_K : Int) (i_High_N : Int) (i_High_K : Int) : Option (Bool) :=
  (f120 k i_Low_N i_Low_K).bind fun r0 =>
  bif r0 then
    (f120 k i_High_N i_High_K).bind fun r1 =>
    bif r1 then
      (f152 k i_Low_N i_Low_K i_High_N i_High_K).bind fun r2 =>
      some (decide (r2 ≤ 0))
    else
      some false
  else
    some false
def s135 : Spec := ⟨false, [(.bool, false)], true, .bool, fun k xs => match xs with | [.agg [.int .i64 i_Low_N, .int .i64 i_Low_K, .int .i64 i_High_N, .int .i64 i_High_K]] => f135 k i_Low_N i_Low_K i_High_N i_High_K | _ => none⟩
def env53 : List (FuncId × Spec) := (135, s135) :: env52
theorem v135 (k : Nat) (i_Low_N : Int) (i_Low_K : Int) (i_High_N : Int) (i_High_K : Int) : runFn ti (envOf env52) 19 [] (finT ti true Go.Proofs.Try.f135.results.toList [(.bool, false)] (.bool)) k (bodyOf Go.Proofs.Try.f135) (initS 0 [.agg [.int .i64 i_Low_N, .int .i64 i_Low_K, .int .i64 i_High_N, .int .i64 i_High_K]]) = f135 k i_Low_N i_Low_K i_High_N i_High_K := by kernel_rfl
theorem m135 : Meets Go.Proofs.Try.prog 135 s135 := meets_of_run tiOk env52_ok mo Go.Proofs.Try.func135 (body := bodyOf Go.Proofs.Try.f135) (by kernel_rfl) (N := 19) (by kernel_rfl) (hs := []) (by
  intro k xs r h
  unfold s135 at h
  dsimp only at h
  split at h
  · exact ⟨Nat.le_of_ble_eq_true rfl, (v135 k _ _ _ _).trans h⟩
  · cases h)
theorem env53_ok : EnvOk Go.Proofs.Try.prog (envOf env53) := envOf_cons m135 Go.Proofs.Try.func135 (by kernel_rfl) (by kernel_rfl) env52_ok

-- impl.isFit
def f98 (k : Nat) (i_Low_N : Int) (i_Low_K : Int) (i_High_N : Int) (i_High_K : Int) : Option (Bool) :=
  (f135 k i_Low_N i_Low_K i_High_N i_High_K).bind fun r0 =>
  bif r0 then
    (f121 k i_Low_N i_Low_K).bind fun r1 =>
    bif r1 then
      (f121 k i_High_N i_High_K).bind fun r2 =>
      bif r2 then
        bif decide (i_Low_K ≤ 5) then
          bif decide (i_High_K ≤ 5) then
            some (!(decide (i_Low_N = i_High_N) && (decide (i_Low_K = i_High_K) && true)))
          else
            some false
        else
          some false
      else
        some false
    else
      some false
  else
    some false
def s98 : Spec := ⟨false, [(.bool, false)], true, .bool, fun k xs => match xs with | [.agg [.int .i64 i_Low_N, .int .i64 i_Low_K, .int .i64 i_High_N, .int .i64 i_High_K]] => f98 k i_Low_N i_Low_K i_High_N i_High_K | _ => none⟩
def env54 : List (FuncId × Spec) := (98, s98) :: env53
theorem v98 (k : Nat) (i_Low_N : Int) (i_Low_K : Int) (i_High_N : Int) (i_High_K : Int) : runFn ti (envOf env53) 34 [] (finT ti true Go.Proofs.Try.f98.results.toList [(.bool, false)] (.bool)) k (bodyOf Go.Proofs.Try.f98) (initS 0 [.agg [.int .i64 i_Low_N, .int .i64 i_Low_K, .int .i64 i_High_N, .int .i64 i_High_K]]) = f98 k i_Low_N i_Low_K i_High_N i_High_K := by kernel_rfl
theorem m98 : Meets Go.Proofs.Try.prog 98 s98 := meets_of_run tiOk env53_ok mo Go.Proofs.Try.func98 (body := bodyOf Go.Proofs.Try.f98) (by kernel_rfl) (N := 34) (by kernel_rfl) (hs := []) (by
  intro k xs r h
  unfold s98 at h
  dsimp only at h
  split at h
  · exact ⟨Nat.le_of_ble_eq_true rfl, (v98 k _ _ _ _).trans h⟩
  · cases h)
theorem env54_ok : EnvOk Go.Proofs.Try.prog (envOf env54) := envOf_cons m98 Go.Proofs.Try.func98 (by kernel_rfl) (by kernel_rfl) env53_ok

-- slices.Clone[[]int,int]
def f170 (k : Nat) (s : List (Int)) : Option (List (Int)) :=
  bif decide ((0 + List.length s) * 8 ≤ 140737488355328) then
    some s
  else
    none
def s170 : Spec := ⟨false, [(.slice 3 (.int .i64), false)], true, .slice 3 (.int .i64), fun k xs => match xs with | [.slc 3 (.int .i64) s] => f170 k s | _ => none⟩
def env55 : List (FuncId × Spec) := (170, s170) :: env54
theorem m170 : Meets Go.Proofs.Try.prog 170 s170 := meets_clone (N := 8) tiOk env54_ok mo Go.Proofs.Try.func170 rfl rfl rfl rfl rfl rfl rfl rfl rfl rfl Go.Proofs.Try.underlying22 rfl (Nat.le_of_ble_eq_true rfl) (by
  intro k xs r h
  unfold s170 at h
  dsimp only at h
  split at h
  · rename_i s
    refine ⟨3, (.int .i64), s, rfl, fun hx => ?_, ?_⟩
    · subst hx
      refine Eq.trans ?_ h
      kernel_rfl
    · refine Eq.trans ?_ h
      kernel_rfl
  · cases h)
theorem env55_ok : EnvOk Go.Proofs.Try.prog (envOf env55) := envOf_cons m170 Go.Proofs.Try.func170 (by kernel_rfl) (by kernel_rfl) env54_ok

-- impl.stripped
def h146 : Hints := [(1001, .lab [(0, .one (.frz 3 (Ty.int IntKind.i64)))])]
def F146_1001 (k : Nat) (rec1001 : List Int → Option (List (Int))) (p : List Int) : Option (List (Int)) :=
  bif decide (0 < (↑(List.length p) : Int)) then
    bif boundA (IntKind.wrap IntKind.i64 ((↑(List.length p) : Int) - 1)) (List.length p) then
      bif decide (List.getD p (Int.toNat (IntKind.wrap IntKind.i64 ((↑(List.length p) : Int) - 1))) 0 = 0) then
        bif boundE (IntKind.wrap IntKind.i64 ((↑(List.length p) : Int) - 1)) (List.length p) then
          bif decide (0 ≤ 0) && decide (0 ≤ IntKind.wrap IntKind.i64 ((↑(List.length p) : Int) - 1)) then
            rec1001 (List.drop (Int.toNat 0) (List.take (Int.toNat (IntKind.wrap IntKind.i64 ((↑(List.length p) : Int) - 1))) p))
          else
            none
        else
          none
      else
        (f170 k p).bind fun r0 =>
        some r0
    else
      none
  else
    (f170 k p).bind fun r1 =>
    some r1
def F146 (k : Nat) (rec1001 : List Int → Option (List (Int))) (p : List (Int)) : Option (List (Int)) :=
  rec1001 p
def l146 : Nat → (List Int → Option (List (Int)))
  | 0 => fun _ => none
  | k + 1 => F146_1001 k (l146 k)
def f146 (k : Nat) (p : List (Int)) : Option (List (Int)) := F146 k (l146 k) p
def s146 : Spec := ⟨false, [(.slice 3 (.int .i64), false)], true, .slice 3 (.int .i64), fun k xs => match xs with | [.slc 3 (.int .i64) p] => f146 k p | _ => none⟩
def env56 : List (FuncId × Spec) := (146, s146) :: env55
noncomputable abbrev x146 := exec ti (envOf env55) 22 h146 (finT ti true Go.Proofs.Try.f146.results.toList [(.slice 3 (.int .i64), false)] (.slice 3 (.int .i64)))
noncomputable def k146_1001 : List It := stackAt [.r, .l, .b, .lb none] (bodyOf Go.Proofs.Try.f146) []
def t146_1001 (p : List Int) : St := [(0, Cell.val (AVal.slc 3 (Ty.int IntKind.i64) p))]
theorem e146_1001 (k : Nat) (p : List Int) : x146 (k + 1) k146_1001 (t146_1001 p) = F146_1001 k (fun (p : List Int) => x146 k k146_1001 (t146_1001 p)) p := by kernel_rfl
theorem q146 : ∀ k : Nat, (fun (p : List Int) => x146 k k146_1001 (t146_1001 p)) = l146 k
  | 0 => rfl
  | k + 1 => by
    have h := q146 k
    show _ = F146_1001 k (l146 k)
    rw [← h]
    exact (funext fun p => e146_1001 k p)
theorem w146 (k : Nat) (p : List (Int)) : runFn ti (envOf env55) 22 h146 (finT ti true Go.Proofs.Try.f146.results.toList [(.slice 3 (.int .i64), false)] (.slice 3 (.int .i64))) k (bodyOf Go.Proofs.Try.f146) (initS 0 [.slc 3 (.int .i64) p]) = F146 k (fun (p : List Int) => x146 k k146_1001 (t146_1001 p)) p := by kernel_rfl
theorem v146 (k : Nat) (p : List (Int)) : runFn ti (envOf env55) 22 h146 (finT ti true Go.Proofs.Try.f146.results.toList [(.slice 3 (.int .i64), false)] (.slice 3 (.int .i64))) k (bodyOf Go.Proofs.Try.f146) (initS 0 [.slc 3 (.int .i64) p]) = f146 k p := by
  rw [w146]
  have h := q146 k
  unfold f146
  rw [← h]
theorem m146 : Meets Go.Proofs.Try.prog 146 s146 := meets_of_run tiOk env55_ok mo Go.Proofs.Try.func146 (body := bodyOf Go.Proofs.Try.f146) (by kernel_rfl) (N := 22) (by kernel_rfl) (hs := h146) (by
  intro k xs r h
  unfold s146 at h
  dsimp only at h
  split at h
  · exact ⟨Nat.le_of_ble_eq_true rfl, (v146 k _).trans h⟩
  · cases h)
theorem env56_ok : EnvOk Go.Proofs.Try.prog (envOf env56) := envOf_cons m146 Go.Proofs.Try.func146 (by kernel_rfl) (by kernel_rfl) env55_ok

-- impl.addSingle
def h110 : Hints := [(1003, .lab [(0, .one (.frz 3 (Ty.int IntKind.i64))), (1, .one (.frz 3 (Ty.int IntKind.i64))), (5, .one (.own 3 (Ty.int IntKind.i64))), (14, .one (.v)), (15, .one (.v))])]
def F110_1003 (k : Nat) (rec1003 : List Int → List Int → List Int → Int → Int → Option (List (Int))) (p : List Int) (q : List Int) (outs : List Int) (t14 : Int) (t15 : Int) : Option (List (Int)) :=
  bif decide (t15 < t14) then
    bif decide (t15 < (↑(List.length p) : Int)) then
      bif boundA t15 (List.length outs) then
        bif Nat.blt (Int.toNat t15) (List.length outs) then
          bif boundA t15 (List.length p) then
            bif boundA t15 (List.length outs) then
              bif Nat.blt (Int.toNat t15) (List.length outs) then
                bif decide (t15 < (↑(List.length q) : Int)) then
                  bif boundA t15 (List.length (List.set outs (Int.toNat t15) (IntKind.wrap IntKind.i64 (List.getD outs (Int.toNat t15) 0 + List.getD p (Int.toNat t15) 0)))) then
                    bif Nat.blt (Int.toNat t15) (List.length (List.set outs (Int.toNat t15) (IntKind.wrap IntKind.i64 (List.getD outs (Int.toNat t15) 0 + List.getD p (Int.toNat t15) 0)))) then
                      bif boundA t15 (List.length q) then
                        bif boundA t15 (List.length (List.set outs (Int.toNat t15) (IntKind.wrap IntKind.i64 (List.getD outs (Int.toNat t15) 0 + List.getD p (Int.toNat t15) 0)))) then
                          bif Nat.blt (Int.toNat t15) (List.length (List.set outs (Int.toNat t15) (IntKind.wrap IntKind.i64 (List.getD outs (Int.toNat t15) 0 + List.getD p (Int.toNat t15) 0)))) then
                            rec1003 p q (List.set (List.set outs (Int.toNat t15) (IntKind.wrap IntKind.i64 (List.getD outs (Int.toNat t15) 0 + List.getD p (Int.toNat t15) 0))) (Int.toNat t15) (IntKind.wrap IntKind.i64 (List.getD (List.set outs (Int.toNat t15) (IntKind.wrap IntKind.i64 (List.getD outs (Int.toNat t15) 0 + List.getD p (Int.toNat t15) 0))) (Int.toNat t15) 0 + List.getD q (Int.toNat t15) 0))) t14 (IntKind.wrap IntKind.i64 (t15 + 1))
                          else
                            none
                        else
                          none
                      else
                        none
                    else
                      none
                  else
                    none
                else
                  rec1003 p q (List.set outs (Int.toNat t15) (IntKind.wrap IntKind.i64 (List.getD outs (Int.toNat t15) 0 + List.getD p (Int.toNat t15) 0))) t14 (IntKind.wrap IntKind.i64 (t15 + 1))
              else
                none
            else
              none
          else
            none
        else
          none
      else
        none
    else
      bif decide (t15 < (↑(List.length q) : Int)) then
        bif boundA t15 (List.length outs) then
          bif Nat.blt (Int.toNat t15) (List.length outs) then
            bif boundA t15 (List.length q) then
              bif boundA t15 (List.length outs) then
                bif Nat.blt (Int.toNat t15) (List.length outs) then
                  rec1003 p q (List.set outs (Int.toNat t15) (IntKind.wrap IntKind.i64 (List.getD outs (Int.toNat t15) 0 + List.getD q (Int.toNat t15) 0))) t14 (IntKind.wrap IntKind.i64 (t15 + 1))
                else
                  none
              else
                none
            else
              none
          else
            none
        else
          none
      else
        rec1003 p q outs t14 (IntKind.wrap IntKind.i64 (t15 + 1))
  else
    (f146 k outs).bind fun r0 =>
    some r0
def F110 (k : Nat) (rec1003 : List Int → List Int → List Int → Int → Int → Option (List (Int))) (p : List (Int)) (q : List (Int)) : Option (List (Int)) :=
  bif decide (0 ≤ bif decide ((↑(List.length p) : Int) < (↑(List.length q) : Int)) then (↑(List.length q) : Int) else (↑(List.length p) : Int)) then
    bif decide ((bif decide ((↑(List.length p) : Int) < (↑(List.length q) : Int)) then (↑(List.length q) : Int) else (↑(List.length p) : Int)) ≤ bif decide ((↑(List.length p) : Int) < (↑(List.length q) : Int)) then (↑(List.length q) : Int) else (↑(List.length p) : Int)) then
      bif decide ((bif decide ((↑(List.length p) : Int) < (↑(List.length q) : Int)) then (↑(List.length q) : Int) else (↑(List.length p) : Int)) * (↑8 : Int) ≤ 140737488355328) then
        rec1003 p q (List.replicate (Int.toNat (bif decide ((↑(List.length p) : Int) < (↑(List.length q) : Int)) then (↑(List.length q) : Int) else (↑(List.length p) : Int))) (dflt (Ty.int IntKind.i64))) ((↑(List.length (List.replicate (Int.toNat (bif decide ((↑(List.length p) : Int) < (↑(List.length q) : Int)) then (↑(List.length q) : Int) else (↑(List.length p) : Int))) (dflt (Ty.int IntKind.i64)))) : Int)) (0)
      else
        none
    else
      none
  else
    none
def l110 : Nat → (List Int → List Int → List Int → Int → Int → Option (List (Int)))
  | 0 => fun _ _ _ _ _ => none
  | k + 1 => F110_1003 k (l110 k)
def f110 (k : Nat) (p : List (Int)) (q : List (Int)) : Option (List (Int)) := F110 k (l110 k) p q
def s110 : Spec := ⟨false, [(.slice 3 (.int .i64), false)], true, .slice 3 (.int .i64), fun k xs => match xs with | [.slc 3 (.int .i64) p, .slc 3 (.int .i64) q] => f110 k p q | _ => none⟩
def env57 : List (FuncId × Spec) := (110, s110) :: env56
noncomputable abbrev x110 := exec ti (envOf env56) 49 h110 (finT ti true Go.Proofs.Try.f110.results.toList [(.slice 3 (.int .i64), false)] (.slice 3 (.int .i64)))
noncomputable def k110_1003 : List It := stackAt [.r, .r, .l, .r, .b, .lb none] (bodyOf Go.Proofs.Try.f110) []
def t110_1003 (p : List Int) (q : List Int) (outs : List Int) (t14 : Int) (t15 : Int) : St := [(0, Cell.val (AVal.slc 3 (Ty.int IntKind.i64) p)), (2, Cell.val (AVal.slc 3 (Ty.int IntKind.i64) q)), (10, Cell.val (AVal.ref 3 none)), (3, Cell.row true 3 (Ty.int IntKind.i64) outs), (28, Cell.val (AVal.int IntKind.i64 t14)), (30, Cell.val (AVal.int IntKind.i64 t15))]
theorem e110_1003 (k : Nat) (p : List Int) (q : List Int) (outs : List Int) (t14 : Int) (t15 : Int) : x110 (k + 1) k110_1003 (t110_1003 p q outs t14 t15) = F110_1003 k (fun (p : List Int) (q : List Int) (outs : List Int) (t14 : Int) (t15 : Int) => x110 k k110_1003 (t110_1003 p q outs t14 t15)) p q outs t14 t15 := by kernel_rfl
theorem q110 : ∀ k : Nat, (fun (p : List Int) (q : List Int) (outs : List Int) (t14 : Int) (t15 : Int) => x110 k k110_1003 (t110_1003 p q outs t14 t15)) = l110 k
  | 0 => rfl
  | k + 1 => by
    have h := q110 k
    show _ = F110_1003 k (l110 k)
    rw [← h]
    exact (funext fun p => funext fun q => funext fun outs => funext fun t14 => funext fun t15 => e110_1003 k p q outs t14 t15)
theorem w110 (k : Nat) (p : List (Int)) (q : List (Int)) : runFn ti (envOf env56) 49 h110 (finT ti true Go.Proofs.Try.f110.results.toList [(.slice 3 (.int .i64), false)] (.slice 3 (.int .i64))) k (bodyOf Go.Proofs.Try.f110) (initS 0 [.slc 3 (.int .i64) p, .slc 3 (.int .i64) q]) = F110 k (fun (p : List Int) (q : List Int) (outs : List Int) (t14 : Int) (t15 : Int) => x110 k k110_1003 (t110_1003 p q outs t14 t15)) p q := by kernel_rfl
theorem v110 (k : Nat) (p : List (Int)) (q : List (Int)) : runFn ti (envOf env56) 49 h110 (finT ti true Go.Proofs.Try.f110.results.toList [(.slice 3 (.int .i64), false)] (.slice 3 (.int .i64))) k (bodyOf Go.Proofs.Try.f110) (initS 0 [.slc 3 (.int .i64) p, .slc 3 (.int .i64) q]) = f110 k p q := by
  rw [w110]
  have h := q110 k
  unfold f110
  rw [← h]
theorem m110 : Meets Go.Proofs.Try.prog 110 s110 := meets_of_run tiOk env56_ok mo Go.Proofs.Try.func110 (body := bodyOf Go.Proofs.Try.f110) (by kernel_rfl) (N := 49) (by kernel_rfl) (hs := h110) (by
  intro k xs r h
  unfold s110 at h
  dsimp only at h
  split at h
  · exact ⟨Nat.le_of_ble_eq_true rfl, (v110 k _ _).trans h⟩
  · cases h)
theorem env57_ok : EnvOk Go.Proofs.Try.prog (envOf env57) := envOf_cons m110 Go.Proofs.Try.func110 (by kernel_rfl) (by kernel_rfl) env56_ok

-- impl.multiplySingle
def h111 : Hints := [(1003, .lab [(1, .one (.frz 3 (Ty.int IntKind.i64))), (5, .one (.own 3 (Ty.int IntKind.i64))), (16, .one (.frz 3 (Ty.int IntKind.i64))), (17, .one (.v)), (18, .one (.v))]), (1006, .lab [(1, .one (.frz 3 (Ty.int IntKind.i64))), (5, .one (.own 3 (Ty.int IntKind.i64))), (6, .one (.v)), (7, .one (.v)), (16, .one (.frz 3 (Ty.int IntKind.i64))), (17, .one (.v)), (18, .one (.v)), (23, .one (.frz 3 (Ty.int IntKind.i64))), (24, .one (.v)), (25, .one (.v))])]
def F111_1003 (k : Nat) (rec1003 : List Int → List Int → List Int → Int → Int → Option (List (Int))) (rec1006 : List Int → List Int → Int → Int → List Int → Int → Int → List Int → Int → Int → Option (List (Int))) (q : List Int) (outs : List Int) (t16 : List Int) (t17 : Int) (t18 : Int) : Option (List (Int)) :=
  bif decide (t18 < t17) then
    bif boundA t18 (List.length t16) then
      rec1006 q outs t18 (List.getD t16 (Int.toNat t18) 0) t16 t17 t18 q ((↑(List.length q) : Int)) (0)
    else
      none
  else
    (f146 k outs).bind fun r0 =>
    some r0
def F111_1006 (k : Nat) (rec1003 : List Int → List Int → List Int → Int → Int → Option (List (Int))) (rec1006 : List Int → List Int → Int → Int → List Int → Int → Int → List Int → Int → Int → Option (List (Int))) (q : List Int) (outs : List Int) (i : Int) (a : Int) (t16 : List Int) (t17 : Int) (t18 : Int) (t23 : List Int) (t24 : Int) (t25 : Int) : Option (List (Int)) :=
  bif decide (t25 < t24) then
    bif boundA t25 (List.length t23) then
      bif boundA (IntKind.wrap IntKind.i64 (i + t25)) (List.length outs) then
        bif Nat.blt (Int.toNat (IntKind.wrap IntKind.i64 (i + t25))) (List.length outs) then
          bif boundA (IntKind.wrap IntKind.i64 (i + t25)) (List.length outs) then
            bif Nat.blt (Int.toNat (IntKind.wrap IntKind.i64 (i + t25))) (List.length outs) then
              rec1006 q (List.set outs (Int.toNat (IntKind.wrap IntKind.i64 (i + t25))) (IntKind.wrap IntKind.i64 (List.getD outs (Int.toNat (IntKind.wrap IntKind.i64 (i + t25))) 0 + IntKind.wrap IntKind.i64 (a * List.getD t23 (Int.toNat t25) 0)))) i a t16 t17 t18 t23 t24 (IntKind.wrap IntKind.i64 (t25 + 1))
            else
              none
          else
            none
        else
          none
      else
        none
    else
      none
  else
    rec1003 q outs t16 t17 (IntKind.wrap IntKind.i64 (t18 + 1))
def F111 (k : Nat) (rec1003 : List Int → List Int → List Int → Int → Int → Option (List (Int))) (rec1006 : List Int → List Int → Int → Int → List Int → Int → Int → List Int → Int → Int → Option (List (Int))) (p : List (Int)) (q : List (Int)) : Option (List (Int)) :=
  bif decide (0 ≤ IntKind.wrap IntKind.i64 ((↑(List.length p) : Int) + (↑(List.length q) : Int))) then
    bif decide (IntKind.wrap IntKind.i64 ((↑(List.length p) : Int) + (↑(List.length q) : Int)) ≤ IntKind.wrap IntKind.i64 ((↑(List.length p) : Int) + (↑(List.length q) : Int))) then
      bif decide (IntKind.wrap IntKind.i64 ((↑(List.length p) : Int) + (↑(List.length q) : Int)) * (↑8 : Int) ≤ 140737488355328) then
        rec1003 q (List.replicate (Int.toNat (IntKind.wrap IntKind.i64 ((↑(List.length p) : Int) + (↑(List.length q) : Int)))) (dflt (Ty.int IntKind.i64))) p ((↑(List.length p) : Int)) (0)
      else
        none
    else
      none
  else
    none
def l111 : Nat → (List Int → List Int → List Int → Int → Int → Option (List (Int))) × (List Int → List Int → Int → Int → List Int → Int → Int → List Int → Int → Int → Option (List (Int)))
  | 0 => (fun _ _ _ _ _ => none, fun _ _ _ _ _ _ _ _ _ _ => none)
  | k + 1 => (F111_1003 k ((l111 k).1) ((l111 k).2), F111_1006 k ((l111 k).1) ((l111 k).2))
def f111 (k : Nat) (p : List (Int)) (q : List (Int)) : Option (List (Int)) := F111 k ((l111 k).1) ((l111 k).2) p q
def s111 : Spec := ⟨false, [(.slice 3 (.int .i64), false)], true, .slice 3 (.int .i64), fun k xs => match xs with | [.slc 3 (.int .i64) p, .slc 3 (.int .i64) q] => f111 k p q | _ => none⟩
def env58 : List (FuncId × Spec) := (111, s111) :: env57
noncomputable abbrev x111 := exec ti (envOf env57) 45 h111 (finT ti true Go.Proofs.Try.f111.results.toList [(.slice 3 (.int .i64), false)] (.slice 3 (.int .i64)))
noncomputable def k111_1003 : List It := stackAt [.r, .r, .l, .r, .b, .lb none] (bodyOf Go.Proofs.Try.f111) []
def t111_1003 (q : List Int) (outs : List Int) (t16 : List Int) (t17 : Int) (t18 : Int) : St := [(2, Cell.val (AVal.slc 3 (Ty.int IntKind.i64) q)), (10, Cell.val (AVal.ref 3 none)), (3, Cell.row true 3 (Ty.int IntKind.i64) outs), (32, Cell.val (AVal.slc 3 (Ty.int IntKind.i64) t16)), (34, Cell.val (AVal.int IntKind.i64 t17)), (36, Cell.val (AVal.int IntKind.i64 t18))]
noncomputable def k111_1006 : List It := stackAt [.r, .r, .l, .r, .b, .lb none, .r, .r, .l, .b, .r, .r, .b, .lb none] (bodyOf Go.Proofs.Try.f111) []
def t111_1006 (q : List Int) (outs : List Int) (i : Int) (a : Int) (t16 : List Int) (t17 : Int) (t18 : Int) (t23 : List Int) (t24 : Int) (t25 : Int) : St := [(2, Cell.val (AVal.slc 3 (Ty.int IntKind.i64) q)), (10, Cell.val (AVal.ref 3 none)), (3, Cell.row true 3 (Ty.int IntKind.i64) outs), (12, Cell.val (AVal.int IntKind.i64 i)), (14, Cell.val (AVal.int IntKind.i64 a)), (32, Cell.val (AVal.slc 3 (Ty.int IntKind.i64) t16)), (34, Cell.val (AVal.int IntKind.i64 t17)), (36, Cell.val (AVal.int IntKind.i64 t18)), (46, Cell.val (AVal.slc 3 (Ty.int IntKind.i64) t23)), (48, Cell.val (AVal.int IntKind.i64 t24)), (50, Cell.val (AVal.int IntKind.i64 t25))]
theorem e111_1003 (k : Nat) (q : List Int) (outs : List Int) (t16 : List Int) (t17 : Int) (t18 : Int) : x111 (k + 1) k111_1003 (t111_1003 q outs t16 t17 t18) = F111_1003 k (fun (q : List Int) (outs : List Int) (t16 : List Int) (t17 : Int) (t18 : Int) => x111 k k111_1003 (t111_1003 q outs t16 t17 t18)) (fun (q : List Int) (outs : List Int) (i : Int) (a : Int) (t16 : List Int) (t17 : Int) (t18 : Int) (t23 : List Int) (t24 : Int) (t25 : Int) => x111 k k111_1006 (t111_1006 q outs i a t16 t17 t18 t23 t24 t25)) q outs t16 t17 t18 := by kernel_rfl
theorem e111_1006 (k : Nat) (q : List Int) (outs : List Int) (i : Int) (a : Int) (t16 : List Int) (t17 : Int) (t18 : Int) (t23 : List Int) (t24 : Int) (t25 : Int) : x111 (k + 1) k111_1006 (t111_1006 q outs i a t16 t17 t18 t23 t24 t25) = F111_1006 k (fun (q : List Int) (outs : List Int) (t16 : List Int) (t17 : Int) (t18 : Int) => x111 k k111_1003 (t111_1003 q outs t16 t17 t18)) (fun (q : List Int) (outs : List Int) (i : Int) (a : Int) (t16 : List Int) (t17 : Int) (t18 : Int) (t23 : List Int) (t24 : Int) (t25 : Int) => x111 k k111_1006 (t111_1006 q outs i a t16 t17 t18 t23 t24 t25)) q outs i a t16 t17 t18 t23 t24 t25 := by kernel_rfl
theorem q111 : ∀ k : Nat, ((fun (q : List Int) (outs : List Int) (t16 : List Int) (t17 : Int) (t18 : Int) => x111 k k111_1003 (t111_1003 q outs t16 t17 t18)), (fun (q : List Int) (outs : List Int) (i : Int) (a : Int) (t16 : List Int) (t17 : Int) (t18 : Int) (t23 : List Int) (t24 : Int) (t25 : Int) => x111 k k111_1006 (t111_1006 q outs i a t16 t17 t18 t23 t24 t25))) = l111 k
  | 0 => rfl
  | k + 1 => by
    have h := q111 k
    show _ = (F111_1003 k ((l111 k).1) ((l111 k).2), F111_1006 k ((l111 k).1) ((l111 k).2))
    rw [← h]
    exact (Prod.ext (funext fun q => funext fun outs => funext fun t16 => funext fun t17 => funext fun t18 => e111_1003 k q outs t16 t17 t18) (funext fun q => funext fun outs => funext fun i => funext fun a => funext fun t16 => funext fun t17 => funext fun t18 => funext fun t23 => funext fun t24 => funext fun t25 => e111_1006 k q outs i a t16 t17 t18 t23 t24 t25))
theorem w111 (k : Nat) (p : List (Int)) (q : List (Int)) : runFn ti (envOf env57) 45 h111 (finT ti true Go.Proofs.Try.f111.results.toList [(.slice 3 (.int .i64), false)] (.slice 3 (.int .i64))) k (bodyOf Go.Proofs.Try.f111) (initS 0 [.slc 3 (.int .i64) p, .slc 3 (.int .i64) q]) = F111 k (fun (q : List Int) (outs : List Int) (t16 : List Int) (t17 : Int) (t18 : Int) => x111 k k111_1003 (t111_1003 q outs t16 t17 t18)) (fun (q : List Int) (outs : List Int) (i : Int) (a : Int) (t16 : List Int) (t17 : Int) (t18 : Int) (t23 : List Int) (t24 : Int) (t25 : Int) => x111 k k111_1006 (t111_1006 q outs i a t16 t17 t18 t23 t24 t25)) p q := by kernel_rfl
theorem v111 (k : Nat) (p : List (Int)) (q : List (Int)) : runFn ti (envOf env57) 45 h111 (finT ti true Go.Proofs.Try.f111.results.toList [(.slice 3 (.int .i64), false)] (.slice 3 (.int .i64))) k (bodyOf Go.Proofs.Try.f111) (initS 0 [.slc 3 (.int .i64) p, .slc 3 (.int .i64) q]) = f111 k p q := by
  rw [w111]
  have h := q111 k
  unfold f111
  rw [← h]
theorem m111 : Meets Go.Proofs.Try.prog 111 s111 := meets_of_run tiOk env57_ok mo Go.Proofs.Try.func111 (body := bodyOf Go.Proofs.Try.f111) (by kernel_rfl) (N := 45) (by kernel_rfl) (hs := h111) (by
  intro k xs r h
  unfold s111 at h
  dsimp only at h
  split at h
  · exact ⟨Nat.le_of_ble_eq_true rfl, (v111 k _ _).trans h⟩
  · cases h)
theorem env58_ok : EnvOk Go.Proofs.Try.prog (envOf env58) := envOf_cons m111 Go.Proofs.Try.func111 (by kernel_rfl) (by kernel_rfl) env57_ok

-- impl.familyAt
def f68 (k : Nat) (p : List (Int)) (q : List (Int)) (i : Int) (fine : Int) : Option (List (Int)) :=
  bif !decide (fine < 0) then
    (f111 k p [IntKind.wrap IntKind.i64 (1 * 2 ^ min (Int.toNat fine) (IntKind.bits IntKind.i64))]).bind fun r0 =>
    (f111 k q [i]).bind fun r1 =>
    (f110 k r0 r1).bind fun r2 =>
    some r2
  else
    none
def s68 : Spec := ⟨false, [(.slice 3 (.int .i64), false)], true, .slice 3 (.int .i64), fun k xs => match xs with | [.slc 3 (.int .i64) p, .slc 3 (.int .i64) q, .int .i64 i, .int .i64 fine] => f68 k p q i fine | _ => none⟩
def env59 : List (FuncId × Spec) := (68, s68) :: env58
theorem v68 (k : Nat) (p : List (Int)) (q : List (Int)) (i : Int) (fine : Int) : runFn ti (envOf env58) 19 [] (finT ti true Go.Proofs.Try.f68.results.toList [(.slice 3 (.int .i64), false)] (.slice 3 (.int .i64))) k (bodyOf Go.Proofs.Try.f68) (initS 0 [.slc 3 (.int .i64) p, .slc 3 (.int .i64) q, .int .i64 i, .int .i64 fine]) = f68 k p q i fine := by kernel_rfl
theorem m68 : Meets Go.Proofs.Try.prog 68 s68 := meets_of_run tiOk env58_ok mo Go.Proofs.Try.func68 (body := bodyOf Go.Proofs.Try.f68) (by kernel_rfl) (N := 19) (by kernel_rfl) (hs := []) (by
  intro k xs r h
  unfold s68 at h
  dsimp only at h
  split at h
  · exact ⟨Nat.le_of_ble_eq_true rfl, (v68 k _ _ _ _).trans h⟩
  · cases h)
theorem env59_ok : EnvOk Go.Proofs.Try.prog (envOf env59) := envOf_cons m68 Go.Proofs.Try.func68 (by kernel_rfl) (by kernel_rfl) env58_ok

-- impl.deriveSingle
def h136 : Hints := [(1003, .lab [(0, .one (.frz 3 (Ty.int IntKind.i64))), (3, .one (.own 3 (Ty.int IntKind.i64))), (4, .one (.v))])]
def F136_1003 (k : Nat) (rec1003 : List Int → List Int → Int → Option (List (Int))) (p : List Int) (outs : List Int) (i : Int) : Option (List (Int)) :=
  bif decide (i < (↑(List.length p) : Int)) then
    bif boundA i (List.length p) then
      bif decide ((List.length outs + List.length [IntKind.wrap IntKind.i64 (i * List.getD p (Int.toNat i) 0)]) * 8 ≤ 140737488355328) then
        rec1003 p (outs ++ [IntKind.wrap IntKind.i64 (i * List.getD p (Int.toNat i) 0)]) (IntKind.wrap IntKind.i64 (i + 1))
      else
        none
    else
      none
  else
    (f146 k outs).bind fun r0 =>
    some r0
def F136 (k : Nat) (rec1003 : List Int → List Int → Int → Option (List (Int))) (p : List (Int)) : Option (List (Int)) :=
  rec1003 p ([]) (1)
def l136 : Nat → (List Int → List Int → Int → Option (List (Int)))
  | 0 => fun _ _ _ => none
  | k + 1 => F136_1003 k (l136 k)
def f136 (k : Nat) (p : List (Int)) : Option (List (Int)) := F136 k (l136 k) p
def s136 : Spec := ⟨false, [(.slice 3 (.int .i64), false)], true, .slice 3 (.int .i64), fun k xs => match xs with | [.slc 3 (.int .i64) p] => f136 k p | _ => none⟩
def env60 : List (FuncId × Spec) := (136, s136) :: env59
noncomputable abbrev x136 := exec ti (envOf env59) 22 h136 (finT ti true Go.Proofs.Try.f136.results.toList [(.slice 3 (.int .i64), false)] (.slice 3 (.int .i64)))
noncomputable def k136_1003 : List It := stackAt [.r, .r, .l, .r, .b, .lb none] (bodyOf Go.Proofs.Try.f136) []
def t136_1003 (p : List Int) (outs : List Int) (i : Int) : St := [(0, Cell.val (AVal.slc 3 (Ty.int IntKind.i64) p)), (6, Cell.val (AVal.ref 3 none)), (3, Cell.row true 3 (Ty.int IntKind.i64) outs), (8, Cell.val (AVal.int IntKind.i64 i))]
theorem e136_1003 (k : Nat) (p : List Int) (outs : List Int) (i : Int) : x136 (k + 1) k136_1003 (t136_1003 p outs i) = F136_1003 k (fun (p : List Int) (outs : List Int) (i : Int) => x136 k k136_1003 (t136_1003 p outs i)) p outs i := by kernel_rfl
theorem q136 : ∀ k : Nat, (fun (p : List Int) (outs : List Int) (i : Int) => x136 k k136_1003 (t136_1003 p outs i)) = l136 k
  | 0 => rfl
  | k + 1 => by
    have h := q136 k
    show _ = F136_1003 k (l136 k)
    rw [← h]
    exact (funext fun p => funext fun outs => funext fun i => e136_1003 k p outs i)
theorem w136 (k : Nat) (p : List (Int)) : runFn ti (envOf env59) 22 h136 (finT ti true Go.Proofs.Try.f136.results.toList [(.slice 3 (.int .i64), false)] (.slice 3 (.int .i64))) k (bodyOf Go.Proofs.Try.f136) (initS 0 [.slc 3 (.int .i64) p]) = F136 k (fun (p : List Int) (outs : List Int) (i : Int) => x136 k k136_1003 (t136_1003 p outs i)) p := by kernel_rfl
theorem v136 (k : Nat) (p : List (Int)) : runFn ti (envOf env59) 22 h136 (finT ti true Go.Proofs.Try.f136.results.toList [(.slice 3 (.int .i64), false)] (.slice 3 (.int .i64))) k (bodyOf Go.Proofs.Try.f136) (initS 0 [.slc 3 (.int .i64) p]) = f136 k p := by
  rw [w136]
  have h := q136 k
  unfold f136
  rw [← h]
theorem m136 : Meets Go.Proofs.Try.prog 136 s136 := meets_of_run tiOk env59_ok mo Go.Proofs.Try.func136 (body := bodyOf Go.Proofs.Try.f136) (by kernel_rfl) (N := 22) (by kernel_rfl) (hs := h136) (by
  intro k xs r h
  unfold s136 at h
  dsimp only at h
  split at h
  · exact ⟨Nat.le_of_ble_eq_true rfl, (v136 k _).trans h⟩
  · cases h)
theorem env60_ok : EnvOk Go.Proofs.Try.prog (envOf env60) := envOf_cons m136 Go.Proofs.Try.func136 (by kernel_rfl) (by kernel_rfl) env59_ok

end Go.Proofs.YtnndolcjljhhcaaE
