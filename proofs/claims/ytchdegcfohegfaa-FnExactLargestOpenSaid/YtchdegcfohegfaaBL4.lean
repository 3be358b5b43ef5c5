/- Functions, by the engine; printed. -/
import Derived.Test.YtchdegcfohegfaaBL3
set_option maxRecDepth 100000
set_option maxHeartbeats 4000000
set_option linter.unusedVariables false
namespace Go.Proofs.YtchdegcfohegfaaE
-- spec.dyGood
noncomputable def f99 (k : Nat) (a_N : Int) (a_K : Int) : Option (Bool) :=
  (f60 k a_K 0 24).bind fun r0 =>
  bif r0 then
    (f60 k a_N (-1099511627776) 1099511627776).bind fun r1 =>
    bif r1 then
      bif decide (a_K = 0) then
        some true
      else
        some (!decide (Int.tmod a_N 2 = 0))
    else
      some false
  else
    some false
noncomputable def s99 : Spec := ⟨false, [(.bool, false)], true, .bool, fun k xs => match xs with | [.agg [.int .i64 a_N, .int .i64 a_K]] => f99 k a_N a_K | _ => none, false, none, false⟩
noncomputable def env37 : List (FuncId × Spec) := (99, s99) :: env36
theorem v99 (k : Nat) (a_N : Int) (a_K : Int) : runFn ti (envOf env36) 22 [] (finT ti true Go.Proofs.Try.f99.results.toList [(.bool, false)] (.bool)) k (bodyOf Go.Proofs.Try.f99) (initS 0 [.agg [.int .i64 a_N, .int .i64 a_K]]) = f99 k a_N a_K := by kernel_rfl
theorem m99 : Meets Go.Proofs.Try.prog 99 s99 := meets_of_run tiOk env36_ok mo Go.Proofs.Try.func99 (body := bodyOf Go.Proofs.Try.f99) (by kernel_rfl) (N := 22) (by kernel_rfl) (hs := []) (by
  intro k xs r h
  unfold s99 at h
  dsimp only at h
  split at h
  · exact ⟨Nat.le_of_ble_eq_true rfl, (v99 k _ _).trans h⟩
  · cases h)
theorem env37_ok : EnvOk Go.Proofs.Try.prog (envOf env37) := envOf_cons m99 Go.Proofs.Try.func99 (by kernel_rfl) (by kernel_rfl) env36_ok

-- spec.dyMake
def h91 : Hints := [(1003, .lab [(0, .one (.v)), (1, .one (.v)), (4, .box 71 [.v, .v])])]
noncomputable def F91_1003 (k : Nat) (rec1003 : Int → Int → Int → Int → Option ((Int × Int) × Bool)) (n : Int) (k_ : Int) (t4s_0 : Int) (t4s_1 : Int) : Option ((Int × Int) × Bool) :=
  bif decide (0 < k_) then
    bif decide (Int.tmod n 2 = 0) then
      rec1003 (IntKind.wrap IntKind.i64 (Int.tdiv n 2)) (IntKind.wrap IntKind.i64 (k_ - 1)) t4s_0 t4s_1
    else
      (f99 k n k_).bind fun r0 =>
      bif !r0 then
        some (((0, 0), false))
      else
        some (((n, k_), true))
  else
    (f99 k n k_).bind fun r1 =>
    bif !r1 then
      some (((0, 0), false))
    else
      some (((n, k_), true))
noncomputable def F91 (k : Nat) (rec1003 : Int → Int → Int → Int → Option ((Int × Int) × Bool)) (n : Int) (k_ : Int) : Option ((Int × Int) × Bool) :=
  bif decide (n = 0) then
    bif decide (0 < k_) then
      rec1003 n (0) (0) (0)
    else
      rec1003 n k_ (0) (0)
  else
    rec1003 n k_ (0) (0)
noncomputable def l91 : Nat → (Int → Int → Int → Int → Option ((Int × Int) × Bool))
  | 0 => fun _ _ _ _ => none
  | k + 1 => F91_1003 k (l91 k)
noncomputable def f91 (k : Nat) (n : Int) (k_ : Int) : Option ((Int × Int) × Bool) := F91 k (l91 k) n k_
noncomputable def s91 : Spec := ⟨false, [(.pair (.int .i64) (.int .i64), true), (.bool, false)], true, .pair (.pair (.int .i64) (.int .i64)) (.bool), fun k xs => match xs with | [.int .i64 n, .int .i64 k_] => f91 k n k_ | _ => none, false, none, false⟩
noncomputable def env38 : List (FuncId × Spec) := (91, s91) :: env37
noncomputable abbrev x91 := exec ti (envOf env37) 32 h91 (finT ti true Go.Proofs.Try.f91.results.toList [(.pair (.int .i64) (.int .i64), true), (.bool, false)] (.pair (.pair (.int .i64) (.int .i64)) (.bool)))
noncomputable def k91_1003 : List It := stackAt [.r, .r, .l, .b, .lb none] (bodyOf Go.Proofs.Try.f91) []
def t91_1003 (n : Int) (k_ : Int) (t4s_0 : Int) (t4s_1 : Int) : St := [(0, Cell.val (AVal.int IntKind.i64 n)), (2, Cell.val (AVal.int IntKind.i64 k_)), (8, Cell.val (AVal.ptr 33 0)), (33, Cell.mem true 71 [AVal.int IntKind.i64 t4s_0, AVal.int IntKind.i64 t4s_1])]
theorem e91_1003 (k : Nat) (n : Int) (k_ : Int) (t4s_0 : Int) (t4s_1 : Int) : x91 (k + 1) k91_1003 (t91_1003 n k_ t4s_0 t4s_1) = F91_1003 k (fun (n : Int) (k_ : Int) (t4s_0 : Int) (t4s_1 : Int) => x91 k k91_1003 (t91_1003 n k_ t4s_0 t4s_1)) n k_ t4s_0 t4s_1 := by kernel_rfl
theorem q91 : ∀ k : Nat, (fun (n : Int) (k_ : Int) (t4s_0 : Int) (t4s_1 : Int) => x91 k k91_1003 (t91_1003 n k_ t4s_0 t4s_1)) = l91 k
  | 0 => rfl
  | k + 1 => by
    have h := q91 k
    show _ = F91_1003 k (l91 k)
    rw [← h]
    exact (funext fun n => funext fun k_ => funext fun t4s_0 => funext fun t4s_1 => e91_1003 k n k_ t4s_0 t4s_1)
theorem w91 (k : Nat) (n : Int) (k_ : Int) : runFn ti (envOf env37) 32 h91 (finT ti true Go.Proofs.Try.f91.results.toList [(.pair (.int .i64) (.int .i64), true), (.bool, false)] (.pair (.pair (.int .i64) (.int .i64)) (.bool))) k (bodyOf Go.Proofs.Try.f91) (initS 0 [.int .i64 n, .int .i64 k_]) = F91 k (fun (n : Int) (k_ : Int) (t4s_0 : Int) (t4s_1 : Int) => x91 k k91_1003 (t91_1003 n k_ t4s_0 t4s_1)) n k_ := by kernel_rfl
theorem v91 (k : Nat) (n : Int) (k_ : Int) : runFn ti (envOf env37) 32 h91 (finT ti true Go.Proofs.Try.f91.results.toList [(.pair (.int .i64) (.int .i64), true), (.bool, false)] (.pair (.pair (.int .i64) (.int .i64)) (.bool))) k (bodyOf Go.Proofs.Try.f91) (initS 0 [.int .i64 n, .int .i64 k_]) = f91 k n k_ := by
  rw [w91]
  have h := q91 k
  unfold f91
  rw [← h]
theorem m91 : Meets Go.Proofs.Try.prog 91 s91 := meets_of_run tiOk env37_ok mo Go.Proofs.Try.func91 (body := bodyOf Go.Proofs.Try.f91) (by kernel_rfl) (N := 32) (by kernel_rfl) (hs := h91) (by
  intro k xs r h
  unfold s91 at h
  dsimp only at h
  split at h
  · exact ⟨Nat.le_of_ble_eq_true rfl, (v91 k _ _).trans h⟩
  · cases h)
theorem env38_ok : EnvOk Go.Proofs.Try.prog (envOf env38) := envOf_cons m91 Go.Proofs.Try.func91 (by kernel_rfl) (by kernel_rfl) env37_ok

-- spec.bxNumber
noncomputable def f75 (k : Nat) (n : Int) (k_ : Int) : Option (Int × Int) :=
  (f91 k n k_).bind fun r0 =>
  some ((r0.fst.fst, r0.fst.snd))
noncomputable def s75 : Spec := ⟨false, [(.pair (.int .i64) (.int .i64), true)], true, .pair (.int .i64) (.int .i64), fun k xs => match xs with | [.int .i64 n, .int .i64 k_] => f75 k n k_ | _ => none, false, none, false⟩
noncomputable def env39 : List (FuncId × Spec) := (75, s75) :: env38
theorem v75 (k : Nat) (n : Int) (k_ : Int) : runFn ti (envOf env38) 14 [] (finT ti true Go.Proofs.Try.f75.results.toList [(.pair (.int .i64) (.int .i64), true)] (.pair (.int .i64) (.int .i64))) k (bodyOf Go.Proofs.Try.f75) (initS 0 [.int .i64 n, .int .i64 k_]) = f75 k n k_ := by kernel_rfl
theorem m75 : Meets Go.Proofs.Try.prog 75 s75 := meets_of_run tiOk env38_ok mo Go.Proofs.Try.func75 (body := bodyOf Go.Proofs.Try.f75) (by kernel_rfl) (N := 14) (by kernel_rfl) (hs := []) (by
  intro k xs r h
  unfold s75 at h
  dsimp only at h
  split at h
  · exact ⟨Nat.le_of_ble_eq_true rfl, (v75 k _ _).trans h⟩
  · cases h)
theorem env39_ok : EnvOk Go.Proofs.Try.prog (envOf env39) := envOf_cons m75 Go.Proofs.Try.func75 (by kernel_rfl) (by kernel_rfl) env38_ok

-- spec.bxVolume
def h53 : Hints := [(1003, .lab [(1, .box 31 [.v, .frz 3 (Ty.int IntKind.i64), .frz 3 (Ty.int IntKind.i64)]), (2, .box 71 [.v, .v]), (3, .one (.v)), (7, .one (.frz 3 (Ty.int IntKind.i64))), (8, .one (.v)), (9, .one (.v))])]
noncomputable def F53_1003 (k : Nat) (rec1003 : Int → List Int → List Int → Int → Int → Int → List Int → Int → Int → Option (Int × Int)) (bs_0 : Int) (bs_1 : List Int) (bs_2 : List Int) (t2s_0 : Int) (t2s_1 : Int) (n : Int) (t7 : List Int) (t8 : Int) (t9 : Int) : Option (Int × Int) :=
  bif decide (t9 < t8) then
    bif boundA t9 (List.length t7) then
      bif boundA t9 (List.length bs_2) then
        rec1003 bs_0 bs_1 bs_2 t2s_0 t2s_1 (IntKind.wrap IntKind.i64 (n * IntKind.wrap IntKind.i64 (List.getD bs_2 (Int.toNat t9) 0 - List.getD t7 (Int.toNat t9) 0))) t7 t8 (IntKind.wrap IntKind.i64 (t9 + 1))
      else
        none
    else
      none
  else
    (f75 k n (IntKind.wrap IntKind.i64 ((↑(List.length bs_1) : Int) * bs_0))).bind fun r0 =>
    some ((r0.fst, r0.snd))
noncomputable def F53 (k : Nat) (rec1003 : Int → List Int → List Int → Int → Int → Int → List Int → Int → Int → Option (Int × Int)) (b_K : Int) (b_Low : List (Int)) (b_High : List (Int)) : Option (Int × Int) :=
  rec1003 b_K b_Low b_High (0) (0) (1) b_Low ((↑(List.length b_Low) : Int)) (0)
noncomputable def l53 : Nat → (Int → List Int → List Int → Int → Int → Int → List Int → Int → Int → Option (Int × Int))
  | 0 => fun _ _ _ _ _ _ _ _ _ => none
  | k + 1 => F53_1003 k (l53 k)
noncomputable def f53 (k : Nat) (b_K : Int) (b_Low : List (Int)) (b_High : List (Int)) : Option (Int × Int) := F53 k (l53 k) b_K b_Low b_High
noncomputable def s53 : Spec := ⟨false, [(.pair (.int .i64) (.int .i64), true)], true, .pair (.int .i64) (.int .i64), fun k xs => match xs with | [.agg [.int .i64 b_K, .slc 3 (.int .i64) b_Low, .slc 3 (.int .i64) b_High]] => f53 k b_K b_Low b_High | _ => none, false, none, false⟩
noncomputable def env40 : List (FuncId × Spec) := (53, s53) :: env39
noncomputable abbrev x53 := exec ti (envOf env39) 32 h53 (finT ti true Go.Proofs.Try.f53.results.toList [(.pair (.int .i64) (.int .i64), true)] (.pair (.int .i64) (.int .i64)))
noncomputable def k53_1003 : List It := stackAt [.r, .r, .l, .r, .b, .lb none] (bodyOf Go.Proofs.Try.f53) []
def t53_1003 (bs_0 : Int) (bs_1 : List Int) (bs_2 : List Int) (t2s_0 : Int) (t2s_1 : Int) (n : Int) (t7 : List Int) (t8 : Int) (t9 : Int) : St := [(2, Cell.val (AVal.ptr 33 0)), (33, Cell.mem true 31 [AVal.int IntKind.i64 bs_0, AVal.slc 3 (Ty.int IntKind.i64) bs_1, AVal.slc 3 (Ty.int IntKind.i64) bs_2]), (4, Cell.val (AVal.ptr 35 0)), (35, Cell.mem true 71 [AVal.int IntKind.i64 t2s_0, AVal.int IntKind.i64 t2s_1]), (6, Cell.val (AVal.int IntKind.i64 n)), (14, Cell.val (AVal.slc 3 (Ty.int IntKind.i64) t7)), (16, Cell.val (AVal.int IntKind.i64 t8)), (18, Cell.val (AVal.int IntKind.i64 t9))]
theorem e53_1003 (k : Nat) (bs_0 : Int) (bs_1 : List Int) (bs_2 : List Int) (t2s_0 : Int) (t2s_1 : Int) (n : Int) (t7 : List Int) (t8 : Int) (t9 : Int) : x53 (k + 1) k53_1003 (t53_1003 bs_0 bs_1 bs_2 t2s_0 t2s_1 n t7 t8 t9) = F53_1003 k (fun (bs_0 : Int) (bs_1 : List Int) (bs_2 : List Int) (t2s_0 : Int) (t2s_1 : Int) (n : Int) (t7 : List Int) (t8 : Int) (t9 : Int) => x53 k k53_1003 (t53_1003 bs_0 bs_1 bs_2 t2s_0 t2s_1 n t7 t8 t9)) bs_0 bs_1 bs_2 t2s_0 t2s_1 n t7 t8 t9 := by kernel_rfl
theorem q53 : ∀ k : Nat, (fun (bs_0 : Int) (bs_1 : List Int) (bs_2 : List Int) (t2s_0 : Int) (t2s_1 : Int) (n : Int) (t7 : List Int) (t8 : Int) (t9 : Int) => x53 k k53_1003 (t53_1003 bs_0 bs_1 bs_2 t2s_0 t2s_1 n t7 t8 t9)) = l53 k
  | 0 => rfl
  | k + 1 => by
    have h := q53 k
    show _ = F53_1003 k (l53 k)
    rw [← h]
    exact (funext fun bs_0 => funext fun bs_1 => funext fun bs_2 => funext fun t2s_0 => funext fun t2s_1 => funext fun n => funext fun t7 => funext fun t8 => funext fun t9 => e53_1003 k bs_0 bs_1 bs_2 t2s_0 t2s_1 n t7 t8 t9)
theorem w53 (k : Nat) (b_K : Int) (b_Low : List (Int)) (b_High : List (Int)) : runFn ti (envOf env39) 32 h53 (finT ti true Go.Proofs.Try.f53.results.toList [(.pair (.int .i64) (.int .i64), true)] (.pair (.int .i64) (.int .i64))) k (bodyOf Go.Proofs.Try.f53) (initS 0 [.agg [.int .i64 b_K, .slc 3 (.int .i64) b_Low, .slc 3 (.int .i64) b_High]]) = F53 k (fun (bs_0 : Int) (bs_1 : List Int) (bs_2 : List Int) (t2s_0 : Int) (t2s_1 : Int) (n : Int) (t7 : List Int) (t8 : Int) (t9 : Int) => x53 k k53_1003 (t53_1003 bs_0 bs_1 bs_2 t2s_0 t2s_1 n t7 t8 t9)) b_K b_Low b_High := by kernel_rfl
theorem v53 (k : Nat) (b_K : Int) (b_Low : List (Int)) (b_High : List (Int)) : runFn ti (envOf env39) 32 h53 (finT ti true Go.Proofs.Try.f53.results.toList [(.pair (.int .i64) (.int .i64), true)] (.pair (.int .i64) (.int .i64))) k (bodyOf Go.Proofs.Try.f53) (initS 0 [.agg [.int .i64 b_K, .slc 3 (.int .i64) b_Low, .slc 3 (.int .i64) b_High]]) = f53 k b_K b_Low b_High := by
  rw [w53]
  have h := q53 k
  unfold f53
  rw [← h]
theorem m53 : Meets Go.Proofs.Try.prog 53 s53 := meets_of_run tiOk env39_ok mo Go.Proofs.Try.func53 (body := bodyOf Go.Proofs.Try.f53) (by kernel_rfl) (N := 32) (by kernel_rfl) (hs := h53) (by
  intro k xs r h
  unfold s53 at h
  dsimp only at h
  split at h
  · exact ⟨Nat.le_of_ble_eq_true rfl, (v53 k _ _ _).trans h⟩
  · cases h)
theorem env40_ok : EnvOk Go.Proofs.Try.prog (envOf env40) := envOf_cons m53 Go.Proofs.Try.func53 (by kernel_rfl) (by kernel_rfl) env39_ok

-- spec.LargestOpen
def h22 : Hints := [(1006, .lab [(4, .box 31 [.v, .v, .v]), (6, .one (.own 31 (Ty.pair (Ty.int IntKind.i64) (Ty.pair (Ty.slice 3 (Ty.int IntKind.i64)) (Ty.slice 3 (Ty.int IntKind.i64)))))), (8, .one (.v)), (21, .one (.own 57 (Ty.pair (Ty.int IntKind.i64) (Ty.int IntKind.i64)))), (22, .one (.v)), (23, .one (.v))])]
noncomputable def F22_1006 (k : Nat) (rec1006 : Int → List (Int × List Int × List Int) → Int → List (Int × Int) → Int → Int → Option ((Int × (List (Int)) × List (Int)) × Bool)) (t4s_0 : Int) (boxess : List (Int × List Int × List Int)) (best : Int) (t21s : List (Int × Int)) (t22 : Int) (t23 : Int) : Option ((Int × (List (Int)) × List (Int)) × Bool) :=
  bif decide (t23 < t22) then
    bif boundA t23 (List.length t21s) then
      bif Nat.blt (Int.toNat t23) (List.length t21s) then
        bif decide ((List.getD t21s (Int.toNat t23) (0, 0)).fst = 3) then
          bif decide (best < 0) then
            rec1006 t4s_0 boxess t23 t21s t22 (IntKind.wrap IntKind.i64 (t23 + 1))
          else
            bif boundA t23 (List.length boxess) then
              bif Nat.blt (Int.toNat t23) (List.length boxess) then
                (f53 k (List.getD boxess (Int.toNat t23) (0, [], [])).fst (List.getD boxess (Int.toNat t23) (0, [], [])).snd.fst (List.getD boxess (Int.toNat t23) (0, [], [])).snd.snd).bind fun r0 =>
                bif boundA best (List.length boxess) then
                  bif Nat.blt (Int.toNat best) (List.length boxess) then
                    (f53 k (List.getD boxess (Int.toNat best) (0, [], [])).fst (List.getD boxess (Int.toNat best) (0, [], [])).snd.fst (List.getD boxess (Int.toNat best) (0, [], [])).snd.snd).bind fun r1 =>
                    (f52 k r0.fst r0.snd r1.fst r1.snd).bind fun r2 =>
                    bif decide (0 < r2) then
                      rec1006 t4s_0 boxess t23 t21s t22 (IntKind.wrap IntKind.i64 (t23 + 1))
                    else
                      rec1006 t4s_0 boxess best t21s t22 (IntKind.wrap IntKind.i64 (t23 + 1))
                  else
                    none
                else
                  none
              else
                none
            else
              none
        else
          rec1006 t4s_0 boxess best t21s t22 (IntKind.wrap IntKind.i64 (t23 + 1))
      else
        none
    else
      none
  else
    bif decide (best < 0) then
      some (((0, [], []), false))
    else
      bif boundA best (List.length boxess) then
        bif Nat.blt (Int.toNat best) (List.length boxess) then
          some ((((List.getD boxess (Int.toNat best) (0, [], [])).fst, (List.getD boxess (Int.toNat best) (0, [], [])).snd.fst, (List.getD boxess (Int.toNat best) (0, [], [])).snd.snd), true))
        else
          none
      else
        none
noncomputable def F22 (k : Nat) (rec1006 : Int → List (Int × List Int × List Int) → Int → List (Int × Int) → Int → Int → Option ((Int × (List (Int)) × List (Int)) × Bool)) (b_K : Int) (b_Low : List (Int)) (b_High : List (Int)) (l : List (Int × Int)) : Option ((Int × (List (Int)) × List (Int)) × Bool) :=
  (f46 k b_K b_Low b_High l).bind fun r0 =>
  bif !r0.snd then
    some (((0, [], []), false))
  else
    (f48 k l).bind fun r1 =>
    rec1006 (0) (r0.fst) (-1) r1 ((↑(List.length r1) : Int)) (0)
noncomputable def l22 : Nat → (Int → List (Int × List Int × List Int) → Int → List (Int × Int) → Int → Int → Option ((Int × (List (Int)) × List (Int)) × Bool))
  | 0 => fun _ _ _ _ _ _ => none
  | k + 1 => F22_1006 k (l22 k)
noncomputable def f22 (k : Nat) (b_K : Int) (b_Low : List (Int)) (b_High : List (Int)) (l : List (Int × Int)) : Option ((Int × (List (Int)) × List (Int)) × Bool) := F22 k (l22 k) b_K b_Low b_High l
noncomputable def s22 : Spec := ⟨false, [(.pair (.int .i64) (.pair (.slice 3 (.int .i64)) (.slice 3 (.int .i64))), true), (.bool, false)], false, .pair (.pair (.int .i64) (.pair (.slice 3 (.int .i64)) (.slice 3 (.int .i64)))) (.bool), fun k xs => match xs with | [.agg [.int .i64 b_K, .slc 3 (.int .i64) b_Low, .slc 3 (.int .i64) b_High], .slc 57 (.pair (.int .i64) (.int .i64)) l] => f22 k b_K b_Low b_High l | _ => none, false, none, false⟩
noncomputable def env41 : List (FuncId × Spec) := (22, s22) :: env40
noncomputable abbrev x22 := exec ti (envOf env40) 58 h22 (finT ti false Go.Proofs.Try.f22.results.toList [(.pair (.int .i64) (.pair (.slice 3 (.int .i64)) (.slice 3 (.int .i64))), true), (.bool, false)] (.pair (.pair (.int .i64) (.pair (.slice 3 (.int .i64)) (.slice 3 (.int .i64)))) (.bool)))
noncomputable def k22_1006 : List It := stackAt [.r, .r, .r, .r, .l, .r, .b, .lb none] (bodyOf Go.Proofs.Try.f22) []
def t22_1006 (t4s_0 : Int) (boxess : List (Int × List Int × List Int)) (best : Int) (t21s : List (Int × Int)) (t22 : Int) (t23 : Int) : St := [(8, Cell.val (AVal.ptr 33 0)), (33, Cell.mem true 31 [AVal.int IntKind.i64 t4s_0, AVal.nilslc, AVal.nilslc]), (12, Cell.val (AVal.ref 35 none)), (35, Cell.row true 31 (Ty.pair (Ty.int IntKind.i64) (Ty.pair (Ty.slice 3 (Ty.int IntKind.i64)) (Ty.slice 3 (Ty.int IntKind.i64)))) boxess), (16, Cell.val (AVal.int IntKind.i64 best)), (42, Cell.val (AVal.ref 37 none)), (37, Cell.row true 57 (Ty.pair (Ty.int IntKind.i64) (Ty.int IntKind.i64)) t21s), (44, Cell.val (AVal.int IntKind.i64 t22)), (46, Cell.val (AVal.int IntKind.i64 t23))]
theorem e22_1006 (k : Nat) (t4s_0 : Int) (boxess : List (Int × List Int × List Int)) (best : Int) (t21s : List (Int × Int)) (t22 : Int) (t23 : Int) : x22 (k + 1) k22_1006 (t22_1006 t4s_0 boxess best t21s t22 t23) = F22_1006 k (fun (t4s_0 : Int) (boxess : List (Int × List Int × List Int)) (best : Int) (t21s : List (Int × Int)) (t22 : Int) (t23 : Int) => x22 k k22_1006 (t22_1006 t4s_0 boxess best t21s t22 t23)) t4s_0 boxess best t21s t22 t23 := by kernel_rfl
theorem q22 : ∀ k : Nat, (fun (t4s_0 : Int) (boxess : List (Int × List Int × List Int)) (best : Int) (t21s : List (Int × Int)) (t22 : Int) (t23 : Int) => x22 k k22_1006 (t22_1006 t4s_0 boxess best t21s t22 t23)) = l22 k
  | 0 => rfl
  | k + 1 => by
    have h := q22 k
    show _ = F22_1006 k (l22 k)
    rw [← h]
    exact (funext fun t4s_0 => funext fun boxess => funext fun best => funext fun t21s => funext fun t22 => funext fun t23 => e22_1006 k t4s_0 boxess best t21s t22 t23)
theorem w22 (k : Nat) (b_K : Int) (b_Low : List (Int)) (b_High : List (Int)) (l : List (Int × Int)) : runFn ti (envOf env40) 58 h22 (finT ti false Go.Proofs.Try.f22.results.toList [(.pair (.int .i64) (.pair (.slice 3 (.int .i64)) (.slice 3 (.int .i64))), true), (.bool, false)] (.pair (.pair (.int .i64) (.pair (.slice 3 (.int .i64)) (.slice 3 (.int .i64)))) (.bool))) k (bodyOf Go.Proofs.Try.f22) (initS 0 [.agg [.int .i64 b_K, .slc 3 (.int .i64) b_Low, .slc 3 (.int .i64) b_High], .slc 57 (.pair (.int .i64) (.int .i64)) l]) = F22 k (fun (t4s_0 : Int) (boxess : List (Int × List Int × List Int)) (best : Int) (t21s : List (Int × Int)) (t22 : Int) (t23 : Int) => x22 k k22_1006 (t22_1006 t4s_0 boxess best t21s t22 t23)) b_K b_Low b_High l := by kernel_rfl
theorem v22 (k : Nat) (b_K : Int) (b_Low : List (Int)) (b_High : List (Int)) (l : List (Int × Int)) : runFn ti (envOf env40) 58 h22 (finT ti false Go.Proofs.Try.f22.results.toList [(.pair (.int .i64) (.pair (.slice 3 (.int .i64)) (.slice 3 (.int .i64))), true), (.bool, false)] (.pair (.pair (.int .i64) (.pair (.slice 3 (.int .i64)) (.slice 3 (.int .i64)))) (.bool))) k (bodyOf Go.Proofs.Try.f22) (initS 0 [.agg [.int .i64 b_K, .slc 3 (.int .i64) b_Low, .slc 3 (.int .i64) b_High], .slc 57 (.pair (.int .i64) (.int .i64)) l]) = f22 k b_K b_Low b_High l := by
  rw [w22]
  have h := q22 k
  unfold f22
  rw [← h]
theorem m22 : Meets Go.Proofs.Try.prog 22 s22 := meets_of_run tiOk env40_ok mo Go.Proofs.Try.func22 (body := bodyOf Go.Proofs.Try.f22) (by kernel_rfl) (N := 58) (by kernel_rfl) (hs := h22) (by
  intro k xs r h
  unfold s22 at h
  dsimp only at h
  split at h
  · exact ⟨Nat.le_of_ble_eq_true rfl, (v22 k _ _ _ _).trans h⟩
  · cases h)
theorem env41_ok : EnvOk Go.Proofs.Try.prog (envOf env41) := envOf_cons m22 Go.Proofs.Try.func22 (by kernel_rfl) (by kernel_rfl) env40_ok

-- impl.inside
noncomputable def f65 (k : Nat) (n : Int) (low : Int) (high : Int) : Option (Bool) :=
  bif decide (low ≤ n) then
    some (decide (n ≤ high))
  else
    some false
noncomputable def s65 : Spec := ⟨false, [(.bool, false)], true, .bool, fun k xs => match xs with | [.int .i64 n, .int .i64 low, .int .i64 high] => f65 k n low high | _ => none, false, none, false⟩
noncomputable def env42 : List (FuncId × Spec) := (65, s65) :: env41
theorem v65 (k : Nat) (n : Int) (low : Int) (high : Int) : runFn ti (envOf env41) 15 [] (finT ti true Go.Proofs.Try.f65.results.toList [(.bool, false)] (.bool)) k (bodyOf Go.Proofs.Try.f65) (initS 0 [.int .i64 n, .int .i64 low, .int .i64 high]) = f65 k n low high := by kernel_rfl
theorem m65 : Meets Go.Proofs.Try.prog 65 s65 := meets_of_run tiOk env41_ok mo Go.Proofs.Try.func65 (body := bodyOf Go.Proofs.Try.f65) (by kernel_rfl) (N := 15) (by kernel_rfl) (hs := []) (by
  intro k xs r h
  unfold s65 at h
  dsimp only at h
  split at h
  · exact ⟨Nat.le_of_ble_eq_true rfl, (v65 k _ _ _).trans h⟩
  · cases h)
theorem env42_ok : EnvOk Go.Proofs.Try.prog (envOf env42) := envOf_cons m65 Go.Proofs.Try.func65 (by kernel_rfl) (by kernel_rfl) env41_ok

-- impl.isBox
def h39 : Hints := [(1005, .lab [(0, .one (.v)), (3, .one (.v)), (4, .one (.v)), (48, .one (.frz 3 (Ty.int IntKind.i64))), (49, .one (.v)), (50, .one (.v))])]
noncomputable def F39_1005 (k : Nat) (rec1005 : Int × List Int × List Int → Int → Bool → List Int → Int → Int → Option (Bool)) (L : Int × List Int × List Int) (t : Int) (t4 : Bool) (t48 : List Int) (t49 : Int) (t50 : Int) : Option (Bool) :=
  bif decide (t50 < t49) then
    bif boundA t50 (List.length t48) then
      (f65 k (List.getD t48 (Int.toNat t50) 0) (IntKind.wrap IntKind.i64 (0 - t)) t).bind fun r0 =>
      bif !r0 then
        some false
      else
        bif boundA t50 (List.length L.snd.snd) then
          (f65 k (List.getD L.snd.snd (Int.toNat t50) 0) (IntKind.wrap IntKind.i64 (List.getD t48 (Int.toNat t50) 0 + 1)) t).bind fun r1 =>
          bif !r1 then
            some false
          else
            bif t4 then
              rec1005 L t true t48 t49 (IntKind.wrap IntKind.i64 (t50 + 1))
            else
              bif !decide (Int.tmod (List.getD t48 (Int.toNat t50) 0) 2 = 0) then
                rec1005 L t true t48 t49 (IntKind.wrap IntKind.i64 (t50 + 1))
              else
                bif boundA t50 (List.length L.snd.snd) then
                  rec1005 L t (!decide (Int.tmod (List.getD L.snd.snd (Int.toNat t50) 0) 2 = 0)) t48 t49 (IntKind.wrap IntKind.i64 (t50 + 1))
                else
                  none
        else
          none
    else
      none
  else
    some t4
noncomputable def F39 (k : Nat) (rec1005 : Int × List Int × List Int → Int → Bool → List Int → Int → Int → Option (Bool)) (L : Int × (List (Int)) × List (Int)) : Option (Bool) :=
  (f65 k L.fst 0 8).bind fun r0 =>
  bif !r0 then
    some false
  else
    (f65 k (↑(List.length L.snd.fst) : Int) 1 3).bind fun r1 =>
    bif !r1 then
      some false
    else
      bif !decide ((↑(List.length L.snd.snd) : Int) = (↑(List.length L.snd.fst) : Int)) then
        some false
      else
        bif !decide (L.fst < 0) then
          rec1005 L (IntKind.wrap IntKind.i64 (8 * 2 ^ min (Int.toNat L.fst) (IntKind.bits IntKind.i64))) (decide (L.fst = 0)) (L.snd.fst) ((↑(List.length L.snd.fst) : Int)) (0)
        else
          none
noncomputable def l39 : Nat → (Int × List Int × List Int → Int → Bool → List Int → Int → Int → Option (Bool))
  | 0 => fun _ _ _ _ _ _ => none
  | k + 1 => F39_1005 k (l39 k)
noncomputable def f39 (k : Nat) (L : Int × (List (Int)) × List (Int)) : Option (Bool) := F39 k (l39 k) L
noncomputable def s39 : Spec := ⟨false, [(.bool, false)], true, .bool, fun k xs => match xs with | [.fptr (.pair (.int .i64) (.pair (.slice 3 (.int .i64)) (.slice 3 (.int .i64)))) L] => f39 k L | _ => none, false, none, false⟩
noncomputable def env43 : List (FuncId × Spec) := (39, s39) :: env42
noncomputable abbrev x39 := exec ti (envOf env42) 94 h39 (finT ti true Go.Proofs.Try.f39.results.toList [(.bool, false)] (.bool))
noncomputable def k39_1005 : List It := stackAt [.r, .r, .r, .l, .r, .b, .lb none] (bodyOf Go.Proofs.Try.f39) []
def t39_1005 (L : Int × List Int × List Int) (t : Int) (t4 : Bool) (t48 : List Int) (t49 : Int) (t50 : Int) : St := [(0, Cell.val (AVal.fptr (Ty.pair (Ty.int IntKind.i64) (Ty.pair (Ty.slice 3 (Ty.int IntKind.i64)) (Ty.slice 3 (Ty.int IntKind.i64)))) L)), (6, Cell.val (AVal.int IntKind.i64 t)), (8, Cell.val (AVal.bool t4)), (96, Cell.val (AVal.slc 3 (Ty.int IntKind.i64) t48)), (98, Cell.val (AVal.int IntKind.i64 t49)), (100, Cell.val (AVal.int IntKind.i64 t50))]
theorem e39_1005 (k : Nat) (L : Int × List Int × List Int) (t : Int) (t4 : Bool) (t48 : List Int) (t49 : Int) (t50 : Int) : x39 (k + 1) k39_1005 (t39_1005 L t t4 t48 t49 t50) = F39_1005 k (fun (L : Int × List Int × List Int) (t : Int) (t4 : Bool) (t48 : List Int) (t49 : Int) (t50 : Int) => x39 k k39_1005 (t39_1005 L t t4 t48 t49 t50)) L t t4 t48 t49 t50 := by kernel_rfl
theorem q39 : ∀ k : Nat, (fun (L : Int × List Int × List Int) (t : Int) (t4 : Bool) (t48 : List Int) (t49 : Int) (t50 : Int) => x39 k k39_1005 (t39_1005 L t t4 t48 t49 t50)) = l39 k
  | 0 => rfl
  | k + 1 => by
    have h := q39 k
    show _ = F39_1005 k (l39 k)
    rw [← h]
    exact (funext fun L => funext fun t => funext fun t4 => funext fun t48 => funext fun t49 => funext fun t50 => e39_1005 k L t t4 t48 t49 t50)
theorem w39 (k : Nat) (L : Int × (List (Int)) × List (Int)) : runFn ti (envOf env42) 94 h39 (finT ti true Go.Proofs.Try.f39.results.toList [(.bool, false)] (.bool)) k (bodyOf Go.Proofs.Try.f39) (initS 0 [.fptr (.pair (.int .i64) (.pair (.slice 3 (.int .i64)) (.slice 3 (.int .i64)))) L]) = F39 k (fun (L : Int × List Int × List Int) (t : Int) (t4 : Bool) (t48 : List Int) (t49 : Int) (t50 : Int) => x39 k k39_1005 (t39_1005 L t t4 t48 t49 t50)) L := by kernel_rfl
theorem v39 (k : Nat) (L : Int × (List (Int)) × List (Int)) : runFn ti (envOf env42) 94 h39 (finT ti true Go.Proofs.Try.f39.results.toList [(.bool, false)] (.bool)) k (bodyOf Go.Proofs.Try.f39) (initS 0 [.fptr (.pair (.int .i64) (.pair (.slice 3 (.int .i64)) (.slice 3 (.int .i64)))) L]) = f39 k L := by
  rw [w39]
  have h := q39 k
  unfold f39
  rw [← h]
theorem m39 : Meets Go.Proofs.Try.prog 39 s39 := meets_of_run tiOk env42_ok mo Go.Proofs.Try.func39 (body := bodyOf Go.Proofs.Try.f39) (by kernel_rfl) (N := 94) (by kernel_rfl) (hs := h39) (by
  intro k xs r h
  unfold s39 at h
  dsimp only at h
  split at h
  · exact ⟨Nat.le_of_ble_eq_true rfl, (v39 k _).trans h⟩
  · cases h)
theorem env43_ok : EnvOk Go.Proofs.Try.prog (envOf env43) := envOf_cons m39 Go.Proofs.Try.func39 (by kernel_rfl) (by kernel_rfl) env42_ok

-- impl.treeEnd
def h66 : Hints := [(1002, .lab [(0, .one (.frz 57 (Ty.pair (Ty.int IntKind.i64) (Ty.int IntKind.i64)))), (1, .one (.v)), (5, .one (.v))])]
noncomputable def F66_1002 (k : Nat) (rec1002 : List (Int × Int) → Int → Int → Option (Int)) (l : List (Int × Int)) (place : Int) (open_ : Int) : Option (Int) :=
  bif decide (0 < open_) then
    bif decide (place = (↑(List.length l) : Int)) then
      some (-1)
    else
      bif boundA place (List.length l) then
        bif decide ((List.getD l (Int.toNat place) (0, 0)).fst = 0) then
          rec1002 l (IntKind.wrap IntKind.i64 (place + 1)) (IntKind.wrap IntKind.i64 (open_ + 1))
        else
          rec1002 l (IntKind.wrap IntKind.i64 (place + 1)) (IntKind.wrap IntKind.i64 (open_ - 1))
      else
        none
  else
    some place
noncomputable def F66 (k : Nat) (rec1002 : List (Int × Int) → Int → Int → Option (Int)) (l : List (Int × Int)) (place : Int) : Option (Int) :=
  rec1002 l place (1)
noncomputable def l66 : Nat → (List (Int × Int) → Int → Int → Option (Int))
  | 0 => fun _ _ _ => none
  | k + 1 => F66_1002 k (l66 k)
noncomputable def f66 (k : Nat) (l : List (Int × Int)) (place : Int) : Option (Int) := F66 k (l66 k) l place
noncomputable def s66 : Spec := ⟨false, [(.int .i64, false)], true, .int .i64, fun k xs => match xs with | [.slc 57 (.pair (.int .i64) (.int .i64)) l, .int .i64 place] => f66 k l place | _ => none, false, none, false⟩
noncomputable def env44 : List (FuncId × Spec) := (66, s66) :: env43
noncomputable abbrev x66 := exec ti (envOf env43) 25 h66 (finT ti true Go.Proofs.Try.f66.results.toList [(.int .i64, false)] (.int .i64))
noncomputable def k66_1002 : List It := stackAt [.r, .l, .r, .b, .lb none] (bodyOf Go.Proofs.Try.f66) []
def t66_1002 (l : List (Int × Int)) (place : Int) (open_ : Int) : St := [(0, Cell.val (AVal.slc 57 (Ty.pair (Ty.int IntKind.i64) (Ty.int IntKind.i64)) l)), (2, Cell.val (AVal.int IntKind.i64 place)), (10, Cell.val (AVal.int IntKind.i64 open_))]
theorem e66_1002 (k : Nat) (l : List (Int × Int)) (place : Int) (open_ : Int) : x66 (k + 1) k66_1002 (t66_1002 l place open_) = F66_1002 k (fun (l : List (Int × Int)) (place : Int) (open_ : Int) => x66 k k66_1002 (t66_1002 l place open_)) l place open_ := by kernel_rfl
theorem q66 : ∀ k : Nat, (fun (l : List (Int × Int)) (place : Int) (open_ : Int) => x66 k k66_1002 (t66_1002 l place open_)) = l66 k
  | 0 => rfl
  | k + 1 => by
    have h := q66 k
    show _ = F66_1002 k (l66 k)
    rw [← h]
    exact (funext fun l => funext fun place => funext fun open_ => e66_1002 k l place open_)
theorem w66 (k : Nat) (l : List (Int × Int)) (place : Int) : runFn ti (envOf env43) 25 h66 (finT ti true Go.Proofs.Try.f66.results.toList [(.int .i64, false)] (.int .i64)) k (bodyOf Go.Proofs.Try.f66) (initS 0 [.slc 57 (.pair (.int .i64) (.int .i64)) l, .int .i64 place]) = F66 k (fun (l : List (Int × Int)) (place : Int) (open_ : Int) => x66 k k66_1002 (t66_1002 l place open_)) l place := by kernel_rfl
theorem v66 (k : Nat) (l : List (Int × Int)) (place : Int) : runFn ti (envOf env43) 25 h66 (finT ti true Go.Proofs.Try.f66.results.toList [(.int .i64, false)] (.int .i64)) k (bodyOf Go.Proofs.Try.f66) (initS 0 [.slc 57 (.pair (.int .i64) (.int .i64)) l, .int .i64 place]) = f66 k l place := by
  rw [w66]
  have h := q66 k
  unfold f66
  rw [← h]
theorem m66 : Meets Go.Proofs.Try.prog 66 s66 := meets_of_run tiOk env43_ok mo Go.Proofs.Try.func66 (body := bodyOf Go.Proofs.Try.f66) (by kernel_rfl) (N := 25) (by kernel_rfl) (hs := h66) (by
  intro k xs r h
  unfold s66 at h
  dsimp only at h
  split at h
  · exact ⟨Nat.le_of_ble_eq_true rfl, (v66 k _ _).trans h⟩
  · cases h)
theorem env44_ok : EnvOk Go.Proofs.Try.prog (envOf env44) := envOf_cons m66 Go.Proofs.Try.func66 (by kernel_rfl) (by kernel_rfl) env43_ok

-- impl.pathsOf
def h67 : Hints := [(1004, .lab [(3, .one (.own 9 Ty.str)), (4, .one (.own 9 Ty.str)), (9, .one (.frz 57 (Ty.pair (Ty.int IntKind.i64) (Ty.int IntKind.i64)))), (10, .one (.v)), (11, .one (.v))])]
noncomputable def F67_1004 (k : Nat) (rec1004 : List ByteArray → List ByteArray → List (Int × Int) → Int → Int → Option (List (ByteArray))) (open_s : List ByteArray) (outs : List ByteArray) (t9 : List (Int × Int)) (t10 : Int) (t11 : Int) : Option (List (ByteArray)) :=
  bif decide (t11 < t10) then
    bif boundA t11 (List.length t9) then
      bif boundA (IntKind.wrap IntKind.i64 ((↑(List.length open_s) : Int) - 1)) (List.length open_s) then
        bif Nat.blt (Int.toNat (IntKind.wrap IntKind.i64 ((↑(List.length open_s) : Int) - 1))) (List.length open_s) then
          bif boundE (IntKind.wrap IntKind.i64 ((↑(List.length open_s) : Int) - 1)) (List.length open_s) then
            bif decide ((List.length outs + List.length [List.getD open_s (Int.toNat (IntKind.wrap IntKind.i64 ((↑(List.length open_s) : Int) - 1))) ByteArray.empty]) * 16 ≤ 140737488355328) then
              bif decide ((List.getD t9 (Int.toNat t11) (0, 0)).fst = 0) then
                bif decide (ByteArray.size (List.getD open_s (Int.toNat (IntKind.wrap IntKind.i64 ((↑(List.length open_s) : Int) - 1))) ByteArray.empty) + ByteArray.size { data := #[117] } ≤ 9223372036854775807) then
                  bif decide (ByteArray.size (List.getD open_s (Int.toNat (IntKind.wrap IntKind.i64 ((↑(List.length open_s) : Int) - 1))) ByteArray.empty) + ByteArray.size { data := #[108] } ≤ 9223372036854775807) then
                    bif decide ((List.length (List.take (Int.toNat (IntKind.wrap IntKind.i64 ((↑(List.length open_s) : Int) - 1))) open_s) + List.length [List.getD open_s (Int.toNat (IntKind.wrap IntKind.i64 ((↑(List.length open_s) : Int) - 1))) ByteArray.empty ++ { data := #[117] }, List.getD open_s (Int.toNat (IntKind.wrap IntKind.i64 ((↑(List.length open_s) : Int) - 1))) ByteArray.empty ++ { data := #[108] }]) * 16 ≤ 140737488355328) then
                      rec1004 (List.take (Int.toNat (IntKind.wrap IntKind.i64 ((↑(List.length open_s) : Int) - 1))) open_s ++ [List.getD open_s (Int.toNat (IntKind.wrap IntKind.i64 ((↑(List.length open_s) : Int) - 1))) ByteArray.empty ++ { data := #[117] }, List.getD open_s (Int.toNat (IntKind.wrap IntKind.i64 ((↑(List.length open_s) : Int) - 1))) ByteArray.empty ++ { data := #[108] }]) (outs ++ [List.getD open_s (Int.toNat (IntKind.wrap IntKind.i64 ((↑(List.length open_s) : Int) - 1))) ByteArray.empty]) t9 t10 (IntKind.wrap IntKind.i64 (t11 + 1))
                    else
                      none
                  else
                    none
                else
                  none
              else
                rec1004 (List.take (Int.toNat (IntKind.wrap IntKind.i64 ((↑(List.length open_s) : Int) - 1))) open_s) (outs ++ [List.getD open_s (Int.toNat (IntKind.wrap IntKind.i64 ((↑(List.length open_s) : Int) - 1))) ByteArray.empty]) t9 t10 (IntKind.wrap IntKind.i64 (t11 + 1))
            else
              none
          else
            none
        else
          none
      else
        none
    else
      none
  else
    some outs
noncomputable def F67 (k : Nat) (rec1004 : List ByteArray → List ByteArray → List (Int × Int) → Int → Int → Option (List (ByteArray))) (l : List (Int × Int)) : Option (List (ByteArray)) :=
  rec1004 ([{ data := #[] }]) ([]) l ((↑(List.length l) : Int)) (0)
noncomputable def l67 : Nat → (List ByteArray → List ByteArray → List (Int × Int) → Int → Int → Option (List (ByteArray)))
  | 0 => fun _ _ _ _ _ => none
  | k + 1 => F67_1004 k (l67 k)
noncomputable def f67 (k : Nat) (l : List (Int × Int)) : Option (List (ByteArray)) := F67 k (l67 k) l
noncomputable def s67 : Spec := ⟨false, [(.slice 9 (.str), false)], true, .slice 9 (.str), fun k xs => match xs with | [.slc 57 (.pair (.int .i64) (.int .i64)) l] => f67 k l | _ => none, false, none, false⟩
noncomputable def env45 : List (FuncId × Spec) := (67, s67) :: env44
noncomputable abbrev x67 := exec tiC (envOf env44) 42 h67 (finT tiC true Go.Proofs.Try.f67.results.toList [(.slice 9 (.str), false)] (.slice 9 (.str)))
noncomputable def k67_1004 : List It := stackAt [.r, .r, .r, .l, .r, .b, .lb none] (bodyOf Go.Proofs.Try.f67) []
def t67_1004 (open_s : List ByteArray) (outs : List ByteArray) (t9 : List (Int × Int)) (t10 : Int) (t11 : Int) : St := [(6, Cell.val (AVal.ref 33 none)), (33, Cell.row true 9 Ty.str open_s), (8, Cell.val (AVal.ref 35 none)), (35, Cell.row true 9 Ty.str outs), (18, Cell.val (AVal.slc 57 (Ty.pair (Ty.int IntKind.i64) (Ty.int IntKind.i64)) t9)), (20, Cell.val (AVal.int IntKind.i64 t10)), (22, Cell.val (AVal.int IntKind.i64 t11))]
theorem e67_1004 (k : Nat) (open_s : List ByteArray) (outs : List ByteArray) (t9 : List (Int × Int)) (t10 : Int) (t11 : Int) : x67 (k + 1) k67_1004 (t67_1004 open_s outs t9 t10 t11) = F67_1004 k (fun (open_s : List ByteArray) (outs : List ByteArray) (t9 : List (Int × Int)) (t10 : Int) (t11 : Int) => x67 k k67_1004 (t67_1004 open_s outs t9 t10 t11)) open_s outs t9 t10 t11 := by kernel_rfl
theorem q67 : ∀ k : Nat, (fun (open_s : List ByteArray) (outs : List ByteArray) (t9 : List (Int × Int)) (t10 : Int) (t11 : Int) => x67 k k67_1004 (t67_1004 open_s outs t9 t10 t11)) = l67 k
  | 0 => rfl
  | k + 1 => by
    have h := q67 k
    show _ = F67_1004 k (l67 k)
    rw [← h]
    exact (funext fun open_s => funext fun outs => funext fun t9 => funext fun t10 => funext fun t11 => e67_1004 k open_s outs t9 t10 t11)
theorem w67 (k : Nat) (l : List (Int × Int)) : runFn tiC (envOf env44) 42 h67 (finT tiC true Go.Proofs.Try.f67.results.toList [(.slice 9 (.str), false)] (.slice 9 (.str))) k (bodyOf Go.Proofs.Try.f67) (initS 0 [.slc 57 (.pair (.int .i64) (.int .i64)) l]) = F67 k (fun (open_s : List ByteArray) (outs : List ByteArray) (t9 : List (Int × Int)) (t10 : Int) (t11 : Int) => x67 k k67_1004 (t67_1004 open_s outs t9 t10 t11)) l := by kernel_rfl
theorem v67 (k : Nat) (l : List (Int × Int)) : runFn tiC (envOf env44) 42 h67 (finT tiC true Go.Proofs.Try.f67.results.toList [(.slice 9 (.str), false)] (.slice 9 (.str))) k (bodyOf Go.Proofs.Try.f67) (initS 0 [.slc 57 (.pair (.int .i64) (.int .i64)) l]) = f67 k l := by
  rw [w67]
  have h := q67 k
  unfold f67
  rw [← h]
theorem m67 : Meets Go.Proofs.Try.prog 67 s67 := meets_of_run tiCOk env44_ok mo Go.Proofs.Try.func67 (body := bodyOf Go.Proofs.Try.f67) (by kernel_rfl) (N := 42) (by kernel_rfl) (hs := h67) (by
  intro k xs r h
  unfold s67 at h
  dsimp only at h
  split at h
  · exact ⟨Nat.le_of_ble_eq_true rfl, (v67 k _).trans h⟩
  · cases h)
theorem env45_ok : EnvOk Go.Proofs.Try.prog (envOf env45) := envOf_cons m67 Go.Proofs.Try.func67 (by kernel_rfl) (by kernel_rfl) env44_ok

-- impl.isNode
noncomputable def f68 (k : Nat) (n_Kind : Int) (n_Number : Int) (sides : Int) : Option (Bool) :=
  bif decide (n_Kind = 0) then
    (f65 k n_Number 0 (IntKind.wrap IntKind.i64 (sides - 1))).bind fun r0 =>
    some r0
  else
    bif decide (n_Kind = 1) then
      bif decide (n_Kind = 1) then
        (f65 k n_Number 0 99).bind fun r1 =>
        some r1
      else
        bif decide (n_Kind = 3) then
          some (decide (n_Number = 0))
        else
          some false
    else
      bif decide (n_Kind = 2) then
        (f65 k n_Number 0 99).bind fun r2 =>
        some r2
      else
        bif decide (n_Kind = 3) then
          some (decide (n_Number = 0))
        else
          some false
noncomputable def s68 : Spec := ⟨false, [(.bool, false)], true, .bool, fun k xs => match xs with | [.agg [.int .i64 n_Kind, .int .i64 n_Number], .int .i64 sides] => f68 k n_Kind n_Number sides | _ => none, false, none, false⟩
noncomputable def env46 : List (FuncId × Spec) := (68, s68) :: env45
theorem v68 (k : Nat) (n_Kind : Int) (n_Number : Int) (sides : Int) : runFn ti (envOf env45) 25 [] (finT ti true Go.Proofs.Try.f68.results.toList [(.bool, false)] (.bool)) k (bodyOf Go.Proofs.Try.f68) (initS 0 [.agg [.int .i64 n_Kind, .int .i64 n_Number], .int .i64 sides]) = f68 k n_Kind n_Number sides := by kernel_rfl
theorem m68 : Meets Go.Proofs.Try.prog 68 s68 := meets_of_run tiOk env45_ok mo Go.Proofs.Try.func68 (body := bodyOf Go.Proofs.Try.f68) (by kernel_rfl) (N := 25) (by kernel_rfl) (hs := []) (by
  intro k xs r h
  unfold s68 at h
  dsimp only at h
  split at h
  · exact ⟨Nat.le_of_ble_eq_true rfl, (v68 k _ _ _).trans h⟩
  · cases h)
theorem env46_ok : EnvOk Go.Proofs.Try.prog (envOf env46) := envOf_cons m68 Go.Proofs.Try.func68 (by kernel_rfl) (by kernel_rfl) env45_ok

-- impl.isTree
def h40 : Hints := [(1004, .lab [(0, .one (.frz 57 (Ty.pair (Ty.int IntKind.i64) (Ty.int IntKind.i64)))), (1, .one (.v)), (23, .one (.own 9 Ty.str)), (24, .one (.v)), (25, .one (.v))])]
noncomputable def F40_1004 (k : Nat) (rec1004 : List (Int × Int) → Int → List ByteArray → Int → Int → Option (Bool)) (l : List (Int × Int)) (sides : Int) (t23s : List ByteArray) (t24 : Int) (t25 : Int) : Option (Bool) :=
  bif decide (t25 < t24) then
    bif boundA t25 (List.length t23s) then
      bif Nat.blt (Int.toNat t25) (List.length t23s) then
        bif boundA t25 (List.length l) then
          (f68 k (List.getD l (Int.toNat t25) (0, 0)).fst (List.getD l (Int.toNat t25) (0, 0)).snd sides).bind fun r0 =>
          bif !r0 then
            some false
          else
            bif decide (20 < (↑(ByteArray.size (List.getD t23s (Int.toNat t25) ByteArray.empty)) : Int)) then
              some false
            else
              rec1004 l sides t23s t24 (IntKind.wrap IntKind.i64 (t25 + 1))
        else
          none
      else
        none
    else
      none
  else
    some true
noncomputable def F40 (k : Nat) (rec1004 : List (Int × Int) → Int → List ByteArray → Int → Int → Option (Bool)) (l : List (Int × Int)) (sides : Int) : Option (Bool) :=
  (f65 k sides 1 3).bind fun r0 =>
  bif !r0 then
    some false
  else
    bif decide (200 < (↑(List.length l) : Int)) then
      some false
    else
      (f66 k l 0).bind fun r1 =>
      bif !decide (r1 = (↑(List.length l) : Int)) then
        some false
      else
        (f67 k l).bind fun r2 =>
        rec1004 l sides r2 ((↑(List.length r2) : Int)) (0)
noncomputable def l40 : Nat → (List (Int × Int) → Int → List ByteArray → Int → Int → Option (Bool))
  | 0 => fun _ _ _ _ _ => none
  | k + 1 => F40_1004 k (l40 k)
noncomputable def f40 (k : Nat) (l : List (Int × Int)) (sides : Int) : Option (Bool) := F40 k (l40 k) l sides
noncomputable def s40 : Spec := ⟨false, [(.bool, false)], true, .bool, fun k xs => match xs with | [.slc 57 (.pair (.int .i64) (.int .i64)) l, .int .i64 sides] => f40 k l sides | _ => none, false, none, false⟩
noncomputable def env47 : List (FuncId × Spec) := (40, s40) :: env46
noncomputable abbrev x40 := exec ti (envOf env46) 43 h40 (finT ti true Go.Proofs.Try.f40.results.toList [(.bool, false)] (.bool))
noncomputable def k40_1004 : List It := stackAt [.r, .r, .l, .r, .b, .lb none] (bodyOf Go.Proofs.Try.f40) []
def t40_1004 (l : List (Int × Int)) (sides : Int) (t23s : List ByteArray) (t24 : Int) (t25 : Int) : St := [(0, Cell.val (AVal.slc 57 (Ty.pair (Ty.int IntKind.i64) (Ty.int IntKind.i64)) l)), (2, Cell.val (AVal.int IntKind.i64 sides)), (46, Cell.val (AVal.ref 33 none)), (33, Cell.row true 9 Ty.str t23s), (48, Cell.val (AVal.int IntKind.i64 t24)), (50, Cell.val (AVal.int IntKind.i64 t25))]
theorem e40_1004 (k : Nat) (l : List (Int × Int)) (sides : Int) (t23s : List ByteArray) (t24 : Int) (t25 : Int) : x40 (k + 1) k40_1004 (t40_1004 l sides t23s t24 t25) = F40_1004 k (fun (l : List (Int × Int)) (sides : Int) (t23s : List ByteArray) (t24 : Int) (t25 : Int) => x40 k k40_1004 (t40_1004 l sides t23s t24 t25)) l sides t23s t24 t25 := by kernel_rfl
theorem q40 : ∀ k : Nat, (fun (l : List (Int × Int)) (sides : Int) (t23s : List ByteArray) (t24 : Int) (t25 : Int) => x40 k k40_1004 (t40_1004 l sides t23s t24 t25)) = l40 k
  | 0 => rfl
  | k + 1 => by
    have h := q40 k
    show _ = F40_1004 k (l40 k)
    rw [← h]
    exact (funext fun l => funext fun sides => funext fun t23s => funext fun t24 => funext fun t25 => e40_1004 k l sides t23s t24 t25)
theorem w40 (k : Nat) (l : List (Int × Int)) (sides : Int) : runFn ti (envOf env46) 43 h40 (finT ti true Go.Proofs.Try.f40.results.toList [(.bool, false)] (.bool)) k (bodyOf Go.Proofs.Try.f40) (initS 0 [.slc 57 (.pair (.int .i64) (.int .i64)) l, .int .i64 sides]) = F40 k (fun (l : List (Int × Int)) (sides : Int) (t23s : List ByteArray) (t24 : Int) (t25 : Int) => x40 k k40_1004 (t40_1004 l sides t23s t24 t25)) l sides := by kernel_rfl
theorem v40 (k : Nat) (l : List (Int × Int)) (sides : Int) : runFn ti (envOf env46) 43 h40 (finT ti true Go.Proofs.Try.f40.results.toList [(.bool, false)] (.bool)) k (bodyOf Go.Proofs.Try.f40) (initS 0 [.slc 57 (.pair (.int .i64) (.int .i64)) l, .int .i64 sides]) = f40 k l sides := by
  rw [w40]
  have h := q40 k
  unfold f40
  rw [← h]
theorem m40 : Meets Go.Proofs.Try.prog 40 s40 := meets_of_run tiOk env46_ok mo Go.Proofs.Try.func40 (body := bodyOf Go.Proofs.Try.f40) (by kernel_rfl) (N := 43) (by kernel_rfl) (hs := h40) (by
  intro k xs r h
  unfold s40 at h
  dsimp only at h
  split at h
  · exact ⟨Nat.le_of_ble_eq_true rfl, (v40 k _ _).trans h⟩
  · cases h)
theorem env47_ok : EnvOk Go.Proofs.Try.prog (envOf env47) := envOf_cons m40 Go.Proofs.Try.func40 (by kernel_rfl) (by kernel_rfl) env46_ok

-- impl.scaled
def h87 : Hints := [(1003, .lab [(1, .one (.v)), (5, .one (.own 3 (Ty.int IntKind.i64))), (8, .one (.frz 3 (Ty.int IntKind.i64))), (9, .one (.v)), (10, .one (.v))])]
noncomputable def F87_1003 (k : Nat) (rec1003 : Int → List Int → List Int → Int → Int → Option (List (Int))) (k_ : Int) (outs : List Int) (t8 : List Int) (t9 : Int) (t10 : Int) : Option (List (Int)) :=
  bif decide (t10 < t9) then
    bif boundA t10 (List.length t8) then
      bif !decide (k_ < 0) then
        bif decide ((List.length outs + List.length [IntKind.wrap IntKind.i64 (List.getD t8 (Int.toNat t10) 0 * 2 ^ min (Int.toNat k_) (IntKind.bits IntKind.i64))]) * 8 ≤ 140737488355328) then
          rec1003 k_ (outs ++ [IntKind.wrap IntKind.i64 (List.getD t8 (Int.toNat t10) 0 * 2 ^ min (Int.toNat k_) (IntKind.bits IntKind.i64))]) t8 t9 (IntKind.wrap IntKind.i64 (t10 + 1))
        else
          none
      else
        none
    else
      none
  else
    some outs
noncomputable def F87 (k : Nat) (rec1003 : Int → List Int → List Int → Int → Int → Option (List (Int))) (list : List (Int)) (k_ : Int) : Option (List (Int)) :=
  rec1003 k_ ([]) list ((↑(List.length list) : Int)) (0)
noncomputable def l87 : Nat → (Int → List Int → List Int → Int → Int → Option (List (Int)))
  | 0 => fun _ _ _ _ _ => none
  | k + 1 => F87_1003 k (l87 k)
noncomputable def f87 (k : Nat) (list : List (Int)) (k_ : Int) : Option (List (Int)) := F87 k (l87 k) list k_
noncomputable def s87 : Spec := ⟨false, [(.slice 3 (.int .i64), false)], true, .slice 3 (.int .i64), fun k xs => match xs with | [.slc 3 (.int .i64) list, .int .i64 k_] => f87 k list k_ | _ => none, false, none, false⟩
noncomputable def env48 : List (FuncId × Spec) := (87, s87) :: env47
noncomputable abbrev x87 := exec ti (envOf env47) 22 h87 (finT ti true Go.Proofs.Try.f87.results.toList [(.slice 3 (.int .i64), false)] (.slice 3 (.int .i64)))
noncomputable def k87_1003 : List It := stackAt [.r, .r, .l, .r, .b, .lb none] (bodyOf Go.Proofs.Try.f87) []
def t87_1003 (k_ : Int) (outs : List Int) (t8 : List Int) (t9 : Int) (t10 : Int) : St := [(2, Cell.val (AVal.int IntKind.i64 k_)), (10, Cell.val (AVal.ref 33 none)), (33, Cell.row true 3 (Ty.int IntKind.i64) outs), (16, Cell.val (AVal.slc 3 (Ty.int IntKind.i64) t8)), (18, Cell.val (AVal.int IntKind.i64 t9)), (20, Cell.val (AVal.int IntKind.i64 t10))]
theorem e87_1003 (k : Nat) (k_ : Int) (outs : List Int) (t8 : List Int) (t9 : Int) (t10 : Int) : x87 (k + 1) k87_1003 (t87_1003 k_ outs t8 t9 t10) = F87_1003 k (fun (k_ : Int) (outs : List Int) (t8 : List Int) (t9 : Int) (t10 : Int) => x87 k k87_1003 (t87_1003 k_ outs t8 t9 t10)) k_ outs t8 t9 t10 := by kernel_rfl
theorem q87 : ∀ k : Nat, (fun (k_ : Int) (outs : List Int) (t8 : List Int) (t9 : Int) (t10 : Int) => x87 k k87_1003 (t87_1003 k_ outs t8 t9 t10)) = l87 k
  | 0 => rfl
  | k + 1 => by
    have h := q87 k
    show _ = F87_1003 k (l87 k)
    rw [← h]
    exact (funext fun k_ => funext fun outs => funext fun t8 => funext fun t9 => funext fun t10 => e87_1003 k k_ outs t8 t9 t10)
theorem w87 (k : Nat) (list : List (Int)) (k_ : Int) : runFn ti (envOf env47) 22 h87 (finT ti true Go.Proofs.Try.f87.results.toList [(.slice 3 (.int .i64), false)] (.slice 3 (.int .i64))) k (bodyOf Go.Proofs.Try.f87) (initS 0 [.slc 3 (.int .i64) list, .int .i64 k_]) = F87 k (fun (k_ : Int) (outs : List Int) (t8 : List Int) (t9 : Int) (t10 : Int) => x87 k k87_1003 (t87_1003 k_ outs t8 t9 t10)) list k_ := by kernel_rfl
theorem v87 (k : Nat) (list : List (Int)) (k_ : Int) : runFn ti (envOf env47) 22 h87 (finT ti true Go.Proofs.Try.f87.results.toList [(.slice 3 (.int .i64), false)] (.slice 3 (.int .i64))) k (bodyOf Go.Proofs.Try.f87) (initS 0 [.slc 3 (.int .i64) list, .int .i64 k_]) = f87 k list k_ := by
  rw [w87]
  have h := q87 k
  unfold f87
  rw [← h]
theorem m87 : Meets Go.Proofs.Try.prog 87 s87 := meets_of_run tiOk env47_ok mo Go.Proofs.Try.func87 (body := bodyOf Go.Proofs.Try.f87) (by kernel_rfl) (N := 22) (by kernel_rfl) (hs := h87) (by
  intro k xs r h
  unfold s87 at h
  dsimp only at h
  split at h
  · exact ⟨Nat.le_of_ble_eq_true rfl, (v87 k _ _).trans h⟩
  · cases h)
theorem env48_ok : EnvOk Go.Proofs.Try.prog (envOf env48) := envOf_cons m87 Go.Proofs.Try.func87 (by kernel_rfl) (by kernel_rfl) env47_ok

end Go.Proofs.YtchdegcfohegfaaE
