/- Functions, by the engine; printed. -/
import Derived.Test.YtchdegcfohegfaaBA2
set_option maxRecDepth 100000
set_option maxHeartbeats 4000000
set_option linter.unusedVariables false
namespace Go.Proofs.YtchdegcfohegfaaE
-- impl.pathsOf
def h67 : Hints := [(1004, .lab [(3, .one (.own 9 Ty.str)), (4, .one (.own 9 Ty.str)), (9, .one (.frz 57 (Ty.pair (Ty.int IntKind.i64) (Ty.int IntKind.i64)))), (10, .one (.v)), (11, .one (.v))])]
noncomputable def F67_1004 (k : Nat) (rec1004 : List ByteArray → List ByteArray → List (Int × Int) → Int → Int → Option (List (ByteArray))) (open_s : List ByteArray) (outs : List ByteArray) (t9 : List (Int × Int)) (t10 : Int) (t11 : Int) : Option (List (ByteArray)) :=
  bif decide (t11 < t10) then
    bif boundA t11 (List.length t9) then
      bif boundA (IntKind.wrap IntKind.i64 ((↑(List.length open_s) : Int) - 1)) (List.length open_s) then
        bif Nat.blt (Int.toNat (IntKind.wrap IntKind.i64 ((↑(List.length open_s) : Int) - 1))) (List.length open_s) then
          bif boundE (IntKind.wrap IntKind.i64 ((↑(List.length open_s) : Int) - 1)) (List.length open_s) then
            bif decide ((List.length outs + List.length [List.getD open_s (Int.toNat (IntKind.wrap IntKind.i64 ((↑(List.length open_s) : Int) - 1))) ByteArray.empty]) * 16 ≤ 140737488355328) then
              bif decide ((List.getD t9 (Int.toNat t11) (0, 0)).fst = 0) then
                bif decide (ByteArray.size (List.getD open_s (Int.toNat (IntKind.wrap IntKind.i64 ((↑(List.length open_s) : Int) - 1))) ByteArray.empty) + ByteArray.size { data := #[117] } ≤ 9223372036854775807) then
                  bif decide (ByteArray.size (List.getD open_s (Int.toNat (IntKind.wrap IntKind.i64 ((↑(List.length open_s) : Int) - 1))) ByteArray.empty) + ByteArray.size { data := #[108] } ≤ 9223372036854775807) then
                    bif decide ((List.length (List.take (Int.toNat (IntKind.wrap IntKind.i64 ((↑(List.length open_s) : Int) - 1))) open_s) + List.length [List.getD open_s (Int.toNat (IntKind.wrap IntKind.i64 ((↑(List.length open_s) : Int) - 1))) ByteArray.empty ++ { data := #[117] }, List.getD open_s (Int.toNat (IntKind.wrap IntKind.i64 ((↑(List.length open_s) : Int) - 1))) ByteArray.empty ++ { data := #[108] }]) * 16 ≤ 140737488355328) then
                      rec1004 (List.take (Int.toNat (IntKind.wrap IntKind.i64 ((↑(List.length open_s) : Int) - 1))) open_s ++ [List.getD open_s (Int.toNat (IntKind.wrap IntKind.i64 ((↑(List.length open_s) : Int) - 1))) ByteArray.empty ++ { data := #[117] }, List.getD open_s (Int.toNat (IntKind.wrap IntKind.i64 ((↑(List.length open_s) : Int) - 1))) ByteArray.empty ++ { data := #[108] }]) (outs ++ [List.getD open_s (Int.toNat (IntKind.wrap IntKind.i64 ((↑(List.length open_s) : Int) - 1))) ByteArray.empty]) t9 t10 (IntKind.wrap IntKind.i64 (t11 + 1))
                    else
                      none
                  else
                    none
                else
                  none
              else
                rec1004 (List.take (Int.toNat (IntKind.wrap IntKind.i64 ((↑(List.length open_s) : Int) - 1))) open_s) (outs ++ [List.getD open_s (Int.toNat (IntKind.wrap IntKind.i64 ((↑(List.length open_s) : Int) - 1))) ByteArray.empty]) t9 t10 (IntKind.wrap IntKind.i64 (t11 + 1))
            else
              none
          else
            none
        else
          none
      else
        none
    else
      none
  else
    some outs
noncomputable def F67 (k : Nat) (rec1004 : List ByteArray → List ByteArray → List (Int × Int) → Int → Int → Option (List (ByteArray))) (l : List (Int × Int)) : Option (List (ByteArray)) :=
  rec1004 ([{ data := #[] }]) ([]) l ((↑(List.length l) : Int)) (0)
noncomputable def l67 : Nat → (List ByteArray → List ByteArray → List (Int × Int) → Int → Int → Option (List (ByteArray)))
  | 0 => fun _ _ _ _ _ => none
  | k + 1 => F67_1004 k (l67 k)
noncomputable def f67 (k : Nat) (l : List (Int × Int)) : Option (List (ByteArray)) := F67 k (l67 k) l
noncomputable def s67 : Spec := ⟨false, [(.slice 9 (.str), false)], true, .slice 9 (.str), fun k xs => match xs with | [.slc 57 (.pair (.int .i64) (.int .i64)) l] => f67 k l | _ => none, false, none, false⟩
noncomputable def env25 : List (FuncId × Spec) := (67, s67) :: env24
noncomputable abbrev x67 := exec tiC (envOf env24) 42 h67 (finT tiC true Go.Proofs.Try.f67.results.toList [(.slice 9 (.str), false)] (.slice 9 (.str)))
noncomputable def k67_1004 : List It := stackAt [.r, .r, .r, .l, .r, .b, .lb none] (bodyOf Go.Proofs.Try.f67) []
def t67_1004 (open_s : List ByteArray) (outs : List ByteArray) (t9 : List (Int × Int)) (t10 : Int) (t11 : Int) : St := [(6, Cell.val (AVal.ref 33 none)), (33, Cell.row true 9 Ty.str open_s), (8, Cell.val (AVal.ref 35 none)), (35, Cell.row true 9 Ty.str outs), (18, Cell.val (AVal.slc 57 (Ty.pair (Ty.int IntKind.i64) (Ty.int IntKind.i64)) t9)), (20, Cell.val (AVal.int IntKind.i64 t10)), (22, Cell.val (AVal.int IntKind.i64 t11))]
theorem e67_1004 (k : Nat) (open_s : List ByteArray) (outs : List ByteArray) (t9 : List (Int × Int)) (t10 : Int) (t11 : Int) : x67 (k + 1) k67_1004 (t67_1004 open_s outs t9 t10 t11) = F67_1004 k (fun (open_s : List ByteArray) (outs : List ByteArray) (t9 : List (Int × Int)) (t10 : Int) (t11 : Int) => x67 k k67_1004 (t67_1004 open_s outs t9 t10 t11)) open_s outs t9 t10 t11 := by kernel_rfl
theorem q67 : ∀ k : Nat, (fun (open_s : List ByteArray) (outs : List ByteArray) (t9 : List (Int × Int)) (t10 : Int) (t11 : Int) => x67 k k67_1004 (t67_1004 open_s outs t9 t10 t11)) = l67 k
  | 0 => rfl
  | k + 1 => by
    have h := q67 k
    show _ = F67_1004 k (l67 k)
    rw [← h]
    exact (funext fun open_s => funext fun outs => funext fun t9 => funext fun t10 => funext fun t11 => e67_1004 k open_s outs t9 t10 t11)
theorem w67 (k : Nat) (l : List (Int × Int)) : runFn tiC (envOf env24) 42 h67 (finT tiC true Go.Proofs.Try.f67.results.toList [(.slice 9 (.str), false)] (.slice 9 (.str))) k (bodyOf Go.Proofs.Try.f67) (initS 0 [.slc 57 (.pair (.int .i64) (.int .i64)) l]) = F67 k (fun (open_s : List ByteArray) (outs : List ByteArray) (t9 : List (Int × Int)) (t10 : Int) (t11 : Int) => x67 k k67_1004 (t67_1004 open_s outs t9 t10 t11)) l := by kernel_rfl
theorem v67 (k : Nat) (l : List (Int × Int)) : runFn tiC (envOf env24) 42 h67 (finT tiC true Go.Proofs.Try.f67.results.toList [(.slice 9 (.str), false)] (.slice 9 (.str))) k (bodyOf Go.Proofs.Try.f67) (initS 0 [.slc 57 (.pair (.int .i64) (.int .i64)) l]) = f67 k l := by
  rw [w67]
  have h := q67 k
  unfold f67
  rw [← h]
theorem m67 : Meets Go.Proofs.Try.prog 67 s67 := meets_of_run tiCOk env24_ok mo Go.Proofs.Try.func67 (body := bodyOf Go.Proofs.Try.f67) (by kernel_rfl) (N := 42) (by kernel_rfl) (hs := h67) (by
  intro k xs r h
  unfold s67 at h
  dsimp only at h
  split at h
  · exact ⟨Nat.le_of_ble_eq_true rfl, (v67 k _).trans h⟩
  · cases h)
theorem env25_ok : EnvOk Go.Proofs.Try.prog (envOf env25) := envOf_cons m67 Go.Proofs.Try.func67 (by kernel_rfl) (by kernel_rfl) env24_ok

-- impl.isNode
noncomputable def f68 (k : Nat) (n_Kind : Int) (n_Number : Int) (sides : Int) : Option (Bool) :=
  bif decide (n_Kind = 0) then
    (f65 k n_Number 0 (IntKind.wrap IntKind.i64 (sides - 1))).bind fun r0 =>
    some r0
  else
    bif decide (n_Kind = 1) then
      bif decide (n_Kind = 1) then
        (f65 k n_Number 0 99).bind fun r1 =>
        some r1
      else
        bif decide (n_Kind = 3) then
          some (decide (n_Number = 0))
        else
          some false
    else
      bif decide (n_Kind = 2) then
        (f65 k n_Number 0 99).bind fun r2 =>
        some r2
      else
        bif decide (n_Kind = 3) then
          some (decide (n_Number = 0))
        else
          some false
noncomputable def s68 : Spec := ⟨false, [(.bool, false)], true, .bool, fun k xs => match xs with | [.agg [.int .i64 n_Kind, .int .i64 n_Number], .int .i64 sides] => f68 k n_Kind n_Number sides | _ => none, false, none, false⟩
noncomputable def env26 : List (FuncId × Spec) := (68, s68) :: env25
theorem v68 (k : Nat) (n_Kind : Int) (n_Number : Int) (sides : Int) : runFn ti (envOf env25) 25 [] (finT ti true Go.Proofs.Try.f68.results.toList [(.bool, false)] (.bool)) k (bodyOf Go.Proofs.Try.f68) (initS 0 [.agg [.int .i64 n_Kind, .int .i64 n_Number], .int .i64 sides]) = f68 k n_Kind n_Number sides := by kernel_rfl
theorem m68 : Meets Go.Proofs.Try.prog 68 s68 := meets_of_run tiOk env25_ok mo Go.Proofs.Try.func68 (body := bodyOf Go.Proofs.Try.f68) (by kernel_rfl) (N := 25) (by kernel_rfl) (hs := []) (by
  intro k xs r h
  unfold s68 at h
  dsimp only at h
  split at h
  · exact ⟨Nat.le_of_ble_eq_true rfl, (v68 k _ _ _).trans h⟩
  · cases h)
theorem env26_ok : EnvOk Go.Proofs.Try.prog (envOf env26) := envOf_cons m68 Go.Proofs.Try.func68 (by kernel_rfl) (by kernel_rfl) env25_ok

-- impl.isTree
def h40 : Hints := [(1004, .lab [(0, .one (.frz 57 (Ty.pair (Ty.int IntKind.i64) (Ty.int IntKind.i64)))), (1, .one (.v)), (23, .one (.own 9 Ty.str)), (24, .one (.v)), (25, .one (.v))])]
noncomputable def F40_1004 (k : Nat) (rec1004 : List (Int × Int) → Int → List ByteArray → Int → Int → Option (Bool)) (l : List (Int × Int)) (sides : Int) (t23s : List ByteArray) (t24 : Int) (t25 : Int) : Option (Bool) :=
  bif decide (t25 < t24) then
    bif boundA t25 (List.length t23s) then
      bif Nat.blt (Int.toNat t25) (List.length t23s) then
        bif boundA t25 (List.length l) then
          (f68 k (List.getD l (Int.toNat t25) (0, 0)).fst (List.getD l (Int.toNat t25) (0, 0)).snd sides).bind fun r0 =>
          bif !r0 then
            some false
          else
            bif decide (20 < (↑(ByteArray.size (List.getD t23s (Int.toNat t25) ByteArray.empty)) : Int)) then
              some false
            else
              rec1004 l sides t23s t24 (IntKind.wrap IntKind.i64 (t25 + 1))
        else
          none
      else
        none
    else
      none
  else
    some true
noncomputable def F40 (k : Nat) (rec1004 : List (Int × Int) → Int → List ByteArray → Int → Int → Option (Bool)) (l : List (Int × Int)) (sides : Int) : Option (Bool) :=
  (f65 k sides 1 3).bind fun r0 =>
  bif !r0 then
    some false
  else
    bif decide (200 < (↑(List.length l) : Int)) then
      some false
    else
      (f66 k l 0).bind fun r1 =>
      bif !decide (r1 = (↑(List.length l) : Int)) then
        some false
      else
        (f67 k l).bind fun r2 =>
        rec1004 l sides r2 ((↑(List.length r2) : Int)) (0)
noncomputable def l40 : Nat → (List (Int × Int) → Int → List ByteArray → Int → Int → Option (Bool))
  | 0 => fun _ _ _ _ _ => none
  | k + 1 => F40_1004 k (l40 k)
noncomputable def f40 (k : Nat) (l : List (Int × Int)) (sides : Int) : Option (Bool) := F40 k (l40 k) l sides
noncomputable def s40 : Spec := ⟨false, [(.bool, false)], true, .bool, fun k xs => match xs with | [.slc 57 (.pair (.int .i64) (.int .i64)) l, .int .i64 sides] => f40 k l sides | _ => none, false, none, false⟩
noncomputable def env27 : List (FuncId × Spec) := (40, s40) :: env26
noncomputable abbrev x40 := exec ti (envOf env26) 43 h40 (finT ti true Go.Proofs.Try.f40.results.toList [(.bool, false)] (.bool))
noncomputable def k40_1004 : List It := stackAt [.r, .r, .l, .r, .b, .lb none] (bodyOf Go.Proofs.Try.f40) []
def t40_1004 (l : List (Int × Int)) (sides : Int) (t23s : List ByteArray) (t24 : Int) (t25 : Int) : St := [(0, Cell.val (AVal.slc 57 (Ty.pair (Ty.int IntKind.i64) (Ty.int IntKind.i64)) l)), (2, Cell.val (AVal.int IntKind.i64 sides)), (46, Cell.val (AVal.ref 33 none)), (33, Cell.row true 9 Ty.str t23s), (48, Cell.val (AVal.int IntKind.i64 t24)), (50, Cell.val (AVal.int IntKind.i64 t25))]
theorem e40_1004 (k : Nat) (l : List (Int × Int)) (sides : Int) (t23s : List ByteArray) (t24 : Int) (t25 : Int) : x40 (k + 1) k40_1004 (t40_1004 l sides t23s t24 t25) = F40_1004 k (fun (l : List (Int × Int)) (sides : Int) (t23s : List ByteArray) (t24 : Int) (t25 : Int) => x40 k k40_1004 (t40_1004 l sides t23s t24 t25)) l sides t23s t24 t25 := by kernel_rfl
theorem q40 : ∀ k : Nat, (fun (l : List (Int × Int)) (sides : Int) (t23s : List ByteArray) (t24 : Int) (t25 : Int) => x40 k k40_1004 (t40_1004 l sides t23s t24 t25)) = l40 k
  | 0 => rfl
  | k + 1 => by
    have h := q40 k
    show _ = F40_1004 k (l40 k)
    rw [← h]
    exact (funext fun l => funext fun sides => funext fun t23s => funext fun t24 => funext fun t25 => e40_1004 k l sides t23s t24 t25)
theorem w40 (k : Nat) (l : List (Int × Int)) (sides : Int) : runFn ti (envOf env26) 43 h40 (finT ti true Go.Proofs.Try.f40.results.toList [(.bool, false)] (.bool)) k (bodyOf Go.Proofs.Try.f40) (initS 0 [.slc 57 (.pair (.int .i64) (.int .i64)) l, .int .i64 sides]) = F40 k (fun (l : List (Int × Int)) (sides : Int) (t23s : List ByteArray) (t24 : Int) (t25 : Int) => x40 k k40_1004 (t40_1004 l sides t23s t24 t25)) l sides := by kernel_rfl
theorem v40 (k : Nat) (l : List (Int × Int)) (sides : Int) : runFn ti (envOf env26) 43 h40 (finT ti true Go.Proofs.Try.f40.results.toList [(.bool, false)] (.bool)) k (bodyOf Go.Proofs.Try.f40) (initS 0 [.slc 57 (.pair (.int .i64) (.int .i64)) l, .int .i64 sides]) = f40 k l sides := by
  rw [w40]
  have h := q40 k
  unfold f40
  rw [← h]
theorem m40 : Meets Go.Proofs.Try.prog 40 s40 := meets_of_run tiOk env26_ok mo Go.Proofs.Try.func40 (body := bodyOf Go.Proofs.Try.f40) (by kernel_rfl) (N := 43) (by kernel_rfl) (hs := h40) (by
  intro k xs r h
  unfold s40 at h
  dsimp only at h
  split at h
  · exact ⟨Nat.le_of_ble_eq_true rfl, (v40 k _ _).trans h⟩
  · cases h)
theorem env27_ok : EnvOk Go.Proofs.Try.prog (envOf env27) := envOf_cons m40 Go.Proofs.Try.func40 (by kernel_rfl) (by kernel_rfl) env26_ok

-- impl.scaled
def h87 : Hints := [(1003, .lab [(1, .one (.v)), (5, .one (.own 3 (Ty.int IntKind.i64))), (8, .one (.frz 3 (Ty.int IntKind.i64))), (9, .one (.v)), (10, .one (.v))])]
noncomputable def F87_1003 (k : Nat) (rec1003 : Int → List Int → List Int → Int → Int → Option (List (Int))) (k_ : Int) (outs : List Int) (t8 : List Int) (t9 : Int) (t10 : Int) : Option (List (Int)) :=
  bif decide (t10 < t9) then
    bif boundA t10 (List.length t8) then
      bif !decide (k_ < 0) then
        bif decide ((List.length outs + List.length [IntKind.wrap IntKind.i64 (List.getD t8 (Int.toNat t10) 0 * 2 ^ min (Int.toNat k_) (IntKind.bits IntKind.i64))]) * 8 ≤ 140737488355328) then
          rec1003 k_ (outs ++ [IntKind.wrap IntKind.i64 (List.getD t8 (Int.toNat t10) 0 * 2 ^ min (Int.toNat k_) (IntKind.bits IntKind.i64))]) t8 t9 (IntKind.wrap IntKind.i64 (t10 + 1))
        else
          none
      else
        none
    else
      none
  else
    some outs
noncomputable def F87 (k : Nat) (rec1003 : Int → List Int → List Int → Int → Int → Option (List (Int))) (list : List (Int)) (k_ : Int) : Option (List (Int)) :=
  rec1003 k_ ([]) list ((↑(List.length list) : Int)) (0)
noncomputable def l87 : Nat → (Int → List Int → List Int → Int → Int → Option (List (Int)))
  | 0 => fun _ _ _ _ _ => none
  | k + 1 => F87_1003 k (l87 k)
noncomputable def f87 (k : Nat) (list : List (Int)) (k_ : Int) : Option (List (Int)) := F87 k (l87 k) list k_
noncomputable def s87 : Spec := ⟨false, [(.slice 3 (.int .i64), false)], true, .slice 3 (.int .i64), fun k xs => match xs with | [.slc 3 (.int .i64) list, .int .i64 k_] => f87 k list k_ | _ => none, false, none, false⟩
noncomputable def env28 : List (FuncId × Spec) := (87, s87) :: env27
noncomputable abbrev x87 := exec ti (envOf env27) 22 h87 (finT ti true Go.Proofs.Try.f87.results.toList [(.slice 3 (.int .i64), false)] (.slice 3 (.int .i64)))
noncomputable def k87_1003 : List It := stackAt [.r, .r, .l, .r, .b, .lb none] (bodyOf Go.Proofs.Try.f87) []
def t87_1003 (k_ : Int) (outs : List Int) (t8 : List Int) (t9 : Int) (t10 : Int) : St := [(2, Cell.val (AVal.int IntKind.i64 k_)), (10, Cell.val (AVal.ref 33 none)), (33, Cell.row true 3 (Ty.int IntKind.i64) outs), (16, Cell.val (AVal.slc 3 (Ty.int IntKind.i64) t8)), (18, Cell.val (AVal.int IntKind.i64 t9)), (20, Cell.val (AVal.int IntKind.i64 t10))]
theorem e87_1003 (k : Nat) (k_ : Int) (outs : List Int) (t8 : List Int) (t9 : Int) (t10 : Int) : x87 (k + 1) k87_1003 (t87_1003 k_ outs t8 t9 t10) = F87_1003 k (fun (k_ : Int) (outs : List Int) (t8 : List Int) (t9 : Int) (t10 : Int) => x87 k k87_1003 (t87_1003 k_ outs t8 t9 t10)) k_ outs t8 t9 t10 := by kernel_rfl
theorem q87 : ∀ k : Nat, (fun (k_ : Int) (outs : List Int) (t8 : List Int) (t9 : Int) (t10 : Int) => x87 k k87_1003 (t87_1003 k_ outs t8 t9 t10)) = l87 k
  | 0 => rfl
  | k + 1 => by
    have h := q87 k
    show _ = F87_1003 k (l87 k)
    rw [← h]
    exact (funext fun k_ => funext fun outs => funext fun t8 => funext fun t9 => funext fun t10 => e87_1003 k k_ outs t8 t9 t10)
theorem w87 (k : Nat) (list : List (Int)) (k_ : Int) : runFn ti (envOf env27) 22 h87 (finT ti true Go.Proofs.Try.f87.results.toList [(.slice 3 (.int .i64), false)] (.slice 3 (.int .i64))) k (bodyOf Go.Proofs.Try.f87) (initS 0 [.slc 3 (.int .i64) list, .int .i64 k_]) = F87 k (fun (k_ : Int) (outs : List Int) (t8 : List Int) (t9 : Int) (t10 : Int) => x87 k k87_1003 (t87_1003 k_ outs t8 t9 t10)) list k_ := by kernel_rfl
theorem v87 (k : Nat) (list : List (Int)) (k_ : Int) : runFn ti (envOf env27) 22 h87 (finT ti true Go.Proofs.Try.f87.results.toList [(.slice 3 (.int .i64), false)] (.slice 3 (.int .i64))) k (bodyOf Go.Proofs.Try.f87) (initS 0 [.slc 3 (.int .i64) list, .int .i64 k_]) = f87 k list k_ := by
  rw [w87]
  have h := q87 k
  unfold f87
  rw [← h]
theorem m87 : Meets Go.Proofs.Try.prog 87 s87 := meets_of_run tiOk env27_ok mo Go.Proofs.Try.func87 (body := bodyOf Go.Proofs.Try.f87) (by kernel_rfl) (N := 22) (by kernel_rfl) (hs := h87) (by
  intro k xs r h
  unfold s87 at h
  dsimp only at h
  split at h
  · exact ⟨Nat.le_of_ble_eq_true rfl, (v87 k _ _).trans h⟩
  · cases h)
theorem env28_ok : EnvOk Go.Proofs.Try.prog (envOf env28) := envOf_cons m87 Go.Proofs.Try.func87 (by kernel_rfl) (by kernel_rfl) env27_ok

-- slices.Clone[[]int,int]
noncomputable def f88 (k : Nat) (s : List (Int)) : Option (List (Int)) :=
  bif decide ((0 + List.length s) * 8 ≤ 140737488355328) then
    some s
  else
    none
noncomputable def s88 : Spec := ⟨false, [(.slice 3 (.int .i64), false)], true, .slice 3 (.int .i64), fun k xs => match xs with | [.slc 3 (.int .i64) s] => f88 k s | _ => none, false, none, false⟩
noncomputable def env29 : List (FuncId × Spec) := (88, s88) :: env28
theorem m88 : Meets Go.Proofs.Try.prog 88 s88 := meets_clone (N := 8) tiOk env28_ok mo Go.Proofs.Try.func88 rfl rfl rfl rfl rfl rfl rfl rfl rfl rfl Go.Proofs.Try.underlying22 rfl (Nat.le_of_ble_eq_true rfl) (by
  intro k xs r h
  unfold s88 at h
  dsimp only at h
  split at h
  · rename_i s
    refine ⟨3, (.int .i64), s, rfl, fun hx => ?_, ?_⟩
    · subst hx
      refine Eq.trans ?_ h
      kernel_rfl
    · refine Eq.trans ?_ h
      kernel_rfl
  · cases h)
theorem env29_ok : EnvOk Go.Proofs.Try.prog (envOf env29) := envOf_cons m88 Go.Proofs.Try.func88 (by kernel_rfl) (by kernel_rfl) env28_ok

-- impl.boxOf$1
noncomputable def f98 (k : Nat) (n : Int) : Option (Bool) :=
  some (!decide (Int.tmod n 2 = 0))
noncomputable def s98 : Spec := ⟨false, [(.bool, false)], true, .bool, fun k xs => match xs with | [.int .i64 n] => f98 k n | _ => none, false, none, false⟩
noncomputable def env30 : List (FuncId × Spec) := (98, s98) :: env29
theorem v98 (k : Nat) (n : Int) : runFn ti (envOf env29) 6 [] (finT ti true Go.Proofs.Try.f98.results.toList [(.bool, false)] (.bool)) k (bodyOf Go.Proofs.Try.f98) (initS 0 [.int .i64 n]) = f98 k n := by kernel_rfl
theorem m98 : Meets Go.Proofs.Try.prog 98 s98 := meets_of_run tiOk env29_ok mo Go.Proofs.Try.func98 (body := bodyOf Go.Proofs.Try.f98) (by kernel_rfl) (N := 6) (by kernel_rfl) (hs := []) (by
  intro k xs r h
  unfold s98 at h
  dsimp only at h
  split at h
  · exact ⟨Nat.le_of_ble_eq_true rfl, (v98 k _).trans h⟩
  · cases h)
theorem env30_ok : EnvOk Go.Proofs.Try.prog (envOf env30) := envOf_cons m98 Go.Proofs.Try.func98 (by kernel_rfl) (by kernel_rfl) env29_ok

-- slices.IndexFunc[[]int,int]
def h102_98 : Hints := [(1002, .lab [(0, .one (.frz 3 (Ty.int IntKind.i64))), (1, .one (.v)), (7, .one (.v)), (8, .one (.v))])]
noncomputable def F102_98_1002 (k : Nat) (rec1002 : List Int → Int → Int → Option (Int)) (s : List Int) (t7 : Int) (t8 : Int) : Option (Int) :=
  bif decide (t8 < t7) then
    bif boundA t8 (List.length s) then
      bif !decide (Int.tmod (List.getD s (Int.toNat t8) 0) 2 = 0) then
        some t8
      else
        rec1002 s t7 (IntKind.wrap IntKind.i64 (t8 + 1))
    else
      none
  else
    some (-1)
noncomputable def F102_98 (k : Nat) (rec1002 : List Int → Int → Int → Option (Int)) (s : List (Int)) : Option (Int) :=
  rec1002 s ((↑(List.length s) : Int)) (0)
noncomputable def l102_98 : Nat → (List Int → Int → Int → Option (Int))
  | 0 => fun _ _ _ => none
  | k + 1 => F102_98_1002 k (l102_98 k)
noncomputable def f102_98 (k : Nat) (s : List (Int)) : Option (Int) := F102_98 k (l102_98 k) s
noncomputable def s102 : Spec := ⟨false, [(.int .i64, false)], true, .int .i64, fun k xs => match xs with | [.slc 3 (.int .i64) s, .fn 98] => f102_98 k s | _ => none, false, none, false⟩
noncomputable def env31 : List (FuncId × Spec) := (102, s102) :: env30
noncomputable abbrev x102_98 := exec ti (envOf env30) 19 h102_98 (finT ti true Go.Proofs.Try.f102.results.toList [(.int .i64, false)] (.int .i64))
noncomputable def k102_98_1002 : List It := stackAt [.r, .l, .r, .b, .lb none] (bodyOf Go.Proofs.Try.f102) []
def t102_98_1002 (s : List Int) (t7 : Int) (t8 : Int) : St := [(0, Cell.val (AVal.slc 3 (Ty.int IntKind.i64) s)), (2, Cell.val (AVal.fn 98)), (14, Cell.val (AVal.int IntKind.i64 t7)), (16, Cell.val (AVal.int IntKind.i64 t8))]
theorem e102_98_1002 (k : Nat) (s : List Int) (t7 : Int) (t8 : Int) : x102_98 (k + 1) k102_98_1002 (t102_98_1002 s t7 t8) = F102_98_1002 k (fun (s : List Int) (t7 : Int) (t8 : Int) => x102_98 k k102_98_1002 (t102_98_1002 s t7 t8)) s t7 t8 := by kernel_rfl
theorem q102_98 : ∀ k : Nat, (fun (s : List Int) (t7 : Int) (t8 : Int) => x102_98 k k102_98_1002 (t102_98_1002 s t7 t8)) = l102_98 k
  | 0 => rfl
  | k + 1 => by
    have h := q102_98 k
    show _ = F102_98_1002 k (l102_98 k)
    rw [← h]
    exact (funext fun s => funext fun t7 => funext fun t8 => e102_98_1002 k s t7 t8)
theorem w102_98 (k : Nat) (s : List (Int)) : runFn ti (envOf env30) 19 h102_98 (finT ti true Go.Proofs.Try.f102.results.toList [(.int .i64, false)] (.int .i64)) k (bodyOf Go.Proofs.Try.f102) (initS 0 [.slc 3 (.int .i64) s, .fn 98]) = F102_98 k (fun (s : List Int) (t7 : Int) (t8 : Int) => x102_98 k k102_98_1002 (t102_98_1002 s t7 t8)) s := by kernel_rfl
theorem v102_98 (k : Nat) (s : List (Int)) : runFn ti (envOf env30) 19 h102_98 (finT ti true Go.Proofs.Try.f102.results.toList [(.int .i64, false)] (.int .i64)) k (bodyOf Go.Proofs.Try.f102) (initS 0 [.slc 3 (.int .i64) s, .fn 98]) = f102_98 k s := by
  rw [w102_98]
  have h := q102_98 k
  unfold f102_98
  rw [← h]
theorem m102 : Meets Go.Proofs.Try.prog 102 s102 := meets_of_run tiOk env30_ok mo Go.Proofs.Try.func102 (body := bodyOf Go.Proofs.Try.f102) (by kernel_rfl) (N := 19) (by kernel_rfl) (hs := h102_98) (by
  intro k xs r h
  unfold s102 at h
  dsimp only at h
  split at h
  · exact ⟨Nat.le_of_ble_eq_true rfl, (v102_98 k _).trans h⟩
  · cases h)
theorem env31_ok : EnvOk Go.Proofs.Try.prog (envOf env31) := envOf_cons m102 Go.Proofs.Try.func102 (by kernel_rfl) (by kernel_rfl) env30_ok

-- slices.ContainsFunc[[]int,int]
noncomputable def f96_98 (k : Nat) (s : List (Int)) : Option (Bool) :=
  (f102_98 k s).bind fun r0 =>
  some (decide (0 ≤ r0))
noncomputable def s96 : Spec := ⟨false, [(.bool, false)], true, .bool, fun k xs => match xs with | [.slc 3 (.int .i64) s, .fn 98] => f96_98 k s | _ => none, false, none, false⟩
noncomputable def env32 : List (FuncId × Spec) := (96, s96) :: env31
theorem v96_98 (k : Nat) (s : List (Int)) : runFn ti (envOf env31) 9 [] (finT ti true Go.Proofs.Try.f96.results.toList [(.bool, false)] (.bool)) k (bodyOf Go.Proofs.Try.f96) (initS 0 [.slc 3 (.int .i64) s, .fn 98]) = f96_98 k s := by kernel_rfl
theorem m96 : Meets Go.Proofs.Try.prog 96 s96 := meets_of_run tiOk env31_ok mo Go.Proofs.Try.func96 (body := bodyOf Go.Proofs.Try.f96) (by kernel_rfl) (N := 9) (by kernel_rfl) (hs := []) (by
  intro k xs r h
  unfold s96 at h
  dsimp only at h
  split at h
  · exact ⟨Nat.le_of_ble_eq_true rfl, (v96_98 k _).trans h⟩
  · cases h)
theorem env32_ok : EnvOk Go.Proofs.Try.prog (envOf env32) := envOf_cons m96 Go.Proofs.Try.func96 (by kernel_rfl) (by kernel_rfl) env31_ok

-- slices.Grow[[]int,int]
noncomputable def f103 (k : Nat) (n : Int) : Option (List (Int)) :=
  bif decide (n < 0) then
    none
  else
    bif decide (0 < IntKind.wrap IntKind.i64 (n - IntKind.wrap IntKind.i64 (0 - (↑0 : Int)))) then
      bif decide (0 < IntKind.wrap IntKind.i64 (n - IntKind.wrap IntKind.i64 (0 - (↑0 : Int)))) then
        bif decide (Int.toNat (IntKind.wrap IntKind.i64 (n - IntKind.wrap IntKind.i64 (0 - (↑0 : Int)))) * 8 ≤ 140737488355328) then
          some (List.take (Int.toNat (↑0 : Int)) (List.replicate (Int.toNat (IntKind.wrap IntKind.i64 (n - IntKind.wrap IntKind.i64 (0 - (↑0 : Int))))) (dflt (Ty.int IntKind.i64))))
        else
          none
      else
        none
    else
      some ([])
noncomputable def s103 : Spec := ⟨false, [(.slice 3 (.int .i64), false)], true, .slice 3 (.int .i64), fun k xs => match xs with | [.nilslc, .int .i64 n] => f103 k n | _ => none, true, none, false⟩
noncomputable def env33 : List (FuncId × Spec) := (103, s103) :: env32
theorem v103 (k : Nat) (n : Int) : runFn tiC (envOf env32) 27 [] (finT tiC true Go.Proofs.Try.f103.results.toList [(.slice 3 (.int .i64), false)] (.slice 3 (.int .i64))) k (bodyOf Go.Proofs.Try.f103) (initS 0 [.nilslc, .int .i64 n]) = f103 k n := by kernel_rfl
theorem m103 : Meets Go.Proofs.Try.prog 103 s103 := meets_of_run tiCOk env32_ok mo Go.Proofs.Try.func103 (body := bodyOf Go.Proofs.Try.f103) (by kernel_rfl) (N := 27) (by kernel_rfl) (hs := []) (by
  intro k xs r h
  unfold s103 at h
  dsimp only at h
  split at h
  · exact ⟨Nat.le_of_ble_eq_true rfl, (v103 k _).trans h⟩
  · cases h)
theorem env33_ok : EnvOk Go.Proofs.Try.prog (envOf env33) := envOf_cons m103 Go.Proofs.Try.func103 (by kernel_rfl) (by kernel_rfl) env32_ok

-- slices.Concat[[]int,int]
def h97 : Hints := [(1003, .lab [(0, .one (.frz 22 (Ty.slice 3 (Ty.int IntKind.i64)))), (3, .one (.v)), (9, .one (.frz 22 (Ty.slice 3 (Ty.int IntKind.i64)))), (10, .one (.v)), (11, .one (.v))]), (1011, .lab [(6, .one (.own 3 (Ty.int IntKind.i64))), (25, .one (.frz 22 (Ty.slice 3 (Ty.int IntKind.i64)))), (26, .one (.v)), (27, .one (.v))])]
noncomputable def F97_1003 (k : Nat) (rec1003 : List (List Int) → Int → List (List Int) → Int → Int → Option (List (Int))) (rec1011 : List Int → List (List Int) → Int → Int → Option (List (Int))) (slices : List (List Int)) (size : Int) (t9 : List (List Int)) (t10 : Int) (t11 : Int) : Option (List (Int)) :=
  bif decide (t11 < t10) then
    bif boundA t11 (List.length t9) then
      bif decide (IntKind.wrap IntKind.i64 (size + (↑(List.length (List.getD t9 (Int.toNat t11) [])) : Int)) < 0) then
        none
      else
        rec1003 slices (IntKind.wrap IntKind.i64 (size + (↑(List.length (List.getD t9 (Int.toNat t11) [])) : Int))) t9 t10 (IntKind.wrap IntKind.i64 (t11 + 1))
    else
      none
  else
    (f103 k size).bind fun r0 =>
    rec1011 r0 slices ((↑(List.length slices) : Int)) (0)
noncomputable def F97_1011 (k : Nat) (rec1003 : List (List Int) → Int → List (List Int) → Int → Int → Option (List (Int))) (rec1011 : List Int → List (List Int) → Int → Int → Option (List (Int))) (newslices : List Int) (t25 : List (List Int)) (t26 : Int) (t27 : Int) : Option (List (Int)) :=
  bif decide (t27 < t26) then
    bif boundA t27 (List.length t25) then
      bif decide ((List.length newslices + List.length (List.getD t25 (Int.toNat t27) [])) * 8 ≤ 140737488355328) then
        rec1011 (newslices ++ List.getD t25 (Int.toNat t27) []) t25 t26 (IntKind.wrap IntKind.i64 (t27 + 1))
      else
        none
    else
      none
  else
    some newslices
noncomputable def F97 (k : Nat) (rec1003 : List (List Int) → Int → List (List Int) → Int → Int → Option (List (Int))) (rec1011 : List Int → List (List Int) → Int → Int → Option (List (Int))) (slices : List (List (Int))) : Option (List (Int)) :=
  rec1003 slices (0) slices ((↑(List.length slices) : Int)) (0)
noncomputable def l97 : Nat → (List (List Int) → Int → List (List Int) → Int → Int → Option (List (Int))) × (List Int → List (List Int) → Int → Int → Option (List (Int)))
  | 0 => (fun _ _ _ _ _ => none, fun _ _ _ _ => none)
  | k + 1 => (F97_1003 k ((l97 k).1) ((l97 k).2), F97_1011 k ((l97 k).1) ((l97 k).2))
noncomputable def f97 (k : Nat) (slices : List (List (Int))) : Option (List (Int)) := F97 k ((l97 k).1) ((l97 k).2) slices
noncomputable def s97 : Spec := ⟨false, [(.slice 3 (.int .i64), false)], true, .slice 3 (.int .i64), fun k xs => match xs with | [.slc 22 (.slice 3 (.int .i64)) slices] => f97 k slices | _ => none, false, none, false⟩
noncomputable def env34 : List (FuncId × Spec) := (97, s97) :: env33
noncomputable abbrev x97 := exec ti (envOf env33) 36 h97 (finT ti true Go.Proofs.Try.f97.results.toList [(.slice 3 (.int .i64), false)] (.slice 3 (.int .i64)))
noncomputable def k97_1003 : List It := stackAt [.r, .r, .l, .r, .b, .lb none] (bodyOf Go.Proofs.Try.f97) []
def t97_1003 (slices : List (List Int)) (size : Int) (t9 : List (List Int)) (t10 : Int) (t11 : Int) : St := [(0, Cell.val (AVal.slc 22 (Ty.slice 3 (Ty.int IntKind.i64)) slices)), (6, Cell.val (AVal.int IntKind.i64 size)), (18, Cell.val (AVal.slc 22 (Ty.slice 3 (Ty.int IntKind.i64)) t9)), (20, Cell.val (AVal.int IntKind.i64 t10)), (22, Cell.val (AVal.int IntKind.i64 t11))]
noncomputable def k97_1011 : List It := stackAt [.r, .r, .r, .r, .l, .r, .b, .lb none] (bodyOf Go.Proofs.Try.f97) []
def t97_1011 (newslices : List Int) (t25 : List (List Int)) (t26 : Int) (t27 : Int) : St := [(12, Cell.val (AVal.ref 33 none)), (33, Cell.row true 3 (Ty.int IntKind.i64) newslices), (50, Cell.val (AVal.slc 22 (Ty.slice 3 (Ty.int IntKind.i64)) t25)), (52, Cell.val (AVal.int IntKind.i64 t26)), (54, Cell.val (AVal.int IntKind.i64 t27))]
theorem e97_1003 (k : Nat) (slices : List (List Int)) (size : Int) (t9 : List (List Int)) (t10 : Int) (t11 : Int) : x97 (k + 1) k97_1003 (t97_1003 slices size t9 t10 t11) = F97_1003 k (fun (slices : List (List Int)) (size : Int) (t9 : List (List Int)) (t10 : Int) (t11 : Int) => x97 k k97_1003 (t97_1003 slices size t9 t10 t11)) (fun (newslices : List Int) (t25 : List (List Int)) (t26 : Int) (t27 : Int) => x97 k k97_1011 (t97_1011 newslices t25 t26 t27)) slices size t9 t10 t11 := by kernel_rfl
theorem e97_1011 (k : Nat) (newslices : List Int) (t25 : List (List Int)) (t26 : Int) (t27 : Int) : x97 (k + 1) k97_1011 (t97_1011 newslices t25 t26 t27) = F97_1011 k (fun (slices : List (List Int)) (size : Int) (t9 : List (List Int)) (t10 : Int) (t11 : Int) => x97 k k97_1003 (t97_1003 slices size t9 t10 t11)) (fun (newslices : List Int) (t25 : List (List Int)) (t26 : Int) (t27 : Int) => x97 k k97_1011 (t97_1011 newslices t25 t26 t27)) newslices t25 t26 t27 := by kernel_rfl
theorem q97 : ∀ k : Nat, ((fun (slices : List (List Int)) (size : Int) (t9 : List (List Int)) (t10 : Int) (t11 : Int) => x97 k k97_1003 (t97_1003 slices size t9 t10 t11)), (fun (newslices : List Int) (t25 : List (List Int)) (t26 : Int) (t27 : Int) => x97 k k97_1011 (t97_1011 newslices t25 t26 t27))) = l97 k
  | 0 => rfl
  | k + 1 => by
    have h := q97 k
    show _ = (F97_1003 k ((l97 k).1) ((l97 k).2), F97_1011 k ((l97 k).1) ((l97 k).2))
    rw [← h]
    exact (Prod.ext (funext fun slices => funext fun size => funext fun t9 => funext fun t10 => funext fun t11 => e97_1003 k slices size t9 t10 t11) (funext fun newslices => funext fun t25 => funext fun t26 => funext fun t27 => e97_1011 k newslices t25 t26 t27))
theorem w97 (k : Nat) (slices : List (List (Int))) : runFn ti (envOf env33) 36 h97 (finT ti true Go.Proofs.Try.f97.results.toList [(.slice 3 (.int .i64), false)] (.slice 3 (.int .i64))) k (bodyOf Go.Proofs.Try.f97) (initS 0 [.slc 22 (.slice 3 (.int .i64)) slices]) = F97 k (fun (slices : List (List Int)) (size : Int) (t9 : List (List Int)) (t10 : Int) (t11 : Int) => x97 k k97_1003 (t97_1003 slices size t9 t10 t11)) (fun (newslices : List Int) (t25 : List (List Int)) (t26 : Int) (t27 : Int) => x97 k k97_1011 (t97_1011 newslices t25 t26 t27)) slices := by kernel_rfl
theorem v97 (k : Nat) (slices : List (List (Int))) : runFn ti (envOf env33) 36 h97 (finT ti true Go.Proofs.Try.f97.results.toList [(.slice 3 (.int .i64), false)] (.slice 3 (.int .i64))) k (bodyOf Go.Proofs.Try.f97) (initS 0 [.slc 22 (.slice 3 (.int .i64)) slices]) = f97 k slices := by
  rw [w97]
  have h := q97 k
  unfold f97
  rw [← h]
theorem m97 : Meets Go.Proofs.Try.prog 97 s97 := meets_of_run tiOk env33_ok mo Go.Proofs.Try.func97 (body := bodyOf Go.Proofs.Try.f97) (by kernel_rfl) (N := 36) (by kernel_rfl) (hs := h97) (by
  intro k xs r h
  unfold s97 at h
  dsimp only at h
  split at h
  · exact ⟨Nat.le_of_ble_eq_true rfl, (v97 k _).trans h⟩
  · cases h)
theorem env34_ok : EnvOk Go.Proofs.Try.prog (envOf env34) := envOf_cons m97 Go.Proofs.Try.func97 (by kernel_rfl) (by kernel_rfl) env33_ok

-- impl.boxOf
def h89 : Hints := [(1002, .lab [(6, .box 31 [.v, .v, .v]), (8, .box 31 [.v, .own 3 (Ty.int IntKind.i64), .own 3 (Ty.int IntKind.i64)])]), (1008, .lab [(6, .box 31 [.v, .v, .v]), (8, .box 31 [.v, .own 3 (Ty.int IntKind.i64), .own 3 (Ty.int IntKind.i64)]), (10, .one (.own 3 (Ty.int IntKind.i64))), (39, .rbox 22 [.own 3 (.int .i64), .own 3 (.int .i64)]), (40, .one (.v)), (41, .one (.v)), (46, .one (.v)), (47, .one (.v))]), (1005, .unr 3)]
noncomputable def F89_1002 (k : Nat) (rec1002 : Int → Int → List Int → List Int → Option ((Int × (List (Int)) × List (Int)) × Bool)) (rec11008 : Int → Int → List Int → List Int → Int → Int → Option ((Int × (List (Int)) × List (Int)) × Bool)) (rec21008 : Int → Int → List Int → List Int → Int → Int → Option ((Int × (List (Int)) × List (Int)) × Bool)) (t6s_0 : Int) (bs_0 : Int) (bs : List Int) (bs' : List Int) : Option ((Int × (List (Int)) × List (Int)) × Bool) :=
  bif decide (0 < bs_0) then
    (f97 k [bs, bs']).bind fun r0 =>
    (f96_98 k r0).bind fun r1 =>
    bif !r1 then
      rec11008 t6s_0 (IntKind.wrap IntKind.i64 (bs_0 - 1)) bs bs' ((↑(List.length bs) : Int)) (0)
    else
      (f39 k (bs_0, bs, bs')).bind fun r2 =>
      bif !r2 then
        some (((0, [], []), false))
      else
        some (((bs_0, bs, bs'), true))
  else
    (f39 k (bs_0, bs, bs')).bind fun r3 =>
    bif !r3 then
      some (((0, [], []), false))
    else
      some (((bs_0, bs, bs'), true))
noncomputable def F89_11008 (k : Nat) (rec1002 : Int → Int → List Int → List Int → Option ((Int × (List (Int)) × List (Int)) × Bool)) (rec11008 : Int → Int → List Int → List Int → Int → Int → Option ((Int × (List (Int)) × List (Int)) × Bool)) (rec21008 : Int → Int → List Int → List Int → Int → Int → Option ((Int × (List (Int)) × List (Int)) × Bool)) (t6s_0 : Int) (bs_0 : Int) (bs : List Int) (bs' : List Int) (t46 : Int) (t47 : Int) : Option ((Int × (List (Int)) × List (Int)) × Bool) :=
  bif decide (t47 < t46) then
    bif boundA t47 (List.length bs) then
      bif Nat.blt (Int.toNat t47) (List.length bs) then
        bif boundA t47 (List.length bs) then
          bif Nat.blt (Int.toNat t47) (List.length bs) then
            rec11008 t6s_0 bs_0 (List.set bs (Int.toNat t47) (IntKind.wrap IntKind.i64 (Int.tdiv (List.getD bs (Int.toNat t47) 0) 2))) bs' t46 (IntKind.wrap IntKind.i64 (t47 + 1))
          else
            none
        else
          none
      else
        none
    else
      none
  else
    rec21008 t6s_0 bs_0 bs bs' ((↑(List.length bs') : Int)) (0)
noncomputable def F89_21008 (k : Nat) (rec1002 : Int → Int → List Int → List Int → Option ((Int × (List (Int)) × List (Int)) × Bool)) (rec11008 : Int → Int → List Int → List Int → Int → Int → Option ((Int × (List (Int)) × List (Int)) × Bool)) (rec21008 : Int → Int → List Int → List Int → Int → Int → Option ((Int × (List (Int)) × List (Int)) × Bool)) (t6s_0 : Int) (bs_0 : Int) (bs : List Int) (bs' : List Int) (t46 : Int) (t47 : Int) : Option ((Int × (List (Int)) × List (Int)) × Bool) :=
  bif decide (t47 < t46) then
    bif boundA t47 (List.length bs') then
      bif Nat.blt (Int.toNat t47) (List.length bs') then
        bif boundA t47 (List.length bs') then
          bif Nat.blt (Int.toNat t47) (List.length bs') then
            rec21008 t6s_0 bs_0 bs (List.set bs' (Int.toNat t47) (IntKind.wrap IntKind.i64 (Int.tdiv (List.getD bs' (Int.toNat t47) 0) 2))) t46 (IntKind.wrap IntKind.i64 (t47 + 1))
          else
            none
        else
          none
      else
        none
    else
      none
  else
    rec1002 t6s_0 bs_0 bs bs'
noncomputable def F89 (k : Nat) (rec1002 : Int → Int → List Int → List Int → Option ((Int × (List (Int)) × List (Int)) × Bool)) (rec11008 : Int → Int → List Int → List Int → Int → Int → Option ((Int × (List (Int)) × List (Int)) × Bool)) (rec21008 : Int → Int → List Int → List Int → Int → Int → Option ((Int × (List (Int)) × List (Int)) × Bool)) (k_ : Int) (low : List (Int)) (high : List (Int)) : Option ((Int × (List (Int)) × List (Int)) × Bool) :=
  (f88 k low).bind fun r0 =>
  (f88 k high).bind fun r1 =>
  rec1002 (0) k_ r0 r1
noncomputable def l89 : Nat → (Int → Int → List Int → List Int → Option ((Int × (List (Int)) × List (Int)) × Bool)) × (Int → Int → List Int → List Int → Int → Int → Option ((Int × (List (Int)) × List (Int)) × Bool)) × (Int → Int → List Int → List Int → Int → Int → Option ((Int × (List (Int)) × List (Int)) × Bool))
  | 0 => (fun _ _ _ _ => none, fun _ _ _ _ _ _ => none, fun _ _ _ _ _ _ => none)
  | k + 1 => (F89_1002 k ((l89 k).1) ((l89 k).2.1) ((l89 k).2.2), F89_11008 k ((l89 k).1) ((l89 k).2.1) ((l89 k).2.2), F89_21008 k ((l89 k).1) ((l89 k).2.1) ((l89 k).2.2))
noncomputable def f89 (k : Nat) (k_ : Int) (low : List (Int)) (high : List (Int)) : Option ((Int × (List (Int)) × List (Int)) × Bool) := F89 k ((l89 k).1) ((l89 k).2.1) ((l89 k).2.2) k_ low high
noncomputable def s89 : Spec := ⟨false, [(.pair (.int .i64) (.pair (.slice 3 (.int .i64)) (.slice 3 (.int .i64))), true), (.bool, false)], true, .pair (.pair (.int .i64) (.pair (.slice 3 (.int .i64)) (.slice 3 (.int .i64)))) (.bool), fun k xs => match xs with | [.int .i64 k_, .slc 3 (.int .i64) low, .slc 3 (.int .i64) high] => f89 k k_ low high | _ => none, false, none, false⟩
noncomputable def env35 : List (FuncId × Spec) := (89, s89) :: env34
noncomputable abbrev x89 := exec ti (envOf env34) 62 h89 (finT ti true Go.Proofs.Try.f89.results.toList [(.pair (.int .i64) (.pair (.slice 3 (.int .i64)) (.slice 3 (.int .i64))), true), (.bool, false)] (.pair (.pair (.int .i64) (.pair (.slice 3 (.int .i64)) (.slice 3 (.int .i64)))) (.bool)))
noncomputable def k89_1002 : List It := stackAt [.r, .r, .l, .b, .lb none] (bodyOf Go.Proofs.Try.f89) []
def t89_1002 (t6s_0 : Int) (bs_0 : Int) (bs : List Int) (bs' : List Int) : St := [(12, Cell.val (AVal.ptr 33 0)), (33, Cell.mem true 31 [AVal.int IntKind.i64 t6s_0, AVal.nilslc, AVal.nilslc]), (16, Cell.val (AVal.ptr 35 0)), (35, Cell.mem true 31 [AVal.int IntKind.i64 bs_0, AVal.ref 37 none, AVal.ref 39 none]), (37, Cell.row true 3 (Ty.int IntKind.i64) bs), (39, Cell.row true 3 (Ty.int IntKind.i64) bs')]
noncomputable def k89_11008 : List It := stackAt [.r, .r, .l, .b, .lb none, .r, .b, .r, .r, .b, .lb (some 2), .r, .r, .l, .b, .r, .r, .b, .lb none] (bodyOf Go.Proofs.Try.f89) []
def t89_11008 (t6s_0 : Int) (bs_0 : Int) (bs : List Int) (bs' : List Int) (t46 : Int) (t47 : Int) : St := [(12, Cell.val (AVal.ptr 33 0)), (33, Cell.mem true 31 [AVal.int IntKind.i64 t6s_0, AVal.nilslc, AVal.nilslc]), (16, Cell.val (AVal.ptr 35 0)), (35, Cell.mem true 31 [AVal.int IntKind.i64 bs_0, AVal.ref 37 none, AVal.ref 39 none]), (37, Cell.row true 3 (Ty.int IntKind.i64) bs), (39, Cell.row true 3 (Ty.int IntKind.i64) bs'), (20, Cell.val (AVal.ref 37 none)), (78, Cell.val (AVal.ref 41 none)), (41, Cell.mem true 22 [AVal.ref 37 none, AVal.ref 39 none]), (80, Cell.val (AVal.int IntKind.i64 (Int.ofNat 2))), (82, Cell.val (AVal.int IntKind.i64 (Int.ofNat 0))), (92, Cell.val (AVal.int IntKind.i64 t46)), (94, Cell.val (AVal.int IntKind.i64 t47))]
noncomputable def k89_21008 : List It := stackAt [.r, .r, .l, .b, .lb none, .r, .b, .r, .r, .b, .lb (some 1), .r, .r, .l, .b, .r, .r, .b, .lb none] (bodyOf Go.Proofs.Try.f89) []
def t89_21008 (t6s_0 : Int) (bs_0 : Int) (bs : List Int) (bs' : List Int) (t46 : Int) (t47 : Int) : St := [(12, Cell.val (AVal.ptr 33 0)), (33, Cell.mem true 31 [AVal.int IntKind.i64 t6s_0, AVal.nilslc, AVal.nilslc]), (16, Cell.val (AVal.ptr 35 0)), (35, Cell.mem true 31 [AVal.int IntKind.i64 bs_0, AVal.ref 37 none, AVal.ref 39 none]), (37, Cell.row true 3 (Ty.int IntKind.i64) bs), (39, Cell.row true 3 (Ty.int IntKind.i64) bs'), (20, Cell.val (AVal.ref 39 none)), (78, Cell.val (AVal.ref 41 none)), (41, Cell.mem true 22 [AVal.ref 37 none, AVal.ref 39 none]), (80, Cell.val (AVal.int IntKind.i64 (Int.ofNat 2))), (82, Cell.val (AVal.int IntKind.i64 (Int.ofNat 1))), (92, Cell.val (AVal.int IntKind.i64 t46)), (94, Cell.val (AVal.int IntKind.i64 t47))]
theorem e89_1002 (k : Nat) (t6s_0 : Int) (bs_0 : Int) (bs : List Int) (bs' : List Int) : x89 (k + 1) k89_1002 (t89_1002 t6s_0 bs_0 bs bs') = F89_1002 k (fun (t6s_0 : Int) (bs_0 : Int) (bs : List Int) (bs' : List Int) => x89 k k89_1002 (t89_1002 t6s_0 bs_0 bs bs')) (fun (t6s_0 : Int) (bs_0 : Int) (bs : List Int) (bs' : List Int) (t46 : Int) (t47 : Int) => x89 k k89_11008 (t89_11008 t6s_0 bs_0 bs bs' t46 t47)) (fun (t6s_0 : Int) (bs_0 : Int) (bs : List Int) (bs' : List Int) (t46 : Int) (t47 : Int) => x89 k k89_21008 (t89_21008 t6s_0 bs_0 bs bs' t46 t47)) t6s_0 bs_0 bs bs' := by kernel_rfl
theorem e89_11008 (k : Nat) (t6s_0 : Int) (bs_0 : Int) (bs : List Int) (bs' : List Int) (t46 : Int) (t47 : Int) : x89 (k + 1) k89_11008 (t89_11008 t6s_0 bs_0 bs bs' t46 t47) = F89_11008 k (fun (t6s_0 : Int) (bs_0 : Int) (bs : List Int) (bs' : List Int) => x89 k k89_1002 (t89_1002 t6s_0 bs_0 bs bs')) (fun (t6s_0 : Int) (bs_0 : Int) (bs : List Int) (bs' : List Int) (t46 : Int) (t47 : Int) => x89 k k89_11008 (t89_11008 t6s_0 bs_0 bs bs' t46 t47)) (fun (t6s_0 : Int) (bs_0 : Int) (bs : List Int) (bs' : List Int) (t46 : Int) (t47 : Int) => x89 k k89_21008 (t89_21008 t6s_0 bs_0 bs bs' t46 t47)) t6s_0 bs_0 bs bs' t46 t47 := by kernel_rfl
theorem e89_21008 (k : Nat) (t6s_0 : Int) (bs_0 : Int) (bs : List Int) (bs' : List Int) (t46 : Int) (t47 : Int) : x89 (k + 1) k89_21008 (t89_21008 t6s_0 bs_0 bs bs' t46 t47) = F89_21008 k (fun (t6s_0 : Int) (bs_0 : Int) (bs : List Int) (bs' : List Int) => x89 k k89_1002 (t89_1002 t6s_0 bs_0 bs bs')) (fun (t6s_0 : Int) (bs_0 : Int) (bs : List Int) (bs' : List Int) (t46 : Int) (t47 : Int) => x89 k k89_11008 (t89_11008 t6s_0 bs_0 bs bs' t46 t47)) (fun (t6s_0 : Int) (bs_0 : Int) (bs : List Int) (bs' : List Int) (t46 : Int) (t47 : Int) => x89 k k89_21008 (t89_21008 t6s_0 bs_0 bs bs' t46 t47)) t6s_0 bs_0 bs bs' t46 t47 := by kernel_rfl
theorem q89 : ∀ k : Nat, ((fun (t6s_0 : Int) (bs_0 : Int) (bs : List Int) (bs' : List Int) => x89 k k89_1002 (t89_1002 t6s_0 bs_0 bs bs')), (fun (t6s_0 : Int) (bs_0 : Int) (bs : List Int) (bs' : List Int) (t46 : Int) (t47 : Int) => x89 k k89_11008 (t89_11008 t6s_0 bs_0 bs bs' t46 t47)), (fun (t6s_0 : Int) (bs_0 : Int) (bs : List Int) (bs' : List Int) (t46 : Int) (t47 : Int) => x89 k k89_21008 (t89_21008 t6s_0 bs_0 bs bs' t46 t47))) = l89 k
  | 0 => rfl
  | k + 1 => by
    have h := q89 k
    show _ = (F89_1002 k ((l89 k).1) ((l89 k).2.1) ((l89 k).2.2), F89_11008 k ((l89 k).1) ((l89 k).2.1) ((l89 k).2.2), F89_21008 k ((l89 k).1) ((l89 k).2.1) ((l89 k).2.2))
    rw [← h]
    exact (Prod.ext (funext fun t6s_0 => funext fun bs_0 => funext fun bs => funext fun bs' => e89_1002 k t6s_0 bs_0 bs bs') (Prod.ext (funext fun t6s_0 => funext fun bs_0 => funext fun bs => funext fun bs' => funext fun t46 => funext fun t47 => e89_11008 k t6s_0 bs_0 bs bs' t46 t47) (funext fun t6s_0 => funext fun bs_0 => funext fun bs => funext fun bs' => funext fun t46 => funext fun t47 => e89_21008 k t6s_0 bs_0 bs bs' t46 t47)))
theorem w89 (k : Nat) (k_ : Int) (low : List (Int)) (high : List (Int)) : runFn ti (envOf env34) 62 h89 (finT ti true Go.Proofs.Try.f89.results.toList [(.pair (.int .i64) (.pair (.slice 3 (.int .i64)) (.slice 3 (.int .i64))), true), (.bool, false)] (.pair (.pair (.int .i64) (.pair (.slice 3 (.int .i64)) (.slice 3 (.int .i64)))) (.bool))) k (bodyOf Go.Proofs.Try.f89) (initS 0 [.int .i64 k_, .slc 3 (.int .i64) low, .slc 3 (.int .i64) high]) = F89 k (fun (t6s_0 : Int) (bs_0 : Int) (bs : List Int) (bs' : List Int) => x89 k k89_1002 (t89_1002 t6s_0 bs_0 bs bs')) (fun (t6s_0 : Int) (bs_0 : Int) (bs : List Int) (bs' : List Int) (t46 : Int) (t47 : Int) => x89 k k89_11008 (t89_11008 t6s_0 bs_0 bs bs' t46 t47)) (fun (t6s_0 : Int) (bs_0 : Int) (bs : List Int) (bs' : List Int) (t46 : Int) (t47 : Int) => x89 k k89_21008 (t89_21008 t6s_0 bs_0 bs bs' t46 t47)) k_ low high := by kernel_rfl
theorem v89 (k : Nat) (k_ : Int) (low : List (Int)) (high : List (Int)) : runFn ti (envOf env34) 62 h89 (finT ti true Go.Proofs.Try.f89.results.toList [(.pair (.int .i64) (.pair (.slice 3 (.int .i64)) (.slice 3 (.int .i64))), true), (.bool, false)] (.pair (.pair (.int .i64) (.pair (.slice 3 (.int .i64)) (.slice 3 (.int .i64)))) (.bool))) k (bodyOf Go.Proofs.Try.f89) (initS 0 [.int .i64 k_, .slc 3 (.int .i64) low, .slc 3 (.int .i64) high]) = f89 k k_ low high := by
  rw [w89]
  have h := q89 k
  unfold f89
  rw [← h]
theorem m89 : Meets Go.Proofs.Try.prog 89 s89 := meets_of_run tiOk env34_ok mo Go.Proofs.Try.func89 (body := bodyOf Go.Proofs.Try.f89) (by kernel_rfl) (N := 62) (by kernel_rfl) (hs := h89) (by
  intro k xs r h
  unfold s89 at h
  dsimp only at h
  split at h
  · exact ⟨Nat.le_of_ble_eq_true rfl, (v89 k _ _ _).trans h⟩
  · cases h)
theorem env35_ok : EnvOk Go.Proofs.Try.prog (envOf env35) := envOf_cons m89 Go.Proofs.Try.func89 (by kernel_rfl) (by kernel_rfl) env34_ok

-- impl.Box).halves
noncomputable def f69 (k : Nat) (L : Int × (List (Int)) × List (Int)) (i : Int) : Option ((List (Int × (List (Int)) × List (Int))) × Bool) :=
  (f87 k L.snd.fst 1).bind fun r0 =>
  (f87 k L.snd.snd 1).bind fun r1 =>
  bif boundA i (List.length L.snd.fst) then
    bif boundA i (List.length L.snd.snd) then
      (f88 k r1).bind fun r2 =>
      (f88 k r0).bind fun r3 =>
      bif boundA i (List.length r2) then
        bif Nat.blt (Int.toNat i) (List.length r2) then
          bif boundA i (List.length r3) then
            bif Nat.blt (Int.toNat i) (List.length r3) then
              (f89 k (IntKind.wrap IntKind.i64 (L.fst + 1)) r0 (List.set r2 (Int.toNat i) (IntKind.wrap IntKind.i64 (List.getD L.snd.fst (Int.toNat i) 0 + List.getD L.snd.snd (Int.toNat i) 0)))).bind fun r4 =>
              (f89 k (IntKind.wrap IntKind.i64 (L.fst + 1)) (List.set r3 (Int.toNat i) (IntKind.wrap IntKind.i64 (List.getD L.snd.fst (Int.toNat i) 0 + List.getD L.snd.snd (Int.toNat i) 0))) r1).bind fun r5 =>
              bif !r4.snd then
                some (([], false))
              else
                bif !r5.snd then
                  some (([], false))
                else
                  some (([(r4.fst.fst, r4.fst.snd.fst, r4.fst.snd.snd), (r5.fst.fst, r5.fst.snd.fst, r5.fst.snd.snd)], true))
            else
              none
          else
            none
        else
          none
      else
        none
    else
      none
  else
    none
noncomputable def s69 : Spec := ⟨false, [(.slice 31 (.pair (.int .i64) (.pair (.slice 3 (.int .i64)) (.slice 3 (.int .i64)))), false), (.bool, false)], true, .pair (.slice 31 (.pair (.int .i64) (.pair (.slice 3 (.int .i64)) (.slice 3 (.int .i64))))) (.bool), fun k xs => match xs with | [.fptr (.pair (.int .i64) (.pair (.slice 3 (.int .i64)) (.slice 3 (.int .i64)))) L, .int .i64 i] => f69 k L i | _ => none, false, none, false⟩
noncomputable def env36 : List (FuncId × Spec) := (69, s69) :: env35
theorem v69 (k : Nat) (L : Int × (List (Int)) × List (Int)) (i : Int) : runFn ti (envOf env35) 83 [] (finT ti true Go.Proofs.Try.f69.results.toList [(.slice 31 (.pair (.int .i64) (.pair (.slice 3 (.int .i64)) (.slice 3 (.int .i64)))), false), (.bool, false)] (.pair (.slice 31 (.pair (.int .i64) (.pair (.slice 3 (.int .i64)) (.slice 3 (.int .i64))))) (.bool))) k (bodyOf Go.Proofs.Try.f69) (initS 0 [.fptr (.pair (.int .i64) (.pair (.slice 3 (.int .i64)) (.slice 3 (.int .i64)))) L, .int .i64 i]) = f69 k L i := by kernel_rfl
theorem m69 : Meets Go.Proofs.Try.prog 69 s69 := meets_of_run tiOk env35_ok mo Go.Proofs.Try.func69 (body := bodyOf Go.Proofs.Try.f69) (by kernel_rfl) (N := 83) (by kernel_rfl) (hs := []) (by
  intro k xs r h
  unfold s69 at h
  dsimp only at h
  split at h
  · exact ⟨Nat.le_of_ble_eq_true rfl, (v69 k _ _).trans h⟩
  · cases h)
theorem env36_ok : EnvOk Go.Proofs.Try.prog (envOf env36) := envOf_cons m69 Go.Proofs.Try.func69 (by kernel_rfl) (by kernel_rfl) env35_ok

end Go.Proofs.YtchdegcfohegfaaE
