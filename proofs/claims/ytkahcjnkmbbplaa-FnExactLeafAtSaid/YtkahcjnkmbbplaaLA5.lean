/- Functions, by the engine; printed. -/
import Derived.Test.YtkahcjnkmbbplaaLA4
set_option maxRecDepth 100000
set_option maxHeartbeats 4000000
set_option linter.unusedVariables false
namespace Go.Proofs.YtkahcjnkmbbplaaE
-- impl.leafBoxes
def h45 : Hints := [(1004, .lab [(6, .one (.own 32 (Ty.pair (Ty.int IntKind.i64) (Ty.pair (Ty.slice 3 (Ty.int IntKind.i64)) (Ty.slice 3 (Ty.int IntKind.i64)))))), (7, .one (.own 32 (Ty.pair (Ty.int IntKind.i64) (Ty.pair (Ty.slice 3 (Ty.int IntKind.i64)) (Ty.slice 3 (Ty.int IntKind.i64)))))), (17, .one (.frz 63 (Ty.pair (Ty.int IntKind.i64) (Ty.int IntKind.i64)))), (18, .one (.v)), (19, .one (.v))])]
noncomputable def F45_1004 (k : Nat) (rec1004 : List (Int × List Int × List Int) → List (Int × List Int × List Int) → List (Int × Int) → Int → Int → Option ((List (Int × (List (Int)) × List (Int))) × Bool)) (open_s : List (Int × List Int × List Int)) (outs : List (Int × List Int × List Int)) (t17 : List (Int × Int)) (t18 : Int) (t19 : Int) : Option ((List (Int × (List (Int)) × List (Int))) × Bool) :=
  bif decide (t19 < t18) then
    bif boundA t19 (List.length t17) then
      bif boundA (IntKind.wrap IntKind.i64 ((↑(List.length open_s) : Int) - 1)) (List.length open_s) then
        bif Nat.blt (Int.toNat (IntKind.wrap IntKind.i64 ((↑(List.length open_s) : Int) - 1))) (List.length open_s) then
          bif boundE (IntKind.wrap IntKind.i64 ((↑(List.length open_s) : Int) - 1)) (List.length open_s) then
            bif !decide ((List.getD t17 (Int.toNat t19) (0, 0)).fst = 0) then
              bif decide ((List.length outs + List.length [((List.getD open_s (Int.toNat (IntKind.wrap IntKind.i64 ((↑(List.length open_s) : Int) - 1))) (0, [], [])).fst, (List.getD open_s (Int.toNat (IntKind.wrap IntKind.i64 ((↑(List.length open_s) : Int) - 1))) (0, [], [])).snd.fst, (List.getD open_s (Int.toNat (IntKind.wrap IntKind.i64 ((↑(List.length open_s) : Int) - 1))) (0, [], [])).snd.snd)]) * 56 ≤ 140737488355328) then
                rec1004 (List.take (Int.toNat (IntKind.wrap IntKind.i64 ((↑(List.length open_s) : Int) - 1))) open_s) (outs ++ [((List.getD open_s (Int.toNat (IntKind.wrap IntKind.i64 ((↑(List.length open_s) : Int) - 1))) (0, [], [])).fst, (List.getD open_s (Int.toNat (IntKind.wrap IntKind.i64 ((↑(List.length open_s) : Int) - 1))) (0, [], [])).snd.fst, (List.getD open_s (Int.toNat (IntKind.wrap IntKind.i64 ((↑(List.length open_s) : Int) - 1))) (0, [], [])).snd.snd)]) t17 t18 (IntKind.wrap IntKind.i64 (t19 + 1))
              else
                none
            else
              (f72 k ((List.getD open_s (Int.toNat (IntKind.wrap IntKind.i64 ((↑(List.length open_s) : Int) - 1))) (0, [], [])).fst, (List.getD open_s (Int.toNat (IntKind.wrap IntKind.i64 ((↑(List.length open_s) : Int) - 1))) (0, [], [])).snd.fst, (List.getD open_s (Int.toNat (IntKind.wrap IntKind.i64 ((↑(List.length open_s) : Int) - 1))) (0, [], [])).snd.snd) (List.getD t17 (Int.toNat t19) (0, 0)).snd).bind fun r0 =>
              bif !r0.snd then
                some (([], false))
              else
                bif boundA 1 (List.length r0.fst) then
                  bif Nat.blt (Int.toNat 1) (List.length r0.fst) then
                    bif boundA 0 (List.length r0.fst) then
                      bif Nat.blt (Int.toNat 0) (List.length r0.fst) then
                        bif decide ((List.length (List.take (Int.toNat (IntKind.wrap IntKind.i64 ((↑(List.length open_s) : Int) - 1))) open_s) + List.length [((List.getD r0.fst (Int.toNat 1) (0, [], [])).fst, (List.getD r0.fst (Int.toNat 1) (0, [], [])).snd.fst, (List.getD r0.fst (Int.toNat 1) (0, [], [])).snd.snd), ((List.getD r0.fst (Int.toNat 0) (0, [], [])).fst, (List.getD r0.fst (Int.toNat 0) (0, [], [])).snd.fst, (List.getD r0.fst (Int.toNat 0) (0, [], [])).snd.snd)]) * 56 ≤ 140737488355328) then
                          rec1004 (List.take (Int.toNat (IntKind.wrap IntKind.i64 ((↑(List.length open_s) : Int) - 1))) open_s ++ [((List.getD r0.fst (Int.toNat 1) (0, [], [])).fst, (List.getD r0.fst (Int.toNat 1) (0, [], [])).snd.fst, (List.getD r0.fst (Int.toNat 1) (0, [], [])).snd.snd), ((List.getD r0.fst (Int.toNat 0) (0, [], [])).fst, (List.getD r0.fst (Int.toNat 0) (0, [], [])).snd.fst, (List.getD r0.fst (Int.toNat 0) (0, [], [])).snd.snd)]) outs t17 t18 (IntKind.wrap IntKind.i64 (t19 + 1))
                        else
                          none
                      else
                        none
                    else
                      none
                  else
                    none
                else
                  none
          else
            none
        else
          none
      else
        none
    else
      none
  else
    (f73 k outs).bind fun r1 =>
    some ((r1, true))
noncomputable def F45 (k : Nat) (rec1004 : List (Int × List Int × List Int) → List (Int × List Int × List Int) → List (Int × Int) → Int → Int → Option ((List (Int × (List (Int)) × List (Int))) × Bool)) (b : Int × (List (Int)) × List (Int)) (l : List (Int × Int)) : Option ((List (Int × (List (Int)) × List (Int))) × Bool) :=
  rec1004 ([(b.fst, b.snd.fst, b.snd.snd)]) ([]) l ((↑(List.length l) : Int)) (0)
noncomputable def l45 : Nat → (List (Int × List Int × List Int) → List (Int × List Int × List Int) → List (Int × Int) → Int → Int → Option ((List (Int × (List (Int)) × List (Int))) × Bool))
  | 0 => fun _ _ _ _ _ => none
  | k + 1 => F45_1004 k (l45 k)
noncomputable def f45 (k : Nat) (b : Int × (List (Int)) × List (Int)) (l : List (Int × Int)) : Option ((List (Int × (List (Int)) × List (Int))) × Bool) := F45 k (l45 k) b l
noncomputable def s45 : Spec := ⟨false, [(.slice 32 (.pair (.int .i64) (.pair (.slice 3 (.int .i64)) (.slice 3 (.int .i64)))), false), (.bool, false)], true, .pair (.slice 32 (.pair (.int .i64) (.pair (.slice 3 (.int .i64)) (.slice 3 (.int .i64))))) (.bool), fun k xs => match xs with | [.fptr (.pair (.int .i64) (.pair (.slice 3 (.int .i64)) (.slice 3 (.int .i64)))) b, .slc 63 (.pair (.int .i64) (.int .i64)) l] => f45 k b l | _ => none, false⟩
noncomputable def env49 : List (FuncId × Spec) := (45, s45) :: env48
noncomputable abbrev x45 := exec tiC (envOf env48) 61 h45 (finT tiC true Go.Proofs.Try.f45.results.toList [(.slice 32 (.pair (.int .i64) (.pair (.slice 3 (.int .i64)) (.slice 3 (.int .i64)))), false), (.bool, false)] (.pair (.slice 32 (.pair (.int .i64) (.pair (.slice 3 (.int .i64)) (.slice 3 (.int .i64))))) (.bool)))
noncomputable def k45_1004 : List It := stackAt [.r, .r, .r, .l, .r, .b, .lb none] (bodyOf Go.Proofs.Try.f45) []
def t45_1004 (open_s : List (Int × List Int × List Int)) (outs : List (Int × List Int × List Int)) (t17 : List (Int × Int)) (t18 : Int) (t19 : Int) : St := [(12, Cell.val (AVal.ref 3 none)), (3, Cell.row true 32 (Ty.pair (Ty.int IntKind.i64) (Ty.pair (Ty.slice 3 (Ty.int IntKind.i64)) (Ty.slice 3 (Ty.int IntKind.i64)))) open_s), (14, Cell.val (AVal.ref 5 none)), (5, Cell.row true 32 (Ty.pair (Ty.int IntKind.i64) (Ty.pair (Ty.slice 3 (Ty.int IntKind.i64)) (Ty.slice 3 (Ty.int IntKind.i64)))) outs), (34, Cell.val (AVal.slc 63 (Ty.pair (Ty.int IntKind.i64) (Ty.int IntKind.i64)) t17)), (36, Cell.val (AVal.int IntKind.i64 t18)), (38, Cell.val (AVal.int IntKind.i64 t19))]
theorem e45_1004 (k : Nat) (open_s : List (Int × List Int × List Int)) (outs : List (Int × List Int × List Int)) (t17 : List (Int × Int)) (t18 : Int) (t19 : Int) : x45 (k + 1) k45_1004 (t45_1004 open_s outs t17 t18 t19) = F45_1004 k (fun (open_s : List (Int × List Int × List Int)) (outs : List (Int × List Int × List Int)) (t17 : List (Int × Int)) (t18 : Int) (t19 : Int) => x45 k k45_1004 (t45_1004 open_s outs t17 t18 t19)) open_s outs t17 t18 t19 := by kernel_rfl
theorem q45 : ∀ k : Nat, (fun (open_s : List (Int × List Int × List Int)) (outs : List (Int × List Int × List Int)) (t17 : List (Int × Int)) (t18 : Int) (t19 : Int) => x45 k k45_1004 (t45_1004 open_s outs t17 t18 t19)) = l45 k
  | 0 => rfl
  | k + 1 => by
    have h := q45 k
    show _ = F45_1004 k (l45 k)
    rw [← h]
    exact (funext fun open_s => funext fun outs => funext fun t17 => funext fun t18 => funext fun t19 => e45_1004 k open_s outs t17 t18 t19)
theorem w45 (k : Nat) (b : Int × (List (Int)) × List (Int)) (l : List (Int × Int)) : runFn tiC (envOf env48) 61 h45 (finT tiC true Go.Proofs.Try.f45.results.toList [(.slice 32 (.pair (.int .i64) (.pair (.slice 3 (.int .i64)) (.slice 3 (.int .i64)))), false), (.bool, false)] (.pair (.slice 32 (.pair (.int .i64) (.pair (.slice 3 (.int .i64)) (.slice 3 (.int .i64))))) (.bool))) k (bodyOf Go.Proofs.Try.f45) (initS 0 [.fptr (.pair (.int .i64) (.pair (.slice 3 (.int .i64)) (.slice 3 (.int .i64)))) b, .slc 63 (.pair (.int .i64) (.int .i64)) l]) = F45 k (fun (open_s : List (Int × List Int × List Int)) (outs : List (Int × List Int × List Int)) (t17 : List (Int × Int)) (t18 : Int) (t19 : Int) => x45 k k45_1004 (t45_1004 open_s outs t17 t18 t19)) b l := by kernel_rfl
theorem v45 (k : Nat) (b : Int × (List (Int)) × List (Int)) (l : List (Int × Int)) : runFn tiC (envOf env48) 61 h45 (finT tiC true Go.Proofs.Try.f45.results.toList [(.slice 32 (.pair (.int .i64) (.pair (.slice 3 (.int .i64)) (.slice 3 (.int .i64)))), false), (.bool, false)] (.pair (.slice 32 (.pair (.int .i64) (.pair (.slice 3 (.int .i64)) (.slice 3 (.int .i64))))) (.bool))) k (bodyOf Go.Proofs.Try.f45) (initS 0 [.fptr (.pair (.int .i64) (.pair (.slice 3 (.int .i64)) (.slice 3 (.int .i64)))) b, .slc 63 (.pair (.int .i64) (.int .i64)) l]) = f45 k b l := by
  rw [w45]
  have h := q45 k
  unfold f45
  rw [← h]
theorem m45 : Meets Go.Proofs.Try.prog 45 s45 := meets_of_run tiCOk env48_ok mo Go.Proofs.Try.func45 (body := bodyOf Go.Proofs.Try.f45) (by kernel_rfl) (N := 61) (by kernel_rfl) (hs := h45) (by
  intro k xs r h
  unfold s45 at h
  dsimp only at h
  split at h
  · exact ⟨Nat.le_of_ble_eq_true rfl, (v45 k _ _).trans h⟩
  · cases h)
theorem env49_ok : EnvOk Go.Proofs.Try.prog (envOf env49) := envOf_cons m45 Go.Proofs.Try.func45 (by kernel_rfl) (by kernel_rfl) env48_ok

-- impl.treeEnd
def h92 : Hints := [(1002, .lab [(0, .one (.frz 63 (Ty.pair (Ty.int IntKind.i64) (Ty.int IntKind.i64)))), (1, .one (.v)), (5, .one (.v))])]
noncomputable def F92_1002 (k : Nat) (rec1002 : List (Int × Int) → Int → Int → Option (Int)) (l : List (Int × Int)) (place : Int) (open_ : Int) : Option (Int) :=
  bif decide (0 < open_) then
    bif decide (place = (↑(List.length l) : Int)) then
      some (-1)
    else
      bif boundA place (List.length l) then
        bif decide ((List.getD l (Int.toNat place) (0, 0)).fst = 0) then
          rec1002 l (IntKind.wrap IntKind.i64 (place + 1)) (IntKind.wrap IntKind.i64 (open_ + 1))
        else
          rec1002 l (IntKind.wrap IntKind.i64 (place + 1)) (IntKind.wrap IntKind.i64 (open_ - 1))
      else
        none
  else
    some place
noncomputable def F92 (k : Nat) (rec1002 : List (Int × Int) → Int → Int → Option (Int)) (l : List (Int × Int)) (place : Int) : Option (Int) :=
  rec1002 l place (1)
noncomputable def l92 : Nat → (List (Int × Int) → Int → Int → Option (Int))
  | 0 => fun _ _ _ => none
  | k + 1 => F92_1002 k (l92 k)
noncomputable def f92 (k : Nat) (l : List (Int × Int)) (place : Int) : Option (Int) := F92 k (l92 k) l place
noncomputable def s92 : Spec := ⟨false, [(.int .i64, false)], true, .int .i64, fun k xs => match xs with | [.slc 63 (.pair (.int .i64) (.int .i64)) l, .int .i64 place] => f92 k l place | _ => none, false⟩
noncomputable def env50 : List (FuncId × Spec) := (92, s92) :: env49
noncomputable abbrev x92 := exec ti (envOf env49) 25 h92 (finT ti true Go.Proofs.Try.f92.results.toList [(.int .i64, false)] (.int .i64))
noncomputable def k92_1002 : List It := stackAt [.r, .l, .r, .b, .lb none] (bodyOf Go.Proofs.Try.f92) []
def t92_1002 (l : List (Int × Int)) (place : Int) (open_ : Int) : St := [(0, Cell.val (AVal.slc 63 (Ty.pair (Ty.int IntKind.i64) (Ty.int IntKind.i64)) l)), (2, Cell.val (AVal.int IntKind.i64 place)), (10, Cell.val (AVal.int IntKind.i64 open_))]
theorem e92_1002 (k : Nat) (l : List (Int × Int)) (place : Int) (open_ : Int) : x92 (k + 1) k92_1002 (t92_1002 l place open_) = F92_1002 k (fun (l : List (Int × Int)) (place : Int) (open_ : Int) => x92 k k92_1002 (t92_1002 l place open_)) l place open_ := by kernel_rfl
theorem q92 : ∀ k : Nat, (fun (l : List (Int × Int)) (place : Int) (open_ : Int) => x92 k k92_1002 (t92_1002 l place open_)) = l92 k
  | 0 => rfl
  | k + 1 => by
    have h := q92 k
    show _ = F92_1002 k (l92 k)
    rw [← h]
    exact (funext fun l => funext fun place => funext fun open_ => e92_1002 k l place open_)
theorem w92 (k : Nat) (l : List (Int × Int)) (place : Int) : runFn ti (envOf env49) 25 h92 (finT ti true Go.Proofs.Try.f92.results.toList [(.int .i64, false)] (.int .i64)) k (bodyOf Go.Proofs.Try.f92) (initS 0 [.slc 63 (.pair (.int .i64) (.int .i64)) l, .int .i64 place]) = F92 k (fun (l : List (Int × Int)) (place : Int) (open_ : Int) => x92 k k92_1002 (t92_1002 l place open_)) l place := by kernel_rfl
theorem v92 (k : Nat) (l : List (Int × Int)) (place : Int) : runFn ti (envOf env49) 25 h92 (finT ti true Go.Proofs.Try.f92.results.toList [(.int .i64, false)] (.int .i64)) k (bodyOf Go.Proofs.Try.f92) (initS 0 [.slc 63 (.pair (.int .i64) (.int .i64)) l, .int .i64 place]) = f92 k l place := by
  rw [w92]
  have h := q92 k
  unfold f92
  rw [← h]
theorem m92 : Meets Go.Proofs.Try.prog 92 s92 := meets_of_run tiOk env49_ok mo Go.Proofs.Try.func92 (body := bodyOf Go.Proofs.Try.f92) (by kernel_rfl) (N := 25) (by kernel_rfl) (hs := h92) (by
  intro k xs r h
  unfold s92 at h
  dsimp only at h
  split at h
  · exact ⟨Nat.le_of_ble_eq_true rfl, (v92 k _ _).trans h⟩
  · cases h)
theorem env50_ok : EnvOk Go.Proofs.Try.prog (envOf env50) := envOf_cons m92 Go.Proofs.Try.func92 (by kernel_rfl) (by kernel_rfl) env49_ok

-- impl.pathsOf
def h93 : Hints := [(1004, .lab [(3, .one (.own 9 Ty.str)), (4, .one (.own 9 Ty.str)), (9, .one (.frz 63 (Ty.pair (Ty.int IntKind.i64) (Ty.int IntKind.i64)))), (10, .one (.v)), (11, .one (.v))])]
noncomputable def F93_1004 (k : Nat) (rec1004 : List ByteArray → List ByteArray → List (Int × Int) → Int → Int → Option (List (ByteArray))) (open_s : List ByteArray) (outs : List ByteArray) (t9 : List (Int × Int)) (t10 : Int) (t11 : Int) : Option (List (ByteArray)) :=
  bif decide (t11 < t10) then
    bif boundA t11 (List.length t9) then
      bif boundA (IntKind.wrap IntKind.i64 ((↑(List.length open_s) : Int) - 1)) (List.length open_s) then
        bif Nat.blt (Int.toNat (IntKind.wrap IntKind.i64 ((↑(List.length open_s) : Int) - 1))) (List.length open_s) then
          bif boundE (IntKind.wrap IntKind.i64 ((↑(List.length open_s) : Int) - 1)) (List.length open_s) then
            bif decide ((List.length outs + List.length [List.getD open_s (Int.toNat (IntKind.wrap IntKind.i64 ((↑(List.length open_s) : Int) - 1))) ByteArray.empty]) * 16 ≤ 140737488355328) then
              bif decide ((List.getD t9 (Int.toNat t11) (0, 0)).fst = 0) then
                bif decide (ByteArray.size (List.getD open_s (Int.toNat (IntKind.wrap IntKind.i64 ((↑(List.length open_s) : Int) - 1))) ByteArray.empty) + ByteArray.size { data := #[117] } ≤ 9223372036854775807) then
                  bif decide (ByteArray.size (List.getD open_s (Int.toNat (IntKind.wrap IntKind.i64 ((↑(List.length open_s) : Int) - 1))) ByteArray.empty) + ByteArray.size { data := #[108] } ≤ 9223372036854775807) then
                    bif decide ((List.length (List.take (Int.toNat (IntKind.wrap IntKind.i64 ((↑(List.length open_s) : Int) - 1))) open_s) + List.length [List.getD open_s (Int.toNat (IntKind.wrap IntKind.i64 ((↑(List.length open_s) : Int) - 1))) ByteArray.empty ++ { data := #[117] }, List.getD open_s (Int.toNat (IntKind.wrap IntKind.i64 ((↑(List.length open_s) : Int) - 1))) ByteArray.empty ++ { data := #[108] }]) * 16 ≤ 140737488355328) then
                      rec1004 (List.take (Int.toNat (IntKind.wrap IntKind.i64 ((↑(List.length open_s) : Int) - 1))) open_s ++ [List.getD open_s (Int.toNat (IntKind.wrap IntKind.i64 ((↑(List.length open_s) : Int) - 1))) ByteArray.empty ++ { data := #[117] }, List.getD open_s (Int.toNat (IntKind.wrap IntKind.i64 ((↑(List.length open_s) : Int) - 1))) ByteArray.empty ++ { data := #[108] }]) (outs ++ [List.getD open_s (Int.toNat (IntKind.wrap IntKind.i64 ((↑(List.length open_s) : Int) - 1))) ByteArray.empty]) t9 t10 (IntKind.wrap IntKind.i64 (t11 + 1))
                    else
                      none
                  else
                    none
                else
                  none
              else
                rec1004 (List.take (Int.toNat (IntKind.wrap IntKind.i64 ((↑(List.length open_s) : Int) - 1))) open_s) (outs ++ [List.getD open_s (Int.toNat (IntKind.wrap IntKind.i64 ((↑(List.length open_s) : Int) - 1))) ByteArray.empty]) t9 t10 (IntKind.wrap IntKind.i64 (t11 + 1))
            else
              none
          else
            none
        else
          none
      else
        none
    else
      none
  else
    some outs
noncomputable def F93 (k : Nat) (rec1004 : List ByteArray → List ByteArray → List (Int × Int) → Int → Int → Option (List (ByteArray))) (l : List (Int × Int)) : Option (List (ByteArray)) :=
  rec1004 ([{ data := #[] }]) ([]) l ((↑(List.length l) : Int)) (0)
noncomputable def l93 : Nat → (List ByteArray → List ByteArray → List (Int × Int) → Int → Int → Option (List (ByteArray)))
  | 0 => fun _ _ _ _ _ => none
  | k + 1 => F93_1004 k (l93 k)
noncomputable def f93 (k : Nat) (l : List (Int × Int)) : Option (List (ByteArray)) := F93 k (l93 k) l
noncomputable def s93 : Spec := ⟨false, [(.slice 9 (.str), false)], true, .slice 9 (.str), fun k xs => match xs with | [.slc 63 (.pair (.int .i64) (.int .i64)) l] => f93 k l | _ => none, false⟩
noncomputable def env51 : List (FuncId × Spec) := (93, s93) :: env50
noncomputable abbrev x93 := exec tiC (envOf env50) 42 h93 (finT tiC true Go.Proofs.Try.f93.results.toList [(.slice 9 (.str), false)] (.slice 9 (.str)))
noncomputable def k93_1004 : List It := stackAt [.r, .r, .r, .l, .r, .b, .lb none] (bodyOf Go.Proofs.Try.f93) []
def t93_1004 (open_s : List ByteArray) (outs : List ByteArray) (t9 : List (Int × Int)) (t10 : Int) (t11 : Int) : St := [(6, Cell.val (AVal.ref 3 none)), (3, Cell.row true 9 Ty.str open_s), (8, Cell.val (AVal.ref 5 none)), (5, Cell.row true 9 Ty.str outs), (18, Cell.val (AVal.slc 63 (Ty.pair (Ty.int IntKind.i64) (Ty.int IntKind.i64)) t9)), (20, Cell.val (AVal.int IntKind.i64 t10)), (22, Cell.val (AVal.int IntKind.i64 t11))]
theorem e93_1004 (k : Nat) (open_s : List ByteArray) (outs : List ByteArray) (t9 : List (Int × Int)) (t10 : Int) (t11 : Int) : x93 (k + 1) k93_1004 (t93_1004 open_s outs t9 t10 t11) = F93_1004 k (fun (open_s : List ByteArray) (outs : List ByteArray) (t9 : List (Int × Int)) (t10 : Int) (t11 : Int) => x93 k k93_1004 (t93_1004 open_s outs t9 t10 t11)) open_s outs t9 t10 t11 := by kernel_rfl
theorem q93 : ∀ k : Nat, (fun (open_s : List ByteArray) (outs : List ByteArray) (t9 : List (Int × Int)) (t10 : Int) (t11 : Int) => x93 k k93_1004 (t93_1004 open_s outs t9 t10 t11)) = l93 k
  | 0 => rfl
  | k + 1 => by
    have h := q93 k
    show _ = F93_1004 k (l93 k)
    rw [← h]
    exact (funext fun open_s => funext fun outs => funext fun t9 => funext fun t10 => funext fun t11 => e93_1004 k open_s outs t9 t10 t11)
theorem w93 (k : Nat) (l : List (Int × Int)) : runFn tiC (envOf env50) 42 h93 (finT tiC true Go.Proofs.Try.f93.results.toList [(.slice 9 (.str), false)] (.slice 9 (.str))) k (bodyOf Go.Proofs.Try.f93) (initS 0 [.slc 63 (.pair (.int .i64) (.int .i64)) l]) = F93 k (fun (open_s : List ByteArray) (outs : List ByteArray) (t9 : List (Int × Int)) (t10 : Int) (t11 : Int) => x93 k k93_1004 (t93_1004 open_s outs t9 t10 t11)) l := by kernel_rfl
theorem v93 (k : Nat) (l : List (Int × Int)) : runFn tiC (envOf env50) 42 h93 (finT tiC true Go.Proofs.Try.f93.results.toList [(.slice 9 (.str), false)] (.slice 9 (.str))) k (bodyOf Go.Proofs.Try.f93) (initS 0 [.slc 63 (.pair (.int .i64) (.int .i64)) l]) = f93 k l := by
  rw [w93]
  have h := q93 k
  unfold f93
  rw [← h]
theorem m93 : Meets Go.Proofs.Try.prog 93 s93 := meets_of_run tiCOk env50_ok mo Go.Proofs.Try.func93 (body := bodyOf Go.Proofs.Try.f93) (by kernel_rfl) (N := 42) (by kernel_rfl) (hs := h93) (by
  intro k xs r h
  unfold s93 at h
  dsimp only at h
  split at h
  · exact ⟨Nat.le_of_ble_eq_true rfl, (v93 k _).trans h⟩
  · cases h)
theorem env51_ok : EnvOk Go.Proofs.Try.prog (envOf env51) := envOf_cons m93 Go.Proofs.Try.func93 (by kernel_rfl) (by kernel_rfl) env50_ok

-- impl.isNode
noncomputable def f94 (k : Nat) (n_Kind : Int) (n_Number : Int) (sides : Int) : Option (Bool) :=
  bif decide (n_Kind = 0) then
    (f91 k n_Number 0 (IntKind.wrap IntKind.i64 (sides - 1))).bind fun r0 =>
    some r0
  else
    bif decide (n_Kind = 1) then
      bif decide (n_Kind = 1) then
        (f91 k n_Number 0 99).bind fun r1 =>
        some r1
      else
        bif decide (n_Kind = 3) then
          some (decide (n_Number = 0))
        else
          some false
    else
      bif decide (n_Kind = 2) then
        (f91 k n_Number 0 99).bind fun r2 =>
        some r2
      else
        bif decide (n_Kind = 3) then
          some (decide (n_Number = 0))
        else
          some false
noncomputable def s94 : Spec := ⟨false, [(.bool, false)], true, .bool, fun k xs => match xs with | [.agg [.int .i64 n_Kind, .int .i64 n_Number], .int .i64 sides] => f94 k n_Kind n_Number sides | _ => none, false⟩
noncomputable def env52 : List (FuncId × Spec) := (94, s94) :: env51
theorem v94 (k : Nat) (n_Kind : Int) (n_Number : Int) (sides : Int) : runFn ti (envOf env51) 25 [] (finT ti true Go.Proofs.Try.f94.results.toList [(.bool, false)] (.bool)) k (bodyOf Go.Proofs.Try.f94) (initS 0 [.agg [.int .i64 n_Kind, .int .i64 n_Number], .int .i64 sides]) = f94 k n_Kind n_Number sides := by kernel_rfl
theorem m94 : Meets Go.Proofs.Try.prog 94 s94 := meets_of_run tiOk env51_ok mo Go.Proofs.Try.func94 (body := bodyOf Go.Proofs.Try.f94) (by kernel_rfl) (N := 25) (by kernel_rfl) (hs := []) (by
  intro k xs r h
  unfold s94 at h
  dsimp only at h
  split at h
  · exact ⟨Nat.le_of_ble_eq_true rfl, (v94 k _ _ _).trans h⟩
  · cases h)
theorem env52_ok : EnvOk Go.Proofs.Try.prog (envOf env52) := envOf_cons m94 Go.Proofs.Try.func94 (by kernel_rfl) (by kernel_rfl) env51_ok

-- impl.isTree
def h61 : Hints := [(1004, .lab [(0, .one (.frz 63 (Ty.pair (Ty.int IntKind.i64) (Ty.int IntKind.i64)))), (1, .one (.v)), (23, .one (.own 9 Ty.str)), (24, .one (.v)), (25, .one (.v))])]
noncomputable def F61_1004 (k : Nat) (rec1004 : List (Int × Int) → Int → List ByteArray → Int → Int → Option (Bool)) (l : List (Int × Int)) (sides : Int) (t23s : List ByteArray) (t24 : Int) (t25 : Int) : Option (Bool) :=
  bif decide (t25 < t24) then
    bif boundA t25 (List.length t23s) then
      bif Nat.blt (Int.toNat t25) (List.length t23s) then
        bif boundA t25 (List.length l) then
          (f94 k (List.getD l (Int.toNat t25) (0, 0)).fst (List.getD l (Int.toNat t25) (0, 0)).snd sides).bind fun r0 =>
          bif !r0 then
            some false
          else
            bif decide (20 < (↑(ByteArray.size (List.getD t23s (Int.toNat t25) ByteArray.empty)) : Int)) then
              some false
            else
              rec1004 l sides t23s t24 (IntKind.wrap IntKind.i64 (t25 + 1))
        else
          none
      else
        none
    else
      none
  else
    some true
noncomputable def F61 (k : Nat) (rec1004 : List (Int × Int) → Int → List ByteArray → Int → Int → Option (Bool)) (l : List (Int × Int)) (sides : Int) : Option (Bool) :=
  (f91 k sides 1 3).bind fun r0 =>
  bif !r0 then
    some false
  else
    bif decide (200 < (↑(List.length l) : Int)) then
      some false
    else
      (f92 k l 0).bind fun r1 =>
      bif !decide (r1 = (↑(List.length l) : Int)) then
        some false
      else
        (f93 k l).bind fun r2 =>
        rec1004 l sides r2 ((↑(List.length r2) : Int)) (0)
noncomputable def l61 : Nat → (List (Int × Int) → Int → List ByteArray → Int → Int → Option (Bool))
  | 0 => fun _ _ _ _ _ => none
  | k + 1 => F61_1004 k (l61 k)
noncomputable def f61 (k : Nat) (l : List (Int × Int)) (sides : Int) : Option (Bool) := F61 k (l61 k) l sides
noncomputable def s61 : Spec := ⟨false, [(.bool, false)], true, .bool, fun k xs => match xs with | [.slc 63 (.pair (.int .i64) (.int .i64)) l, .int .i64 sides] => f61 k l sides | _ => none, false⟩
noncomputable def env53 : List (FuncId × Spec) := (61, s61) :: env52
noncomputable abbrev x61 := exec ti (envOf env52) 43 h61 (finT ti true Go.Proofs.Try.f61.results.toList [(.bool, false)] (.bool))
noncomputable def k61_1004 : List It := stackAt [.r, .r, .l, .r, .b, .lb none] (bodyOf Go.Proofs.Try.f61) []
def t61_1004 (l : List (Int × Int)) (sides : Int) (t23s : List ByteArray) (t24 : Int) (t25 : Int) : St := [(0, Cell.val (AVal.slc 63 (Ty.pair (Ty.int IntKind.i64) (Ty.int IntKind.i64)) l)), (2, Cell.val (AVal.int IntKind.i64 sides)), (46, Cell.val (AVal.ref 3 none)), (3, Cell.row true 9 Ty.str t23s), (48, Cell.val (AVal.int IntKind.i64 t24)), (50, Cell.val (AVal.int IntKind.i64 t25))]
theorem e61_1004 (k : Nat) (l : List (Int × Int)) (sides : Int) (t23s : List ByteArray) (t24 : Int) (t25 : Int) : x61 (k + 1) k61_1004 (t61_1004 l sides t23s t24 t25) = F61_1004 k (fun (l : List (Int × Int)) (sides : Int) (t23s : List ByteArray) (t24 : Int) (t25 : Int) => x61 k k61_1004 (t61_1004 l sides t23s t24 t25)) l sides t23s t24 t25 := by kernel_rfl
theorem q61 : ∀ k : Nat, (fun (l : List (Int × Int)) (sides : Int) (t23s : List ByteArray) (t24 : Int) (t25 : Int) => x61 k k61_1004 (t61_1004 l sides t23s t24 t25)) = l61 k
  | 0 => rfl
  | k + 1 => by
    have h := q61 k
    show _ = F61_1004 k (l61 k)
    rw [← h]
    exact (funext fun l => funext fun sides => funext fun t23s => funext fun t24 => funext fun t25 => e61_1004 k l sides t23s t24 t25)
theorem w61 (k : Nat) (l : List (Int × Int)) (sides : Int) : runFn ti (envOf env52) 43 h61 (finT ti true Go.Proofs.Try.f61.results.toList [(.bool, false)] (.bool)) k (bodyOf Go.Proofs.Try.f61) (initS 0 [.slc 63 (.pair (.int .i64) (.int .i64)) l, .int .i64 sides]) = F61 k (fun (l : List (Int × Int)) (sides : Int) (t23s : List ByteArray) (t24 : Int) (t25 : Int) => x61 k k61_1004 (t61_1004 l sides t23s t24 t25)) l sides := by kernel_rfl
theorem v61 (k : Nat) (l : List (Int × Int)) (sides : Int) : runFn ti (envOf env52) 43 h61 (finT ti true Go.Proofs.Try.f61.results.toList [(.bool, false)] (.bool)) k (bodyOf Go.Proofs.Try.f61) (initS 0 [.slc 63 (.pair (.int .i64) (.int .i64)) l, .int .i64 sides]) = f61 k l sides := by
  rw [w61]
  have h := q61 k
  unfold f61
  rw [← h]
theorem m61 : Meets Go.Proofs.Try.prog 61 s61 := meets_of_run tiOk env52_ok mo Go.Proofs.Try.func61 (body := bodyOf Go.Proofs.Try.f61) (by kernel_rfl) (N := 43) (by kernel_rfl) (hs := h61) (by
  intro k xs r h
  unfold s61 at h
  dsimp only at h
  split at h
  · exact ⟨Nat.le_of_ble_eq_true rfl, (v61 k _ _).trans h⟩
  · cases h)
theorem env53_ok : EnvOk Go.Proofs.Try.prog (envOf env53) := envOf_cons m61 Go.Proofs.Try.func61 (by kernel_rfl) (by kernel_rfl) env52_ok

-- impl.treeFits
noncomputable def f44 (k : Nat) (b : Int × (List (Int)) × List (Int)) (l : List (Int × Int)) : Option (Bool) :=
  (f60 k b).bind fun r0 =>
  bif !r0 then
    some false
  else
    (f61 k l (↑(List.length b.snd.fst) : Int)).bind fun r1 =>
    bif !r1 then
      some false
    else
      (f45 k b l).bind fun r2 =>
      some (r2.snd)
noncomputable def s44 : Spec := ⟨false, [(.bool, false)], true, .bool, fun k xs => match xs with | [.fptr (.pair (.int .i64) (.pair (.slice 3 (.int .i64)) (.slice 3 (.int .i64)))) b, .slc 63 (.pair (.int .i64) (.int .i64)) l] => f44 k b l | _ => none, false⟩
noncomputable def env54 : List (FuncId × Spec) := (44, s44) :: env53
theorem v44 (k : Nat) (b : Int × (List (Int)) × List (Int)) (l : List (Int × Int)) : runFn ti (envOf env53) 27 [] (finT ti true Go.Proofs.Try.f44.results.toList [(.bool, false)] (.bool)) k (bodyOf Go.Proofs.Try.f44) (initS 0 [.fptr (.pair (.int .i64) (.pair (.slice 3 (.int .i64)) (.slice 3 (.int .i64)))) b, .slc 63 (.pair (.int .i64) (.int .i64)) l]) = f44 k b l := by kernel_rfl
theorem m44 : Meets Go.Proofs.Try.prog 44 s44 := meets_of_run tiOk env53_ok mo Go.Proofs.Try.func44 (body := bodyOf Go.Proofs.Try.f44) (by kernel_rfl) (N := 27) (by kernel_rfl) (hs := []) (by
  intro k xs r h
  unfold s44 at h
  dsimp only at h
  split at h
  · exact ⟨Nat.le_of_ble_eq_true rfl, (v44 k _ _).trans h⟩
  · cases h)
theorem env54_ok : EnvOk Go.Proofs.Try.prog (envOf env54) := envOf_cons m44 Go.Proofs.Try.func44 (by kernel_rfl) (by kernel_rfl) env53_ok

-- cmp.Or[int]
def h115 : Hints := [(1003, .lab [(3, .one (.v)), (6, .one (.frz 3 (Ty.int IntKind.i64))), (7, .one (.v)), (8, .one (.v))])]
noncomputable def F115_1003 (k : Nat) (rec1003 : Int → List Int → Int → Int → Option (Int)) (zero : Int) (t6 : List Int) (t7 : Int) (t8 : Int) : Option (Int) :=
  bif decide (t8 < t7) then
    bif boundA t8 (List.length t6) then
      bif !decide (List.getD t6 (Int.toNat t8) 0 = zero) then
        some (List.getD t6 (Int.toNat t8) 0)
      else
        rec1003 zero t6 t7 (IntKind.wrap IntKind.i64 (t8 + 1))
    else
      none
  else
    some zero
noncomputable def F115 (k : Nat) (rec1003 : Int → List Int → Int → Int → Option (Int)) (vals : List (Int)) : Option (Int) :=
  rec1003 (0) vals ((↑(List.length vals) : Int)) (0)
noncomputable def l115 : Nat → (Int → List Int → Int → Int → Option (Int))
  | 0 => fun _ _ _ _ => none
  | k + 1 => F115_1003 k (l115 k)
noncomputable def f115 (k : Nat) (vals : List (Int)) : Option (Int) := F115 k (l115 k) vals
noncomputable def s115 : Spec := ⟨false, [(.int .i64, false)], true, .int .i64, fun k xs => match xs with | [.slc 3 (.int .i64) vals] => f115 k vals | _ => none, false⟩
noncomputable def env55 : List (FuncId × Spec) := (115, s115) :: env54
noncomputable abbrev x115 := exec ti (envOf env54) 18 h115 (finT ti true Go.Proofs.Try.f115.results.toList [(.int .i64, false)] (.int .i64))
noncomputable def k115_1003 : List It := stackAt [.r, .r, .l, .r, .b, .lb none] (bodyOf Go.Proofs.Try.f115) []
def t115_1003 (zero : Int) (t6 : List Int) (t7 : Int) (t8 : Int) : St := [(6, Cell.val (AVal.int IntKind.i64 zero)), (12, Cell.val (AVal.slc 3 (Ty.int IntKind.i64) t6)), (14, Cell.val (AVal.int IntKind.i64 t7)), (16, Cell.val (AVal.int IntKind.i64 t8))]
theorem e115_1003 (k : Nat) (zero : Int) (t6 : List Int) (t7 : Int) (t8 : Int) : x115 (k + 1) k115_1003 (t115_1003 zero t6 t7 t8) = F115_1003 k (fun (zero : Int) (t6 : List Int) (t7 : Int) (t8 : Int) => x115 k k115_1003 (t115_1003 zero t6 t7 t8)) zero t6 t7 t8 := by kernel_rfl
theorem q115 : ∀ k : Nat, (fun (zero : Int) (t6 : List Int) (t7 : Int) (t8 : Int) => x115 k k115_1003 (t115_1003 zero t6 t7 t8)) = l115 k
  | 0 => rfl
  | k + 1 => by
    have h := q115 k
    show _ = F115_1003 k (l115 k)
    rw [← h]
    exact (funext fun zero => funext fun t6 => funext fun t7 => funext fun t8 => e115_1003 k zero t6 t7 t8)
theorem w115 (k : Nat) (vals : List (Int)) : runFn ti (envOf env54) 18 h115 (finT ti true Go.Proofs.Try.f115.results.toList [(.int .i64, false)] (.int .i64)) k (bodyOf Go.Proofs.Try.f115) (initS 0 [.slc 3 (.int .i64) vals]) = F115 k (fun (zero : Int) (t6 : List Int) (t7 : Int) (t8 : Int) => x115 k k115_1003 (t115_1003 zero t6 t7 t8)) vals := by kernel_rfl
theorem v115 (k : Nat) (vals : List (Int)) : runFn ti (envOf env54) 18 h115 (finT ti true Go.Proofs.Try.f115.results.toList [(.int .i64, false)] (.int .i64)) k (bodyOf Go.Proofs.Try.f115) (initS 0 [.slc 3 (.int .i64) vals]) = f115 k vals := by
  rw [w115]
  have h := q115 k
  unfold f115
  rw [← h]
theorem m115 : Meets Go.Proofs.Try.prog 115 s115 := meets_of_run tiOk env54_ok mo Go.Proofs.Try.func115 (body := bodyOf Go.Proofs.Try.f115) (by kernel_rfl) (N := 18) (by kernel_rfl) (hs := h115) (by
  intro k xs r h
  unfold s115 at h
  dsimp only at h
  split at h
  · exact ⟨Nat.le_of_ble_eq_true rfl, (v115 k _).trans h⟩
  · cases h)
theorem env55_ok : EnvOk Go.Proofs.Try.prog (envOf env55) := envOf_cons m115 Go.Proofs.Try.func115 (by kernel_rfl) (by kernel_rfl) env54_ok

-- cmp.isNaN[uint64]
noncomputable def f125 (k : Nat) (x : Int) : Option (Bool) :=
  some (!decide (x = x))
noncomputable def s125 : Spec := ⟨false, [(.bool, false)], true, .bool, fun k xs => match xs with | [.int .u64 x] => f125 k x | _ => none, false⟩
noncomputable def env56 : List (FuncId × Spec) := (125, s125) :: env55
theorem v125 (k : Nat) (x : Int) : runFn ti (envOf env55) 6 [] (finT ti true Go.Proofs.Try.f125.results.toList [(.bool, false)] (.bool)) k (bodyOf Go.Proofs.Try.f125) (initS 0 [.int .u64 x]) = f125 k x := by kernel_rfl
theorem m125 : Meets Go.Proofs.Try.prog 125 s125 := meets_of_run tiOk env55_ok mo Go.Proofs.Try.func125 (body := bodyOf Go.Proofs.Try.f125) (by kernel_rfl) (N := 6) (by kernel_rfl) (hs := []) (by
  intro k xs r h
  unfold s125 at h
  dsimp only at h
  split at h
  · exact ⟨Nat.le_of_ble_eq_true rfl, (v125 k _).trans h⟩
  · cases h)
theorem env56_ok : EnvOk Go.Proofs.Try.prog (envOf env56) := envOf_cons m125 Go.Proofs.Try.func125 (by kernel_rfl) (by kernel_rfl) env55_ok

-- cmp.Compare[uint64]
noncomputable def f116 (k : Nat) (x : Int) (y : Int) : Option (Int) :=
  bif !decide (x = x) then
    bif !decide (y = y) then
      some (0)
    else
      some (-1)
  else
    bif !decide (y = y) then
      some (1)
    else
      bif decide (x < y) then
        some (-1)
      else
        bif decide (y < x) then
          some (1)
        else
          some (0)
noncomputable def s116 : Spec := ⟨false, [(.int .i64, false)], true, .int .i64, fun k xs => match xs with | [.int .u64 x, .int .u64 y] => f116 k x y | _ => none, false⟩
noncomputable def env57 : List (FuncId × Spec) := (116, s116) :: env56
theorem v116 (k : Nat) (x : Int) (y : Int) : runFn ti (envOf env56) 20 [] (finT ti true Go.Proofs.Try.f116.results.toList [(.int .i64, false)] (.int .i64)) k (bodyOf Go.Proofs.Try.f116) (initS 0 [.int .u64 x, .int .u64 y]) = f116 k x y := by kernel_rfl
theorem m116 : Meets Go.Proofs.Try.prog 116 s116 := meets_of_run tiOk env56_ok mo Go.Proofs.Try.func116 (body := bodyOf Go.Proofs.Try.f116) (by kernel_rfl) (N := 20) (by kernel_rfl) (hs := []) (by
  intro k xs r h
  unfold s116 at h
  dsimp only at h
  split at h
  · exact ⟨Nat.le_of_ble_eq_true rfl, (v116 k _ _).trans h⟩
  · cases h)
theorem env57_ok : EnvOk Go.Proofs.Try.prog (envOf env57) := envOf_cons m116 Go.Proofs.Try.func116 (by kernel_rfl) (by kernel_rfl) env56_ok

-- impl.compareSizes
noncomputable def f98 (k : Nat) (a_negative : Bool) (a_high : Int) (a_low : Int) (b_negative : Bool) (b_high : Int) (b_low : Int) : Option (Int) :=
  (f116 k a_high b_high).bind fun r0 =>
  (f116 k a_low b_low).bind fun r1 =>
  (f115 k [r0, r1]).bind fun r2 =>
  some r2
noncomputable def s98 : Spec := ⟨false, [(.int .i64, false)], true, .int .i64, fun k xs => match xs with | [.agg [.bool a_negative, .int .u64 a_high, .int .u64 a_low], .agg [.bool b_negative, .int .u64 b_high, .int .u64 b_low]] => f98 k a_negative a_high a_low b_negative b_high b_low | _ => none, false⟩
noncomputable def env58 : List (FuncId × Spec) := (98, s98) :: env57
theorem v98 (k : Nat) (a_negative : Bool) (a_high : Int) (a_low : Int) (b_negative : Bool) (b_high : Int) (b_low : Int) : runFn ti (envOf env57) 17 [] (finT ti true Go.Proofs.Try.f98.results.toList [(.int .i64, false)] (.int .i64)) k (bodyOf Go.Proofs.Try.f98) (initS 0 [.agg [.bool a_negative, .int .u64 a_high, .int .u64 a_low], .agg [.bool b_negative, .int .u64 b_high, .int .u64 b_low]]) = f98 k a_negative a_high a_low b_negative b_high b_low := by kernel_rfl
theorem m98 : Meets Go.Proofs.Try.prog 98 s98 := meets_of_run tiOk env57_ok mo Go.Proofs.Try.func98 (body := bodyOf Go.Proofs.Try.f98) (by kernel_rfl) (N := 17) (by kernel_rfl) (hs := []) (by
  intro k xs r h
  unfold s98 at h
  dsimp only at h
  split at h
  · exact ⟨Nat.le_of_ble_eq_true rfl, (v98 k _ _ _ _ _ _).trans h⟩
  · cases h)
theorem env58_ok : EnvOk Go.Proofs.Try.prog (envOf env58) := envOf_cons m98 Go.Proofs.Try.func98 (by kernel_rfl) (by kernel_rfl) env57_ok

-- impl.wide).isZero
noncomputable def f113 (k : Nat) (w_negative : Bool) (w_high : Int) (w_low : Int) : Option (Bool) :=
  bif decide (w_high = 0) then
    some (decide (w_low = 0))
  else
    some false
noncomputable def s113 : Spec := ⟨false, [(.bool, false)], true, .bool, fun k xs => match xs with | [.agg [.bool w_negative, .int .u64 w_high, .int .u64 w_low]] => f113 k w_negative w_high w_low | _ => none, false⟩
noncomputable def env59 : List (FuncId × Spec) := (113, s113) :: env58
theorem v113 (k : Nat) (w_negative : Bool) (w_high : Int) (w_low : Int) : runFn ti (envOf env58) 11 [] (finT ti true Go.Proofs.Try.f113.results.toList [(.bool, false)] (.bool)) k (bodyOf Go.Proofs.Try.f113) (initS 0 [.agg [.bool w_negative, .int .u64 w_high, .int .u64 w_low]]) = f113 k w_negative w_high w_low := by kernel_rfl
theorem m113 : Meets Go.Proofs.Try.prog 113 s113 := meets_of_run tiOk env58_ok mo Go.Proofs.Try.func113 (body := bodyOf Go.Proofs.Try.f113) (by kernel_rfl) (N := 11) (by kernel_rfl) (hs := []) (by
  intro k xs r h
  unfold s113 at h
  dsimp only at h
  split at h
  · exact ⟨Nat.le_of_ble_eq_true rfl, (v113 k _ _ _).trans h⟩
  · cases h)
theorem env59_ok : EnvOk Go.Proofs.Try.prog (envOf env59) := envOf_cons m113 Go.Proofs.Try.func113 (by kernel_rfl) (by kernel_rfl) env58_ok

-- impl.compareWide
noncomputable def f86 (k : Nat) (a_negative : Bool) (a_high : Int) (a_low : Int) (b_negative : Bool) (b_high : Int) (b_low : Int) : Option (Int) :=
  (f113 k a_negative a_high a_low).bind fun r0 =>
  bif r0 then
    (f113 k b_negative b_high b_low).bind fun r1 =>
    bif r1 then
      some (0)
    else
      bif !a_negative == b_negative then
        bif a_negative then
          some (-1)
        else
          some (1)
      else
        bif a_negative then
          (f98 k b_negative b_high b_low a_negative a_high a_low).bind fun r2 =>
          some r2
        else
          (f98 k a_negative a_high a_low b_negative b_high b_low).bind fun r3 =>
          some r3
  else
    bif !a_negative == b_negative then
      bif a_negative then
        some (-1)
      else
        some (1)
    else
      bif a_negative then
        (f98 k b_negative b_high b_low a_negative a_high a_low).bind fun r4 =>
        some r4
      else
        (f98 k a_negative a_high a_low b_negative b_high b_low).bind fun r5 =>
        some r5
noncomputable def s86 : Spec := ⟨false, [(.int .i64, false)], true, .int .i64, fun k xs => match xs with | [.agg [.bool a_negative, .int .u64 a_high, .int .u64 a_low], .agg [.bool b_negative, .int .u64 b_high, .int .u64 b_low]] => f86 k a_negative a_high a_low b_negative b_high b_low | _ => none, false⟩
noncomputable def env60 : List (FuncId × Spec) := (86, s86) :: env59
theorem v86 (k : Nat) (a_negative : Bool) (a_high : Int) (a_low : Int) (b_negative : Bool) (b_high : Int) (b_low : Int) : runFn ti (envOf env59) 29 [] (finT ti true Go.Proofs.Try.f86.results.toList [(.int .i64, false)] (.int .i64)) k (bodyOf Go.Proofs.Try.f86) (initS 0 [.agg [.bool a_negative, .int .u64 a_high, .int .u64 a_low], .agg [.bool b_negative, .int .u64 b_high, .int .u64 b_low]]) = f86 k a_negative a_high a_low b_negative b_high b_low := by kernel_rfl
theorem m86 : Meets Go.Proofs.Try.prog 86 s86 := meets_of_run tiOk env59_ok mo Go.Proofs.Try.func86 (body := bodyOf Go.Proofs.Try.f86) (by kernel_rfl) (N := 29) (by kernel_rfl) (hs := []) (by
  intro k xs r h
  unfold s86 at h
  dsimp only at h
  split at h
  · exact ⟨Nat.le_of_ble_eq_true rfl, (v86 k _ _ _ _ _ _).trans h⟩
  · cases h)
theorem env60_ok : EnvOk Go.Proofs.Try.prog (envOf env60) := envOf_cons m86 Go.Proofs.Try.func86 (by kernel_rfl) (by kernel_rfl) env59_ok

end Go.Proofs.YtkahcjnkmbbplaaE
