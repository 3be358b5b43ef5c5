/- Functions, by the engine; printed. -/
import Derived.Test.YtnndolcjljhhcaaG2
set_option maxRecDepth 100000
set_option maxHeartbeats 4000000
set_option linter.unusedVariables false
namespace Go.Proofs.YtnndolcjljhhcaaE
-- laws.roomBehind
def f65 (k : Nat) (n : Int) : Option (Int) :=
  bif decide (Int.tmod n 6 = 5) then
    some (0)
  else
    bif decide (Int.tmod n 3 = 0) then
      some (1)
    else
      some n
def s65 : Spec := ⟨false, [(.int .i64, false)], true, .int .i64, fun k xs => match xs with | [.int .i64 n] => f65 k n | _ => none⟩
def env21 : List (FuncId × Spec) := (65, s65) :: env20
theorem v65 (k : Nat) (n : Int) : runFn ti (envOf env20) 10 [] (finT ti true Go.Proofs.Try.f65.results.toList [(.int .i64, false)] (.int .i64)) k (bodyOf Go.Proofs.Try.f65) (initS 0 [.int .i64 n]) = f65 k n := by kernel_rfl
theorem m65 : Meets Go.Proofs.Try.prog 65 s65 := meets_of_run tiOk env20_ok mo Go.Proofs.Try.func65 (body := bodyOf Go.Proofs.Try.f65) (by kernel_rfl) (N := 10) (by kernel_rfl) (hs := []) (by
  intro k xs r h
  unfold s65 at h
  dsimp only at h
  split at h
  · exact ⟨Nat.le_of_ble_eq_true rfl, (v65 k _).trans h⟩
  · cases h)
theorem env21_ok : EnvOk Go.Proofs.Try.prog (envOf env21) := envOf_cons m65 Go.Proofs.Try.func65 (by kernel_rfl) (by kernel_rfl) env20_ok

-- laws.toIntS
def h15 : Hints := [(1005, .lab [(0, .one (.frz 3 (Ty.int IntKind.i64))), (5, .one (.own 3 (Ty.int IntKind.i64))), (6, .one (.v))]), (1009, .lab [(0, .one (.frz 3 (Ty.int IntKind.i64))), (5, .one (.own 3 (Ty.int IntKind.i64))), (7, .one (.v))])]
def F15_1005 (k : Nat) (rec1005 : List Int → List Int → Int → Option (List (Int) × Nat)) (rec1009 : List Int → List Int → Int → Option (List (Int) × Nat)) (a : List Int) (outs : List Int) (i : Int) : Option (List (Int) × Nat) :=
  bif decide (i < (↑(List.length a) : Int)) then
    bif boundA i (List.length a) then
      bif boundA i (List.length outs) then
        bif Nat.blt (Int.toNat i) (List.length outs) then
          rec1005 a (List.set outs (Int.toNat i) (List.getD a (Int.toNat i) 0)) (IntKind.wrap IntKind.i64 (i + 1))
        else
          none
      else
        none
    else
      none
  else
    rec1009 a outs ((↑(List.length a) : Int))
def F15_1009 (k : Nat) (rec1005 : List Int → List Int → Int → Option (List (Int) × Nat)) (rec1009 : List Int → List Int → Int → Option (List (Int) × Nat)) (a : List Int) (outs : List Int) (i : Int) : Option (List (Int) × Nat) :=
  bif decide (i < (↑(List.length outs) : Int)) then
    bif boundA i (List.length outs) then
      bif Nat.blt (Int.toNat i) (List.length outs) then
        rec1009 a (List.set outs (Int.toNat i) (-7000000000000000101)) (IntKind.wrap IntKind.i64 (i + 1))
      else
        none
    else
      none
  else
    bif boundE (↑(List.length a) : Int) (List.length outs) then
      some ((outs, Option.getD (some (Int.toNat (↑(List.length a) : Int))) (List.length outs)))
    else
      none
def F15 (k : Nat) (rec1005 : List Int → List Int → Int → Option (List (Int) × Nat)) (rec1009 : List Int → List Int → Int → Option (List (Int) × Nat)) (a : List (Int)) (bare : Bool) : Option (List (Int) × Nat) :=
  bif bare then
    bif decide ((↑(List.length a) : Int) = 0) then
      some (([], 0))
    else
      (f65 k (↑(List.length a) : Int)).bind fun r0 =>
      bif decide (0 ≤ IntKind.wrap IntKind.i64 ((↑(List.length a) : Int) + r0)) then
        bif decide (IntKind.wrap IntKind.i64 ((↑(List.length a) : Int) + r0) ≤ IntKind.wrap IntKind.i64 ((↑(List.length a) : Int) + r0)) then
          bif decide (IntKind.wrap IntKind.i64 ((↑(List.length a) : Int) + r0) * (↑8 : Int) ≤ 140737488355328) then
            rec1005 a (List.replicate (Int.toNat (IntKind.wrap IntKind.i64 ((↑(List.length a) : Int) + r0))) (dflt (Ty.int IntKind.i64))) (0)
          else
            none
        else
          none
      else
        none
  else
    (f65 k (↑(List.length a) : Int)).bind fun r1 =>
    bif decide (0 ≤ IntKind.wrap IntKind.i64 ((↑(List.length a) : Int) + r1)) then
      bif decide (IntKind.wrap IntKind.i64 ((↑(List.length a) : Int) + r1) ≤ IntKind.wrap IntKind.i64 ((↑(List.length a) : Int) + r1)) then
        bif decide (IntKind.wrap IntKind.i64 ((↑(List.length a) : Int) + r1) * (↑8 : Int) ≤ 140737488355328) then
          rec1005 a (List.replicate (Int.toNat (IntKind.wrap IntKind.i64 ((↑(List.length a) : Int) + r1))) (dflt (Ty.int IntKind.i64))) (0)
        else
          none
      else
        none
    else
      none
def l15 : Nat → (List Int → List Int → Int → Option (List (Int) × Nat)) × (List Int → List Int → Int → Option (List (Int) × Nat))
  | 0 => (fun _ _ _ => none, fun _ _ _ => none)
  | k + 1 => (F15_1005 k ((l15 k).1) ((l15 k).2), F15_1009 k ((l15 k).1) ((l15 k).2))
def f15 (k : Nat) (a : List (Int)) (bare : Bool) : Option (List (Int) × Nat) := F15 k ((l15 k).1) ((l15 k).2) a bare
def s15 : Spec := ⟨false, [(.vslice 3 (.int .i64), false)], true, .vslice 3 (.int .i64), fun k xs => match xs with | [.slc 3 (.int .i64) a, .bool bare] => f15 k a bare | _ => none⟩
def env22 : List (FuncId × Spec) := (15, s15) :: env21
noncomputable abbrev x15 := exec tiV (envOf env21) 49 h15 (finT tiV true Go.Proofs.Try.f15.results.toList [(.vslice 3 (.int .i64), false)] (.vslice 3 (.int .i64)))
noncomputable def k15_1005 : List It := stackAt [.r, .r, .r, .l, .r, .b, .lb none] (bodyOf Go.Proofs.Try.f15) []
def t15_1005 (a : List Int) (outs : List Int) (i : Int) : St := [(0, Cell.val (AVal.slc 3 (Ty.int IntKind.i64) a)), (10, Cell.val (AVal.ref 3 none)), (3, Cell.row true 3 (Ty.int IntKind.i64) outs), (12, Cell.val (AVal.int IntKind.i64 i))]
noncomputable def k15_1009 : List It := stackAt [.r, .r, .r, .r, .l, .r, .b, .lb none] (bodyOf Go.Proofs.Try.f15) []
def t15_1009 (a : List Int) (outs : List Int) (i : Int) : St := [(0, Cell.val (AVal.slc 3 (Ty.int IntKind.i64) a)), (10, Cell.val (AVal.ref 3 none)), (3, Cell.row true 3 (Ty.int IntKind.i64) outs), (14, Cell.val (AVal.int IntKind.i64 i))]
theorem e15_1005 (k : Nat) (a : List Int) (outs : List Int) (i : Int) : x15 (k + 1) k15_1005 (t15_1005 a outs i) = F15_1005 k (fun (a : List Int) (outs : List Int) (i : Int) => x15 k k15_1005 (t15_1005 a outs i)) (fun (a : List Int) (outs : List Int) (i : Int) => x15 k k15_1009 (t15_1009 a outs i)) a outs i := by kernel_rfl
theorem e15_1009 (k : Nat) (a : List Int) (outs : List Int) (i : Int) : x15 (k + 1) k15_1009 (t15_1009 a outs i) = F15_1009 k (fun (a : List Int) (outs : List Int) (i : Int) => x15 k k15_1005 (t15_1005 a outs i)) (fun (a : List Int) (outs : List Int) (i : Int) => x15 k k15_1009 (t15_1009 a outs i)) a outs i := by kernel_rfl
theorem q15 : ∀ k : Nat, ((fun (a : List Int) (outs : List Int) (i : Int) => x15 k k15_1005 (t15_1005 a outs i)), (fun (a : List Int) (outs : List Int) (i : Int) => x15 k k15_1009 (t15_1009 a outs i))) = l15 k
  | 0 => rfl
  | k + 1 => by
    have h := q15 k
    show _ = (F15_1005 k ((l15 k).1) ((l15 k).2), F15_1009 k ((l15 k).1) ((l15 k).2))
    rw [← h]
    exact (Prod.ext (funext fun a => funext fun outs => funext fun i => e15_1005 k a outs i) (funext fun a => funext fun outs => funext fun i => e15_1009 k a outs i))
theorem w15 (k : Nat) (a : List (Int)) (bare : Bool) : runFn tiV (envOf env21) 49 h15 (finT tiV true Go.Proofs.Try.f15.results.toList [(.vslice 3 (.int .i64), false)] (.vslice 3 (.int .i64))) k (bodyOf Go.Proofs.Try.f15) (initS 0 [.slc 3 (.int .i64) a, .bool bare]) = F15 k (fun (a : List Int) (outs : List Int) (i : Int) => x15 k k15_1005 (t15_1005 a outs i)) (fun (a : List Int) (outs : List Int) (i : Int) => x15 k k15_1009 (t15_1009 a outs i)) a bare := by kernel_rfl
theorem v15 (k : Nat) (a : List (Int)) (bare : Bool) : runFn tiV (envOf env21) 49 h15 (finT tiV true Go.Proofs.Try.f15.results.toList [(.vslice 3 (.int .i64), false)] (.vslice 3 (.int .i64))) k (bodyOf Go.Proofs.Try.f15) (initS 0 [.slc 3 (.int .i64) a, .bool bare]) = f15 k a bare := by
  rw [w15]
  have h := q15 k
  unfold f15
  rw [← h]
theorem m15 : Meets Go.Proofs.Try.prog 15 s15 := meets_of_run tiVOk env21_ok mo Go.Proofs.Try.func15 (body := bodyOf Go.Proofs.Try.f15) (by kernel_rfl) (N := 49) (by kernel_rfl) (hs := h15) (by
  intro k xs r h
  unfold s15 at h
  dsimp only at h
  split at h
  · exact ⟨Nat.le_of_ble_eq_true rfl, (v15 k _ _).trans h⟩
  · cases h)
theorem env22_ok : EnvOk Go.Proofs.Try.prog (envOf env22) := envOf_cons m15 Go.Proofs.Try.func15 (by kernel_rfl) (by kernel_rfl) env21_ok

-- laws.toBox
def f55 (k : Nat) (a_K : Int) (a_Low : List (Int)) (a_High : List (Int)) (bare : Bool) : Option (Int × (List (Int) × Nat) × List (Int) × Nat) :=
  (f15 k a_Low bare).bind fun r0 =>
  (f15 k a_High bare).bind fun r1 =>
  some ((a_K, (r0.fst, Option.getD (some r0.snd) (List.length r0.fst)), r1.fst, Option.getD (some r1.snd) (List.length r1.fst)))
def s55 : Spec := ⟨false, [(.pair (.int .i64) (.pair (.vslice 3 (.int .i64)) (.vslice 3 (.int .i64))), true)], true, .pair (.int .i64) (.pair (.vslice 3 (.int .i64)) (.vslice 3 (.int .i64))), fun k xs => match xs with | [.agg [.int .i64 a_K, .slc 3 (.int .i64) a_Low, .slc 3 (.int .i64) a_High], .bool bare] => f55 k a_K a_Low a_High bare | _ => none⟩
def env23 : List (FuncId × Spec) := (55, s55) :: env22
theorem v55 (k : Nat) (a_K : Int) (a_Low : List (Int)) (a_High : List (Int)) (bare : Bool) : runFn tiV (envOf env22) 20 [] (finT tiV true Go.Proofs.Try.f55.results.toList [(.pair (.int .i64) (.pair (.vslice 3 (.int .i64)) (.vslice 3 (.int .i64))), true)] (.pair (.int .i64) (.pair (.vslice 3 (.int .i64)) (.vslice 3 (.int .i64))))) k (bodyOf Go.Proofs.Try.f55) (initS 0 [.agg [.int .i64 a_K, .slc 3 (.int .i64) a_Low, .slc 3 (.int .i64) a_High], .bool bare]) = f55 k a_K a_Low a_High bare := by kernel_rfl
theorem m55 : Meets Go.Proofs.Try.prog 55 s55 := meets_of_run tiVOk env22_ok mo Go.Proofs.Try.func55 (body := bodyOf Go.Proofs.Try.f55) (by kernel_rfl) (N := 20) (by kernel_rfl) (hs := []) (by
  intro k xs r h
  unfold s55 at h
  dsimp only at h
  split at h
  · exact ⟨Nat.le_of_ble_eq_true rfl, (v55 k _ _ _ _).trans h⟩
  · cases h)
theorem env23_ok : EnvOk Go.Proofs.Try.prog (envOf env23) := envOf_cons m55 Go.Proofs.Try.func55 (by kernel_rfl) (by kernel_rfl) env22_ok

-- laws.fillerTerm
def f127 (k : Nat)  : Option (Int × Int × Int × Int) :=
  some ((-7000000000000000101, -7000000000000000101, -7000000000000000101, -7000000000000000101))
def s127 : Spec := ⟨false, [(.pair (.int .i64) (.pair (.int .i64) (.pair (.int .i64) (.int .i64))), true)], true, .pair (.int .i64) (.pair (.int .i64) (.pair (.int .i64) (.int .i64))), fun k xs => match xs with | [] => f127 k  | _ => none⟩
def env24 : List (FuncId × Spec) := (127, s127) :: env23
theorem v127 (k : Nat)  : runFn tiV (envOf env23) 2 [] (finT tiV true Go.Proofs.Try.f127.results.toList [(.pair (.int .i64) (.pair (.int .i64) (.pair (.int .i64) (.int .i64))), true)] (.pair (.int .i64) (.pair (.int .i64) (.pair (.int .i64) (.int .i64))))) k (bodyOf Go.Proofs.Try.f127) (initS 0 []) = f127 k  := by kernel_rfl
theorem m127 : Meets Go.Proofs.Try.prog 127 s127 := meets_of_run tiVOk env23_ok mo Go.Proofs.Try.func127 (body := bodyOf Go.Proofs.Try.f127) (by kernel_rfl) (N := 2) (by kernel_rfl) (hs := []) (by
  intro k xs r h
  unfold s127 at h
  dsimp only at h
  split at h
  · exact ⟨Nat.le_of_ble_eq_true rfl, (v127 k).trans h⟩
  · cases h)
theorem env24_ok : EnvOk Go.Proofs.Try.prog (envOf env24) := envOf_cons m127 Go.Proofs.Try.func127 (by kernel_rfl) (by kernel_rfl) env23_ok

-- laws.toTerm
def f159 (k : Nat) (a_C : Int) (a_X : Int) (a_Y : Int) (a_Z : Int) : Option (Int × Int × Int × Int) :=
  some ((a_C, a_X, a_Y, a_Z))
def s159 : Spec := ⟨false, [(.pair (.int .i64) (.pair (.int .i64) (.pair (.int .i64) (.int .i64))), true)], true, .pair (.int .i64) (.pair (.int .i64) (.pair (.int .i64) (.int .i64))), fun k xs => match xs with | [.agg [.int .i64 a_C, .int .i64 a_X, .int .i64 a_Y, .int .i64 a_Z]] => f159 k a_C a_X a_Y a_Z | _ => none⟩
def env25 : List (FuncId × Spec) := (159, s159) :: env24
theorem v159 (k : Nat) (a_C : Int) (a_X : Int) (a_Y : Int) (a_Z : Int) : runFn tiV (envOf env24) 17 [] (finT tiV true Go.Proofs.Try.f159.results.toList [(.pair (.int .i64) (.pair (.int .i64) (.pair (.int .i64) (.int .i64))), true)] (.pair (.int .i64) (.pair (.int .i64) (.pair (.int .i64) (.int .i64))))) k (bodyOf Go.Proofs.Try.f159) (initS 0 [.agg [.int .i64 a_C, .int .i64 a_X, .int .i64 a_Y, .int .i64 a_Z]]) = f159 k a_C a_X a_Y a_Z := by kernel_rfl
theorem m159 : Meets Go.Proofs.Try.prog 159 s159 := meets_of_run tiVOk env24_ok mo Go.Proofs.Try.func159 (body := bodyOf Go.Proofs.Try.f159) (by kernel_rfl) (N := 17) (by kernel_rfl) (hs := []) (by
  intro k xs r h
  unfold s159 at h
  dsimp only at h
  split at h
  · exact ⟨Nat.le_of_ble_eq_true rfl, (v159 k _ _ _ _).trans h⟩
  · cases h)
theorem env25_ok : EnvOk Go.Proofs.Try.prog (envOf env25) := envOf_cons m159 Go.Proofs.Try.func159 (by kernel_rfl) (by kernel_rfl) env24_ok

-- laws.toTermS
def h126 : Hints := [(1005, .lab [(0, .one (.frz 160 (Ty.pair (Ty.int IntKind.i64) (Ty.pair (Ty.int IntKind.i64) (Ty.pair (Ty.int IntKind.i64) (Ty.int IntKind.i64)))))), (5, .one (.own 136 (Ty.pair (Ty.int IntKind.i64) (Ty.pair (Ty.int IntKind.i64) (Ty.pair (Ty.int IntKind.i64) (Ty.int IntKind.i64)))))), (6, .one (.v))]), (1009, .lab [(0, .one (.frz 160 (Ty.pair (Ty.int IntKind.i64) (Ty.pair (Ty.int IntKind.i64) (Ty.pair (Ty.int IntKind.i64) (Ty.int IntKind.i64)))))), (5, .one (.own 136 (Ty.pair (Ty.int IntKind.i64) (Ty.pair (Ty.int IntKind.i64) (Ty.pair (Ty.int IntKind.i64) (Ty.int IntKind.i64)))))), (7, .one (.v))])]
def F126_1005 (k : Nat) (rec1005 : List (Int × Int × Int × Int) → List (Int × Int × Int × Int) → Int → Option (List (Int × Int × Int × Int) × Nat)) (rec1009 : List (Int × Int × Int × Int) → List (Int × Int × Int × Int) → Int → Option (List (Int × Int × Int × Int) × Nat)) (a : List (Int × Int × Int × Int)) (outs : List (Int × Int × Int × Int)) (i : Int) : Option (List (Int × Int × Int × Int) × Nat) :=
  bif decide (i < (↑(List.length a) : Int)) then
    bif boundA i (List.length a) then
      bif boundA i (List.length outs) then
        bif Nat.blt (Int.toNat i) (List.length outs) then
          rec1005 a (List.set outs (Int.toNat i) ((List.getD a (Int.toNat i) (0, 0, 0, 0)).fst, (List.getD a (Int.toNat i) (0, 0, 0, 0)).snd.fst, (List.getD a (Int.toNat i) (0, 0, 0, 0)).snd.snd.fst, (List.getD a (Int.toNat i) (0, 0, 0, 0)).snd.snd.snd)) (IntKind.wrap IntKind.i64 (i + 1))
        else
          none
      else
        none
    else
      none
  else
    rec1009 a outs ((↑(List.length a) : Int))
def F126_1009 (k : Nat) (rec1005 : List (Int × Int × Int × Int) → List (Int × Int × Int × Int) → Int → Option (List (Int × Int × Int × Int) × Nat)) (rec1009 : List (Int × Int × Int × Int) → List (Int × Int × Int × Int) → Int → Option (List (Int × Int × Int × Int) × Nat)) (a : List (Int × Int × Int × Int)) (outs : List (Int × Int × Int × Int)) (i : Int) : Option (List (Int × Int × Int × Int) × Nat) :=
  bif decide (i < (↑(List.length outs) : Int)) then
    bif boundA i (List.length outs) then
      bif Nat.blt (Int.toNat i) (List.length outs) then
        rec1009 a (List.set outs (Int.toNat i) (-7000000000000000101, -7000000000000000101, -7000000000000000101, -7000000000000000101)) (IntKind.wrap IntKind.i64 (i + 1))
      else
        none
    else
      none
  else
    bif boundE (↑(List.length a) : Int) (List.length outs) then
      some ((outs, Option.getD (some (Int.toNat (↑(List.length a) : Int))) (List.length outs)))
    else
      none
def F126 (k : Nat) (rec1005 : List (Int × Int × Int × Int) → List (Int × Int × Int × Int) → Int → Option (List (Int × Int × Int × Int) × Nat)) (rec1009 : List (Int × Int × Int × Int) → List (Int × Int × Int × Int) → Int → Option (List (Int × Int × Int × Int) × Nat)) (a : List (Int × Int × Int × Int)) (bare : Bool) : Option (List (Int × Int × Int × Int) × Nat) :=
  bif bare then
    bif decide ((↑(List.length a) : Int) = 0) then
      some (([], 0))
    else
      (f65 k (↑(List.length a) : Int)).bind fun r0 =>
      bif decide (0 ≤ IntKind.wrap IntKind.i64 ((↑(List.length a) : Int) + r0)) then
        bif decide (IntKind.wrap IntKind.i64 ((↑(List.length a) : Int) + r0) ≤ IntKind.wrap IntKind.i64 ((↑(List.length a) : Int) + r0)) then
          bif decide (IntKind.wrap IntKind.i64 ((↑(List.length a) : Int) + r0) * (↑32 : Int) ≤ 140737488355328) then
            rec1005 a (List.replicate (Int.toNat (IntKind.wrap IntKind.i64 ((↑(List.length a) : Int) + r0))) (dflt (Ty.pair (Ty.int IntKind.i64) (Ty.pair (Ty.int IntKind.i64) (Ty.pair (Ty.int IntKind.i64) (Ty.int IntKind.i64)))))) (0)
          else
            none
        else
          none
      else
        none
  else
    (f65 k (↑(List.length a) : Int)).bind fun r1 =>
    bif decide (0 ≤ IntKind.wrap IntKind.i64 ((↑(List.length a) : Int) + r1)) then
      bif decide (IntKind.wrap IntKind.i64 ((↑(List.length a) : Int) + r1) ≤ IntKind.wrap IntKind.i64 ((↑(List.length a) : Int) + r1)) then
        bif decide (IntKind.wrap IntKind.i64 ((↑(List.length a) : Int) + r1) * (↑32 : Int) ≤ 140737488355328) then
          rec1005 a (List.replicate (Int.toNat (IntKind.wrap IntKind.i64 ((↑(List.length a) : Int) + r1))) (dflt (Ty.pair (Ty.int IntKind.i64) (Ty.pair (Ty.int IntKind.i64) (Ty.pair (Ty.int IntKind.i64) (Ty.int IntKind.i64)))))) (0)
        else
          none
      else
        none
    else
      none
def l126 : Nat → (List (Int × Int × Int × Int) → List (Int × Int × Int × Int) → Int → Option (List (Int × Int × Int × Int) × Nat)) × (List (Int × Int × Int × Int) → List (Int × Int × Int × Int) → Int → Option (List (Int × Int × Int × Int) × Nat))
  | 0 => (fun _ _ _ => none, fun _ _ _ => none)
  | k + 1 => (F126_1005 k ((l126 k).1) ((l126 k).2), F126_1009 k ((l126 k).1) ((l126 k).2))
def f126 (k : Nat) (a : List (Int × Int × Int × Int)) (bare : Bool) : Option (List (Int × Int × Int × Int) × Nat) := F126 k ((l126 k).1) ((l126 k).2) a bare
def s126 : Spec := ⟨false, [(.vslice 136 (.pair (.int .i64) (.pair (.int .i64) (.pair (.int .i64) (.int .i64)))), false)], true, .vslice 136 (.pair (.int .i64) (.pair (.int .i64) (.pair (.int .i64) (.int .i64)))), fun k xs => match xs with | [.slc 160 (.pair (.int .i64) (.pair (.int .i64) (.pair (.int .i64) (.int .i64)))) a, .bool bare] => f126 k a bare | _ => none⟩
def env26 : List (FuncId × Spec) := (126, s126) :: env25
noncomputable abbrev x126 := exec tiV (envOf env25) 51 h126 (finT tiV true Go.Proofs.Try.f126.results.toList [(.vslice 136 (.pair (.int .i64) (.pair (.int .i64) (.pair (.int .i64) (.int .i64)))), false)] (.vslice 136 (.pair (.int .i64) (.pair (.int .i64) (.pair (.int .i64) (.int .i64))))))
noncomputable def k126_1005 : List It := stackAt [.r, .r, .r, .l, .r, .b, .lb none] (bodyOf Go.Proofs.Try.f126) []
def t126_1005 (a : List (Int × Int × Int × Int)) (outs : List (Int × Int × Int × Int)) (i : Int) : St := [(0, Cell.val (AVal.slc 160 (Ty.pair (Ty.int IntKind.i64) (Ty.pair (Ty.int IntKind.i64) (Ty.pair (Ty.int IntKind.i64) (Ty.int IntKind.i64)))) a)), (10, Cell.val (AVal.ref 3 none)), (3, Cell.row true 136 (Ty.pair (Ty.int IntKind.i64) (Ty.pair (Ty.int IntKind.i64) (Ty.pair (Ty.int IntKind.i64) (Ty.int IntKind.i64)))) outs), (12, Cell.val (AVal.int IntKind.i64 i))]
noncomputable def k126_1009 : List It := stackAt [.r, .r, .r, .r, .l, .r, .b, .lb none] (bodyOf Go.Proofs.Try.f126) []
def t126_1009 (a : List (Int × Int × Int × Int)) (outs : List (Int × Int × Int × Int)) (i : Int) : St := [(0, Cell.val (AVal.slc 160 (Ty.pair (Ty.int IntKind.i64) (Ty.pair (Ty.int IntKind.i64) (Ty.pair (Ty.int IntKind.i64) (Ty.int IntKind.i64)))) a)), (10, Cell.val (AVal.ref 3 none)), (3, Cell.row true 136 (Ty.pair (Ty.int IntKind.i64) (Ty.pair (Ty.int IntKind.i64) (Ty.pair (Ty.int IntKind.i64) (Ty.int IntKind.i64)))) outs), (14, Cell.val (AVal.int IntKind.i64 i))]
theorem e126_1005 (k : Nat) (a : List (Int × Int × Int × Int)) (outs : List (Int × Int × Int × Int)) (i : Int) : x126 (k + 1) k126_1005 (t126_1005 a outs i) = F126_1005 k (fun (a : List (Int × Int × Int × Int)) (outs : List (Int × Int × Int × Int)) (i : Int) => x126 k k126_1005 (t126_1005 a outs i)) (fun (a : List (Int × Int × Int × Int)) (outs : List (Int × Int × Int × Int)) (i : Int) => x126 k k126_1009 (t126_1009 a outs i)) a outs i := by kernel_rfl
theorem e126_1009 (k : Nat) (a : List (Int × Int × Int × Int)) (outs : List (Int × Int × Int × Int)) (i : Int) : x126 (k + 1) k126_1009 (t126_1009 a outs i) = F126_1009 k (fun (a : List (Int × Int × Int × Int)) (outs : List (Int × Int × Int × Int)) (i : Int) => x126 k k126_1005 (t126_1005 a outs i)) (fun (a : List (Int × Int × Int × Int)) (outs : List (Int × Int × Int × Int)) (i : Int) => x126 k k126_1009 (t126_1009 a outs i)) a outs i := by kernel_rfl
theorem q126 : ∀ k : Nat, ((fun (a : List (Int × Int × Int × Int)) (outs : List (Int × Int × Int × Int)) (i : Int) => x126 k k126_1005 (t126_1005 a outs i)), (fun (a : List (Int × Int × Int × Int)) (outs : List (Int × Int × Int × Int)) (i : Int) => x126 k k126_1009 (t126_1009 a outs i))) = l126 k
  | 0 => rfl
  | k + 1 => by
    have h := q126 k
    show _ = (F126_1005 k ((l126 k).1) ((l126 k).2), F126_1009 k ((l126 k).1) ((l126 k).2))
    rw [← h]
    exact (Prod.ext (funext fun a => funext fun outs => funext fun i => e126_1005 k a outs i) (funext fun a => funext fun outs => funext fun i => e126_1009 k a outs i))
theorem w126 (k : Nat) (a : List (Int × Int × Int × Int)) (bare : Bool) : runFn tiV (envOf env25) 51 h126 (finT tiV true Go.Proofs.Try.f126.results.toList [(.vslice 136 (.pair (.int .i64) (.pair (.int .i64) (.pair (.int .i64) (.int .i64)))), false)] (.vslice 136 (.pair (.int .i64) (.pair (.int .i64) (.pair (.int .i64) (.int .i64)))))) k (bodyOf Go.Proofs.Try.f126) (initS 0 [.slc 160 (.pair (.int .i64) (.pair (.int .i64) (.pair (.int .i64) (.int .i64)))) a, .bool bare]) = F126 k (fun (a : List (Int × Int × Int × Int)) (outs : List (Int × Int × Int × Int)) (i : Int) => x126 k k126_1005 (t126_1005 a outs i)) (fun (a : List (Int × Int × Int × Int)) (outs : List (Int × Int × Int × Int)) (i : Int) => x126 k k126_1009 (t126_1009 a outs i)) a bare := by kernel_rfl
theorem v126 (k : Nat) (a : List (Int × Int × Int × Int)) (bare : Bool) : runFn tiV (envOf env25) 51 h126 (finT tiV true Go.Proofs.Try.f126.results.toList [(.vslice 136 (.pair (.int .i64) (.pair (.int .i64) (.pair (.int .i64) (.int .i64)))), false)] (.vslice 136 (.pair (.int .i64) (.pair (.int .i64) (.pair (.int .i64) (.int .i64)))))) k (bodyOf Go.Proofs.Try.f126) (initS 0 [.slc 160 (.pair (.int .i64) (.pair (.int .i64) (.pair (.int .i64) (.int .i64)))) a, .bool bare]) = f126 k a bare := by
  rw [w126]
  have h := q126 k
  unfold f126
  rw [← h]
theorem m126 : Meets Go.Proofs.Try.prog 126 s126 := meets_of_run tiVOk env25_ok mo Go.Proofs.Try.func126 (body := bodyOf Go.Proofs.Try.f126) (by kernel_rfl) (N := 51) (by kernel_rfl) (hs := h126) (by
  intro k xs r h
  unfold s126 at h
  dsimp only at h
  split at h
  · exact ⟨Nat.le_of_ble_eq_true rfl, (v126 k _ _).trans h⟩
  · cases h)
theorem env26_ok : EnvOk Go.Proofs.Try.prog (envOf env26) := envOf_cons m126 Go.Proofs.Try.func126 (by kernel_rfl) (by kernel_rfl) env25_ok

-- laws.toTermSS
def h92 : Hints := [(1005, .lab [(0, .one (.frz 130 (Ty.slice 160 (Ty.pair (Ty.int IntKind.i64) (Ty.pair (Ty.int IntKind.i64) (Ty.pair (Ty.int IntKind.i64) (Ty.int IntKind.i64))))))), (1, .one (.v)), (5, .one (.own 133 (Ty.vslice 136 (Ty.pair (Ty.int IntKind.i64) (Ty.pair (Ty.int IntKind.i64) (Ty.pair (Ty.int IntKind.i64) (Ty.int IntKind.i64))))))), (6, .one (.v))]), (1009, .lab [(0, .one (.frz 130 (Ty.slice 160 (Ty.pair (Ty.int IntKind.i64) (Ty.pair (Ty.int IntKind.i64) (Ty.pair (Ty.int IntKind.i64) (Ty.int IntKind.i64))))))), (5, .one (.own 133 (Ty.vslice 136 (Ty.pair (Ty.int IntKind.i64) (Ty.pair (Ty.int IntKind.i64) (Ty.pair (Ty.int IntKind.i64) (Ty.int IntKind.i64))))))), (7, .one (.v))])]
def F92_1005 (k : Nat) (rec1005 : List (List (Int × Int × Int × Int)) → Bool → List (List (Int × Int × Int × Int) × Nat) → Int → Option (List (List (Int × Int × Int × Int) × Nat) × Nat)) (rec1009 : List (List (Int × Int × Int × Int)) → List (List (Int × Int × Int × Int) × Nat) → Int → Option (List (List (Int × Int × Int × Int) × Nat) × Nat)) (a : List (List (Int × Int × Int × Int))) (bare : Bool) (outs : List (List (Int × Int × Int × Int) × Nat)) (i : Int) : Option (List (List (Int × Int × Int × Int) × Nat) × Nat) :=
  bif decide (i < (↑(List.length a) : Int)) then
    bif boundA i (List.length a) then
      (f126 k (List.getD a (Int.toNat i) []) bare).bind fun r0 =>
      bif boundA i (List.length outs) then
        bif Nat.blt (Int.toNat i) (List.length outs) then
          rec1005 a bare (List.set outs (Int.toNat i) (r0.fst, r0.snd)) (IntKind.wrap IntKind.i64 (i + 1))
        else
          none
      else
        none
    else
      none
  else
    rec1009 a outs ((↑(List.length a) : Int))
def F92_1009 (k : Nat) (rec1005 : List (List (Int × Int × Int × Int)) → Bool → List (List (Int × Int × Int × Int) × Nat) → Int → Option (List (List (Int × Int × Int × Int) × Nat) × Nat)) (rec1009 : List (List (Int × Int × Int × Int)) → List (List (Int × Int × Int × Int) × Nat) → Int → Option (List (List (Int × Int × Int × Int) × Nat) × Nat)) (a : List (List (Int × Int × Int × Int))) (outs : List (List (Int × Int × Int × Int) × Nat)) (i : Int) : Option (List (List (Int × Int × Int × Int) × Nat) × Nat) :=
  bif decide (i < (↑(List.length outs) : Int)) then
    bif boundA i (List.length outs) then
      bif Nat.blt (Int.toNat i) (List.length outs) then
        rec1009 a (List.set outs (Int.toNat i) ([(-7000000000000000101, -7000000000000000101, -7000000000000000101, -7000000000000000101)], List.length [(-7000000000000000101, -7000000000000000101, -7000000000000000101, -7000000000000000101)])) (IntKind.wrap IntKind.i64 (i + 1))
      else
        none
    else
      none
  else
    bif boundE (↑(List.length a) : Int) (List.length outs) then
      some ((outs, Option.getD (some (Int.toNat (↑(List.length a) : Int))) (List.length outs)))
    else
      none
def F92 (k : Nat) (rec1005 : List (List (Int × Int × Int × Int)) → Bool → List (List (Int × Int × Int × Int) × Nat) → Int → Option (List (List (Int × Int × Int × Int) × Nat) × Nat)) (rec1009 : List (List (Int × Int × Int × Int)) → List (List (Int × Int × Int × Int) × Nat) → Int → Option (List (List (Int × Int × Int × Int) × Nat) × Nat)) (a : List (List (Int × Int × Int × Int))) (bare : Bool) : Option (List (List (Int × Int × Int × Int) × Nat) × Nat) :=
  bif bare then
    bif decide ((↑(List.length a) : Int) = 0) then
      some (([], 0))
    else
      (f65 k (↑(List.length a) : Int)).bind fun r0 =>
      bif decide (0 ≤ IntKind.wrap IntKind.i64 ((↑(List.length a) : Int) + r0)) then
        bif decide (IntKind.wrap IntKind.i64 ((↑(List.length a) : Int) + r0) ≤ IntKind.wrap IntKind.i64 ((↑(List.length a) : Int) + r0)) then
          bif decide (IntKind.wrap IntKind.i64 ((↑(List.length a) : Int) + r0) * (↑24 : Int) ≤ 140737488355328) then
            rec1005 a bare (List.replicate (Int.toNat (IntKind.wrap IntKind.i64 ((↑(List.length a) : Int) + r0))) (dflt (Ty.vslice 136 (Ty.pair (Ty.int IntKind.i64) (Ty.pair (Ty.int IntKind.i64) (Ty.pair (Ty.int IntKind.i64) (Ty.int IntKind.i64))))))) (0)
          else
            none
        else
          none
      else
        none
  else
    (f65 k (↑(List.length a) : Int)).bind fun r1 =>
    bif decide (0 ≤ IntKind.wrap IntKind.i64 ((↑(List.length a) : Int) + r1)) then
      bif decide (IntKind.wrap IntKind.i64 ((↑(List.length a) : Int) + r1) ≤ IntKind.wrap IntKind.i64 ((↑(List.length a) : Int) + r1)) then
        bif decide (IntKind.wrap IntKind.i64 ((↑(List.length a) : Int) + r1) * (↑24 : Int) ≤ 140737488355328) then
          rec1005 a bare (List.replicate (Int.toNat (IntKind.wrap IntKind.i64 ((↑(List.length a) : Int) + r1))) (dflt (Ty.vslice 136 (Ty.pair (Ty.int IntKind.i64) (Ty.pair (Ty.int IntKind.i64) (Ty.pair (Ty.int IntKind.i64) (Ty.int IntKind.i64))))))) (0)
        else
          none
      else
        none
    else
      none
def l92 : Nat → (List (List (Int × Int × Int × Int)) → Bool → List (List (Int × Int × Int × Int) × Nat) → Int → Option (List (List (Int × Int × Int × Int) × Nat) × Nat)) × (List (List (Int × Int × Int × Int)) → List (List (Int × Int × Int × Int) × Nat) → Int → Option (List (List (Int × Int × Int × Int) × Nat) × Nat))
  | 0 => (fun _ _ _ _ => none, fun _ _ _ => none)
  | k + 1 => (F92_1005 k ((l92 k).1) ((l92 k).2), F92_1009 k ((l92 k).1) ((l92 k).2))
def f92 (k : Nat) (a : List (List (Int × Int × Int × Int))) (bare : Bool) : Option (List (List (Int × Int × Int × Int) × Nat) × Nat) := F92 k ((l92 k).1) ((l92 k).2) a bare
def s92 : Spec := ⟨false, [(.vslice 133 (.vslice 136 (.pair (.int .i64) (.pair (.int .i64) (.pair (.int .i64) (.int .i64))))), false)], true, .vslice 133 (.vslice 136 (.pair (.int .i64) (.pair (.int .i64) (.pair (.int .i64) (.int .i64))))), fun k xs => match xs with | [.slc 130 (.slice 160 (.pair (.int .i64) (.pair (.int .i64) (.pair (.int .i64) (.int .i64))))) a, .bool bare] => f92 k a bare | _ => none⟩
def env27 : List (FuncId × Spec) := (92, s92) :: env26
noncomputable abbrev x92 := exec tiV (envOf env26) 53 h92 (finT tiV true Go.Proofs.Try.f92.results.toList [(.vslice 133 (.vslice 136 (.pair (.int .i64) (.pair (.int .i64) (.pair (.int .i64) (.int .i64))))), false)] (.vslice 133 (.vslice 136 (.pair (.int .i64) (.pair (.int .i64) (.pair (.int .i64) (.int .i64)))))))
noncomputable def k92_1005 : List It := stackAt [.r, .r, .r, .l, .r, .b, .lb none] (bodyOf Go.Proofs.Try.f92) []
def t92_1005 (a : List (List (Int × Int × Int × Int))) (bare : Bool) (outs : List (List (Int × Int × Int × Int) × Nat)) (i : Int) : St := [(0, Cell.val (AVal.slc 130 (Ty.slice 160 (Ty.pair (Ty.int IntKind.i64) (Ty.pair (Ty.int IntKind.i64) (Ty.pair (Ty.int IntKind.i64) (Ty.int IntKind.i64))))) a)), (2, Cell.val (AVal.bool bare)), (10, Cell.val (AVal.ref 3 none)), (3, Cell.row true 133 (Ty.vslice 136 (Ty.pair (Ty.int IntKind.i64) (Ty.pair (Ty.int IntKind.i64) (Ty.pair (Ty.int IntKind.i64) (Ty.int IntKind.i64))))) outs), (12, Cell.val (AVal.int IntKind.i64 i))]
noncomputable def k92_1009 : List It := stackAt [.r, .r, .r, .r, .l, .r, .b, .lb none] (bodyOf Go.Proofs.Try.f92) []
def t92_1009 (a : List (List (Int × Int × Int × Int))) (outs : List (List (Int × Int × Int × Int) × Nat)) (i : Int) : St := [(0, Cell.val (AVal.slc 130 (Ty.slice 160 (Ty.pair (Ty.int IntKind.i64) (Ty.pair (Ty.int IntKind.i64) (Ty.pair (Ty.int IntKind.i64) (Ty.int IntKind.i64))))) a)), (10, Cell.val (AVal.ref 3 none)), (3, Cell.row true 133 (Ty.vslice 136 (Ty.pair (Ty.int IntKind.i64) (Ty.pair (Ty.int IntKind.i64) (Ty.pair (Ty.int IntKind.i64) (Ty.int IntKind.i64))))) outs), (14, Cell.val (AVal.int IntKind.i64 i))]
theorem e92_1005 (k : Nat) (a : List (List (Int × Int × Int × Int))) (bare : Bool) (outs : List (List (Int × Int × Int × Int) × Nat)) (i : Int) : x92 (k + 1) k92_1005 (t92_1005 a bare outs i) = F92_1005 k (fun (a : List (List (Int × Int × Int × Int))) (bare : Bool) (outs : List (List (Int × Int × Int × Int) × Nat)) (i : Int) => x92 k k92_1005 (t92_1005 a bare outs i)) (fun (a : List (List (Int × Int × Int × Int))) (outs : List (List (Int × Int × Int × Int) × Nat)) (i : Int) => x92 k k92_1009 (t92_1009 a outs i)) a bare outs i := by kernel_rfl
theorem e92_1009 (k : Nat) (a : List (List (Int × Int × Int × Int))) (outs : List (List (Int × Int × Int × Int) × Nat)) (i : Int) : x92 (k + 1) k92_1009 (t92_1009 a outs i) = F92_1009 k (fun (a : List (List (Int × Int × Int × Int))) (bare : Bool) (outs : List (List (Int × Int × Int × Int) × Nat)) (i : Int) => x92 k k92_1005 (t92_1005 a bare outs i)) (fun (a : List (List (Int × Int × Int × Int))) (outs : List (List (Int × Int × Int × Int) × Nat)) (i : Int) => x92 k k92_1009 (t92_1009 a outs i)) a outs i := by kernel_rfl
theorem q92 : ∀ k : Nat, ((fun (a : List (List (Int × Int × Int × Int))) (bare : Bool) (outs : List (List (Int × Int × Int × Int) × Nat)) (i : Int) => x92 k k92_1005 (t92_1005 a bare outs i)), (fun (a : List (List (Int × Int × Int × Int))) (outs : List (List (Int × Int × Int × Int) × Nat)) (i : Int) => x92 k k92_1009 (t92_1009 a outs i))) = l92 k
  | 0 => rfl
  | k + 1 => by
    have h := q92 k
    show _ = (F92_1005 k ((l92 k).1) ((l92 k).2), F92_1009 k ((l92 k).1) ((l92 k).2))
    rw [← h]
    exact (Prod.ext (funext fun a => funext fun bare => funext fun outs => funext fun i => e92_1005 k a bare outs i) (funext fun a => funext fun outs => funext fun i => e92_1009 k a outs i))
theorem w92 (k : Nat) (a : List (List (Int × Int × Int × Int))) (bare : Bool) : runFn tiV (envOf env26) 53 h92 (finT tiV true Go.Proofs.Try.f92.results.toList [(.vslice 133 (.vslice 136 (.pair (.int .i64) (.pair (.int .i64) (.pair (.int .i64) (.int .i64))))), false)] (.vslice 133 (.vslice 136 (.pair (.int .i64) (.pair (.int .i64) (.pair (.int .i64) (.int .i64))))))) k (bodyOf Go.Proofs.Try.f92) (initS 0 [.slc 130 (.slice 160 (.pair (.int .i64) (.pair (.int .i64) (.pair (.int .i64) (.int .i64))))) a, .bool bare]) = F92 k (fun (a : List (List (Int × Int × Int × Int))) (bare : Bool) (outs : List (List (Int × Int × Int × Int) × Nat)) (i : Int) => x92 k k92_1005 (t92_1005 a bare outs i)) (fun (a : List (List (Int × Int × Int × Int))) (outs : List (List (Int × Int × Int × Int) × Nat)) (i : Int) => x92 k k92_1009 (t92_1009 a outs i)) a bare := by kernel_rfl
theorem v92 (k : Nat) (a : List (List (Int × Int × Int × Int))) (bare : Bool) : runFn tiV (envOf env26) 53 h92 (finT tiV true Go.Proofs.Try.f92.results.toList [(.vslice 133 (.vslice 136 (.pair (.int .i64) (.pair (.int .i64) (.pair (.int .i64) (.int .i64))))), false)] (.vslice 133 (.vslice 136 (.pair (.int .i64) (.pair (.int .i64) (.pair (.int .i64) (.int .i64))))))) k (bodyOf Go.Proofs.Try.f92) (initS 0 [.slc 130 (.slice 160 (.pair (.int .i64) (.pair (.int .i64) (.pair (.int .i64) (.int .i64))))) a, .bool bare]) = f92 k a bare := by
  rw [w92]
  have h := q92 k
  unfold f92
  rw [← h]
theorem m92 : Meets Go.Proofs.Try.prog 92 s92 := meets_of_run tiVOk env26_ok mo Go.Proofs.Try.func92 (body := bodyOf Go.Proofs.Try.f92) (by kernel_rfl) (N := 53) (by kernel_rfl) (hs := h92) (by
  intro k xs r h
  unfold s92 at h
  dsimp only at h
  split at h
  · exact ⟨Nat.le_of_ble_eq_true rfl, (v92 k _ _).trans h⟩
  · cases h)
theorem env27_ok : EnvOk Go.Proofs.Try.prog (envOf env27) := envOf_cons m92 Go.Proofs.Try.func92 (by kernel_rfl) (by kernel_rfl) env26_ok

-- laws.toEntry
def f47 (k : Nat) (a_Name : ByteArray) (a_System : List (List (Int × Int × Int × Int))) (a_Box_K : Int) (a_Box_Low : List (Int)) (a_Box_High : List (Int)) (a_Least : Int) (a_Most : Int) (a_Version : Int) (bare : Bool) : Option (ByteArray × (List (List (Int × Int × Int × Int) × Nat) × Nat) × (Int × (List (Int) × Nat) × List (Int) × Nat) × Int × Int × Int) :=
  (f92 k a_System bare).bind fun r0 =>
  (f55 k a_Box_K a_Box_Low a_Box_High bare).bind fun r1 =>
  some ((a_Name, (r0.fst, Option.getD (some r0.snd) (List.length r0.fst)), (r1.fst, (r1.snd.fst.fst, Option.getD (some r1.snd.fst.snd) (List.length r1.snd.fst.fst)), r1.snd.snd.fst, Option.getD (some r1.snd.snd.snd) (List.length r1.snd.snd.fst)), a_Least, a_Most, a_Version))
def s47 : Spec := ⟨false, [(.pair (.str) (.pair (.vslice 133 (.vslice 136 (.pair (.int .i64) (.pair (.int .i64) (.pair (.int .i64) (.int .i64)))))) (.pair (.pair (.int .i64) (.pair (.vslice 3 (.int .i64)) (.vslice 3 (.int .i64)))) (.pair (.int .i64) (.pair (.int .i64) (.int .i64))))), true)], true, .pair (.str) (.pair (.vslice 133 (.vslice 136 (.pair (.int .i64) (.pair (.int .i64) (.pair (.int .i64) (.int .i64)))))) (.pair (.pair (.int .i64) (.pair (.vslice 3 (.int .i64)) (.vslice 3 (.int .i64)))) (.pair (.int .i64) (.pair (.int .i64) (.int .i64))))), fun k xs => match xs with | [.agg [.str a_Name, .slc 130 (.slice 160 (.pair (.int .i64) (.pair (.int .i64) (.pair (.int .i64) (.int .i64))))) a_System, .int .i64 a_Box_K, .slc 3 (.int .i64) a_Box_Low, .slc 3 (.int .i64) a_Box_High, .int .i64 a_Least, .int .i64 a_Most, .int .i64 a_Version], .bool bare] => f47 k a_Name a_System a_Box_K a_Box_Low a_Box_High a_Least a_Most a_Version bare | _ => none⟩
def env28 : List (FuncId × Spec) := (47, s47) :: env27
theorem v47 (k : Nat) (a_Name : ByteArray) (a_System : List (List (Int × Int × Int × Int))) (a_Box_K : Int) (a_Box_Low : List (Int)) (a_Box_High : List (Int)) (a_Least : Int) (a_Most : Int) (a_Version : Int) (bare : Bool) : runFn tiV (envOf env27) 29 [] (finT tiV true Go.Proofs.Try.f47.results.toList [(.pair (.str) (.pair (.vslice 133 (.vslice 136 (.pair (.int .i64) (.pair (.int .i64) (.pair (.int .i64) (.int .i64)))))) (.pair (.pair (.int .i64) (.pair (.vslice 3 (.int .i64)) (.vslice 3 (.int .i64)))) (.pair (.int .i64) (.pair (.int .i64) (.int .i64))))), true)] (.pair (.str) (.pair (.vslice 133 (.vslice 136 (.pair (.int .i64) (.pair (.int .i64) (.pair (.int .i64) (.int .i64)))))) (.pair (.pair (.int .i64) (.pair (.vslice 3 (.int .i64)) (.vslice 3 (.int .i64)))) (.pair (.int .i64) (.pair (.int .i64) (.int .i64))))))) k (bodyOf Go.Proofs.Try.f47) (initS 0 [.agg [.str a_Name, .slc 130 (.slice 160 (.pair (.int .i64) (.pair (.int .i64) (.pair (.int .i64) (.int .i64))))) a_System, .int .i64 a_Box_K, .slc 3 (.int .i64) a_Box_Low, .slc 3 (.int .i64) a_Box_High, .int .i64 a_Least, .int .i64 a_Most, .int .i64 a_Version], .bool bare]) = f47 k a_Name a_System a_Box_K a_Box_Low a_Box_High a_Least a_Most a_Version bare := by kernel_rfl
theorem m47 : Meets Go.Proofs.Try.prog 47 s47 := meets_of_run tiVOk env27_ok mo Go.Proofs.Try.func47 (body := bodyOf Go.Proofs.Try.f47) (by kernel_rfl) (N := 29) (by kernel_rfl) (hs := []) (by
  intro k xs r h
  unfold s47 at h
  dsimp only at h
  split at h
  · exact ⟨Nat.le_of_ble_eq_true rfl, (v47 k _ _ _ _ _ _ _ _ _).trans h⟩
  · cases h)
theorem env28_ok : EnvOk Go.Proofs.Try.prog (envOf env28) := envOf_cons m47 Go.Proofs.Try.func47 (by kernel_rfl) (by kernel_rfl) env27_ok

-- impl.inside
def f74 (k : Nat) (n : Int) (low : Int) (high : Int) : Option (Bool) :=
  bif decide (low ≤ n) then
    some (decide (n ≤ high))
  else
    some false
def s74 : Spec := ⟨false, [(.bool, false)], true, .bool, fun k xs => match xs with | [.int .i64 n, .int .i64 low, .int .i64 high] => f74 k n low high | _ => none⟩
def env29 : List (FuncId × Spec) := (74, s74) :: env28
theorem v74 (k : Nat) (n : Int) (low : Int) (high : Int) : runFn ti (envOf env28) 15 [] (finT ti true Go.Proofs.Try.f74.results.toList [(.bool, false)] (.bool)) k (bodyOf Go.Proofs.Try.f74) (initS 0 [.int .i64 n, .int .i64 low, .int .i64 high]) = f74 k n low high := by kernel_rfl
theorem m74 : Meets Go.Proofs.Try.prog 74 s74 := meets_of_run tiOk env28_ok mo Go.Proofs.Try.func74 (body := bodyOf Go.Proofs.Try.f74) (by kernel_rfl) (N := 15) (by kernel_rfl) (hs := []) (by
  intro k xs r h
  unfold s74 at h
  dsimp only at h
  split at h
  · exact ⟨Nat.le_of_ble_eq_true rfl, (v74 k _ _ _).trans h⟩
  · cases h)
theorem env29_ok : EnvOk Go.Proofs.Try.prog (envOf env29) := envOf_cons m74 Go.Proofs.Try.func74 (by kernel_rfl) (by kernel_rfl) env28_ok

-- impl.isBox
def h103 : Hints := [(1005, .lab [(0, .one (.v)), (3, .one (.v)), (4, .one (.v)), (48, .one (.frz 3 (Ty.int IntKind.i64))), (49, .one (.v)), (50, .one (.v))])]
def F103_1005 (k : Nat) (rec1005 : Int × List Int × List Int → Int → Bool → List Int → Int → Int → Option (Bool)) (L : Int × List Int × List Int) (t : Int) (t4 : Bool) (t48 : List Int) (t49 : Int) (t50 : Int) : Option (Bool) :=
  bif decide (t50 < t49) then
    bif boundA t50 (List.length t48) then
      (f74 k (List.getD t48 (Int.toNat t50) 0) (IntKind.wrap IntKind.i64 (0 - t)) t).bind fun r0 =>
      bif !r0 then
        some false
      else
        bif boundA t50 (List.length L.snd.snd) then
          (f74 k (List.getD L.snd.snd (Int.toNat t50) 0) (IntKind.wrap IntKind.i64 (List.getD t48 (Int.toNat t50) 0 + 1)) t).bind fun r1 =>
          bif !r1 then
            some false
          else
            bif t4 then
              rec1005 L t true t48 t49 (IntKind.wrap IntKind.i64 (t50 + 1))
            else
              bif !decide (Int.tmod (List.getD t48 (Int.toNat t50) 0) 2 = 0) then
                rec1005 L t true t48 t49 (IntKind.wrap IntKind.i64 (t50 + 1))
              else
                bif boundA t50 (List.length L.snd.snd) then
                  rec1005 L t (!decide (Int.tmod (List.getD L.snd.snd (Int.toNat t50) 0) 2 = 0)) t48 t49 (IntKind.wrap IntKind.i64 (t50 + 1))
                else
                  none
        else
          none
    else
      none
  else
    some t4
def F103 (k : Nat) (rec1005 : Int × List Int × List Int → Int → Bool → List Int → Int → Int → Option (Bool)) (L : Int × (List (Int)) × List (Int)) : Option (Bool) :=
  (f74 k L.fst 0 8).bind fun r0 =>
  bif !r0 then
    some false
  else
    (f74 k (↑(List.length L.snd.fst) : Int) 1 3).bind fun r1 =>
    bif !r1 then
      some false
    else
      bif !decide ((↑(List.length L.snd.snd) : Int) = (↑(List.length L.snd.fst) : Int)) then
        some false
      else
        bif !decide (L.fst < 0) then
          rec1005 L (IntKind.wrap IntKind.i64 (8 * 2 ^ min (Int.toNat L.fst) (IntKind.bits IntKind.i64))) (decide (L.fst = 0)) (L.snd.fst) ((↑(List.length L.snd.fst) : Int)) (0)
        else
          none
def l103 : Nat → (Int × List Int × List Int → Int → Bool → List Int → Int → Int → Option (Bool))
  | 0 => fun _ _ _ _ _ _ => none
  | k + 1 => F103_1005 k (l103 k)
def f103 (k : Nat) (L : Int × (List (Int)) × List (Int)) : Option (Bool) := F103 k (l103 k) L
def s103 : Spec := ⟨false, [(.bool, false)], true, .bool, fun k xs => match xs with | [.fptr (.pair (.int .i64) (.pair (.slice 3 (.int .i64)) (.slice 3 (.int .i64)))) L] => f103 k L | _ => none⟩
def env30 : List (FuncId × Spec) := (103, s103) :: env29
noncomputable abbrev x103 := exec ti (envOf env29) 94 h103 (finT ti true Go.Proofs.Try.f103.results.toList [(.bool, false)] (.bool))
noncomputable def k103_1005 : List It := stackAt [.r, .r, .r, .l, .r, .b, .lb none] (bodyOf Go.Proofs.Try.f103) []
def t103_1005 (L : Int × List Int × List Int) (t : Int) (t4 : Bool) (t48 : List Int) (t49 : Int) (t50 : Int) : St := [(0, Cell.val (AVal.fptr (Ty.pair (Ty.int IntKind.i64) (Ty.pair (Ty.slice 3 (Ty.int IntKind.i64)) (Ty.slice 3 (Ty.int IntKind.i64)))) L)), (6, Cell.val (AVal.int IntKind.i64 t)), (8, Cell.val (AVal.bool t4)), (96, Cell.val (AVal.slc 3 (Ty.int IntKind.i64) t48)), (98, Cell.val (AVal.int IntKind.i64 t49)), (100, Cell.val (AVal.int IntKind.i64 t50))]
theorem e103_1005 (k : Nat) (L : Int × List Int × List Int) (t : Int) (t4 : Bool) (t48 : List Int) (t49 : Int) (t50 : Int) : x103 (k + 1) k103_1005 (t103_1005 L t t4 t48 t49 t50) = F103_1005 k (fun (L : Int × List Int × List Int) (t : Int) (t4 : Bool) (t48 : List Int) (t49 : Int) (t50 : Int) => x103 k k103_1005 (t103_1005 L t t4 t48 t49 t50)) L t t4 t48 t49 t50 := by kernel_rfl
theorem q103 : ∀ k : Nat, (fun (L : Int × List Int × List Int) (t : Int) (t4 : Bool) (t48 : List Int) (t49 : Int) (t50 : Int) => x103 k k103_1005 (t103_1005 L t t4 t48 t49 t50)) = l103 k
  | 0 => rfl
  | k + 1 => by
    have h := q103 k
    show _ = F103_1005 k (l103 k)
    rw [← h]
    exact (funext fun L => funext fun t => funext fun t4 => funext fun t48 => funext fun t49 => funext fun t50 => e103_1005 k L t t4 t48 t49 t50)
theorem w103 (k : Nat) (L : Int × (List (Int)) × List (Int)) : runFn ti (envOf env29) 94 h103 (finT ti true Go.Proofs.Try.f103.results.toList [(.bool, false)] (.bool)) k (bodyOf Go.Proofs.Try.f103) (initS 0 [.fptr (.pair (.int .i64) (.pair (.slice 3 (.int .i64)) (.slice 3 (.int .i64)))) L]) = F103 k (fun (L : Int × List Int × List Int) (t : Int) (t4 : Bool) (t48 : List Int) (t49 : Int) (t50 : Int) => x103 k k103_1005 (t103_1005 L t t4 t48 t49 t50)) L := by kernel_rfl
theorem v103 (k : Nat) (L : Int × (List (Int)) × List (Int)) : runFn ti (envOf env29) 94 h103 (finT ti true Go.Proofs.Try.f103.results.toList [(.bool, false)] (.bool)) k (bodyOf Go.Proofs.Try.f103) (initS 0 [.fptr (.pair (.int .i64) (.pair (.slice 3 (.int .i64)) (.slice 3 (.int .i64)))) L]) = f103 k L := by
  rw [w103]
  have h := q103 k
  unfold f103
  rw [← h]
theorem m103 : Meets Go.Proofs.Try.prog 103 s103 := meets_of_run tiOk env29_ok mo Go.Proofs.Try.func103 (body := bodyOf Go.Proofs.Try.f103) (by kernel_rfl) (N := 94) (by kernel_rfl) (hs := h103) (by
  intro k xs r h
  unfold s103 at h
  dsimp only at h
  split at h
  · exact ⟨Nat.le_of_ble_eq_true rfl, (v103 k _).trans h⟩
  · cases h)
theorem env30_ok : EnvOk Go.Proofs.Try.prog (envOf env30) := envOf_cons m103 Go.Proofs.Try.func103 (by kernel_rfl) (by kernel_rfl) env29_ok

end Go.Proofs.YtnndolcjljhhcaaE
