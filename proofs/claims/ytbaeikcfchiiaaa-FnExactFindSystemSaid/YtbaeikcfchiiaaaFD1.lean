/- Functions, by the engine; printed. -/
import Derived.Test.YtbaeikcfchiiaaaFD0
set_option maxRecDepth 100000
set_option maxHeartbeats 4000000
set_option linter.unusedVariables false
namespace Go.Proofs.YtbaeikcfchiiaaaE
-- laws.szIntS
def f95 (k : Nat) (a : List (Int)) (left : Int) : Option (Int) :=
  bif decide (IntKind.wrap IntKind.i64 (left - (↑(List.length a) : Int)) < 0) then
    some (-1)
  else
    some (IntKind.wrap IntKind.i64 (left - (↑(List.length a) : Int)))
def s95 : Spec := ⟨false, [(.int .i64, false)], true, .int .i64, fun k xs => match xs with | [.slc 3 (.int .i64) a, .int .i64 left] => f95 k a left | _ => none⟩
def env1 : List (FuncId × Spec) := (95, s95) :: env0
theorem v95 (k : Nat) (a : List (Int)) (left : Int) : runFn ti (envOf env0) 12 [] (finT ti true Go.Proofs.Try.f95.results.toList [(.int .i64, false)] (.int .i64)) k (bodyOf Go.Proofs.Try.f95) (initS 0 [.slc 3 (.int .i64) a, .int .i64 left]) = f95 k a left := by kernel_rfl
theorem m95 : Meets Go.Proofs.Try.prog 95 s95 := meets_of_run tiOk env0_ok mo Go.Proofs.Try.func95 (body := bodyOf Go.Proofs.Try.f95) (by kernel_rfl) (N := 12) (by kernel_rfl) (hs := []) (by
  intro k xs r h
  unfold s95 at h
  dsimp only at h
  split at h
  · exact ⟨Nat.le_of_ble_eq_true rfl, (v95 k _ _).trans h⟩
  · cases h)
theorem env1_ok : EnvOk Go.Proofs.Try.prog (envOf env1) := envOf_cons m95 Go.Proofs.Try.func95 (by kernel_rfl) (by kernel_rfl) env0_ok

-- laws.szBox
def f34 (k : Nat) (a_K : Int) (a_Low : List (Int)) (a_High : List (Int)) (left : Int) : Option (Int) :=
  (f95 k a_Low left).bind fun r0 =>
  bif decide (r0 < 0) then
    some (-1)
  else
    (f95 k a_High r0).bind fun r1 =>
    bif decide (r1 < 0) then
      some (-1)
    else
      some r1
def s34 : Spec := ⟨false, [(.int .i64, false)], true, .int .i64, fun k xs => match xs with | [.agg [.int .i64 a_K, .slc 3 (.int .i64) a_Low, .slc 3 (.int .i64) a_High], .int .i64 left] => f34 k a_K a_Low a_High left | _ => none⟩
def env2 : List (FuncId × Spec) := (34, s34) :: env1
theorem v34 (k : Nat) (a_K : Int) (a_Low : List (Int)) (a_High : List (Int)) (left : Int) : runFn ti (envOf env1) 18 [] (finT ti true Go.Proofs.Try.f34.results.toList [(.int .i64, false)] (.int .i64)) k (bodyOf Go.Proofs.Try.f34) (initS 0 [.agg [.int .i64 a_K, .slc 3 (.int .i64) a_Low, .slc 3 (.int .i64) a_High], .int .i64 left]) = f34 k a_K a_Low a_High left := by kernel_rfl
theorem m34 : Meets Go.Proofs.Try.prog 34 s34 := meets_of_run tiOk env1_ok mo Go.Proofs.Try.func34 (body := bodyOf Go.Proofs.Try.f34) (by kernel_rfl) (N := 18) (by kernel_rfl) (hs := []) (by
  intro k xs r h
  unfold s34 at h
  dsimp only at h
  split at h
  · exact ⟨Nat.le_of_ble_eq_true rfl, (v34 k _ _ _ _).trans h⟩
  · cases h)
theorem env2_ok : EnvOk Go.Proofs.Try.prog (envOf env2) := envOf_cons m34 Go.Proofs.Try.func34 (by kernel_rfl) (by kernel_rfl) env1_ok

-- laws.szTermS
def f205 (k : Nat) (a : List (Int × Int × Int × Int)) (left : Int) : Option (Int) :=
  bif decide (IntKind.wrap IntKind.i64 (left - (↑(List.length a) : Int)) < 0) then
    some (-1)
  else
    some (IntKind.wrap IntKind.i64 (left - (↑(List.length a) : Int)))
def s205 : Spec := ⟨false, [(.int .i64, false)], true, .int .i64, fun k xs => match xs with | [.slc 233 (.pair (.int .i64) (.pair (.int .i64) (.pair (.int .i64) (.int .i64)))) a, .int .i64 left] => f205 k a left | _ => none⟩
def env3 : List (FuncId × Spec) := (205, s205) :: env2
theorem v205 (k : Nat) (a : List (Int × Int × Int × Int)) (left : Int) : runFn ti (envOf env2) 12 [] (finT ti true Go.Proofs.Try.f205.results.toList [(.int .i64, false)] (.int .i64)) k (bodyOf Go.Proofs.Try.f205) (initS 0 [.slc 233 (.pair (.int .i64) (.pair (.int .i64) (.pair (.int .i64) (.int .i64)))) a, .int .i64 left]) = f205 k a left := by kernel_rfl
theorem m205 : Meets Go.Proofs.Try.prog 205 s205 := meets_of_run tiOk env2_ok mo Go.Proofs.Try.func205 (body := bodyOf Go.Proofs.Try.f205) (by kernel_rfl) (N := 12) (by kernel_rfl) (hs := []) (by
  intro k xs r h
  unfold s205 at h
  dsimp only at h
  split at h
  · exact ⟨Nat.le_of_ble_eq_true rfl, (v205 k _ _).trans h⟩
  · cases h)
theorem env3_ok : EnvOk Go.Proofs.Try.prog (envOf env3) := envOf_cons m205 Go.Proofs.Try.func205 (by kernel_rfl) (by kernel_rfl) env2_ok

-- laws.szTermSS
def h139 : Hints := [(1005, .lab [(0, .one (.frz 202 (Ty.slice 233 (Ty.pair (Ty.int IntKind.i64) (Ty.pair (Ty.int IntKind.i64) (Ty.pair (Ty.int IntKind.i64) (Ty.int IntKind.i64))))))), (1, .one (.v)), (5, .one (.v))])]
def F139_1005 (k : Nat) (rec1005 : List (List (Int × Int × Int × Int)) → Int → Int → Option (Int)) (a : List (List (Int × Int × Int × Int))) (left : Int) (i : Int) : Option (Int) :=
  bif decide (i < (↑(List.length a) : Int)) then
    bif boundA i (List.length a) then
      (f205 k (List.getD a (Int.toNat i) []) left).bind fun r0 =>
      bif decide (r0 < 0) then
        some (-1)
      else
        rec1005 a r0 (IntKind.wrap IntKind.i64 (i + 1))
    else
      none
  else
    some left
def F139 (k : Nat) (rec1005 : List (List (Int × Int × Int × Int)) → Int → Int → Option (Int)) (a : List (List (Int × Int × Int × Int))) (left : Int) : Option (Int) :=
  bif decide (IntKind.wrap IntKind.i64 (left - (↑(List.length a) : Int)) < 0) then
    some (-1)
  else
    rec1005 a (IntKind.wrap IntKind.i64 (left - (↑(List.length a) : Int))) (0)
def l139 : Nat → (List (List (Int × Int × Int × Int)) → Int → Int → Option (Int))
  | 0 => fun _ _ _ => none
  | k + 1 => F139_1005 k (l139 k)
def f139 (k : Nat) (a : List (List (Int × Int × Int × Int))) (left : Int) : Option (Int) := F139 k (l139 k) a left
def s139 : Spec := ⟨false, [(.int .i64, false)], true, .int .i64, fun k xs => match xs with | [.slc 202 (.slice 233 (.pair (.int .i64) (.pair (.int .i64) (.pair (.int .i64) (.int .i64))))) a, .int .i64 left] => f139 k a left | _ => none⟩
def env4 : List (FuncId × Spec) := (139, s139) :: env3
noncomputable abbrev x139 := exec ti (envOf env3) 27 h139 (finT ti true Go.Proofs.Try.f139.results.toList [(.int .i64, false)] (.int .i64))
noncomputable def k139_1005 : List It := stackAt [.r, .r, .r, .l, .r, .b, .lb none] (bodyOf Go.Proofs.Try.f139) []
def t139_1005 (a : List (List (Int × Int × Int × Int))) (left : Int) (i : Int) : St := [(0, Cell.val (AVal.slc 202 (Ty.slice 233 (Ty.pair (Ty.int IntKind.i64) (Ty.pair (Ty.int IntKind.i64) (Ty.pair (Ty.int IntKind.i64) (Ty.int IntKind.i64))))) a)), (2, Cell.val (AVal.int IntKind.i64 left)), (10, Cell.val (AVal.int IntKind.i64 i))]
theorem e139_1005 (k : Nat) (a : List (List (Int × Int × Int × Int))) (left : Int) (i : Int) : x139 (k + 1) k139_1005 (t139_1005 a left i) = F139_1005 k (fun (a : List (List (Int × Int × Int × Int))) (left : Int) (i : Int) => x139 k k139_1005 (t139_1005 a left i)) a left i := by kernel_rfl
theorem q139 : ∀ k : Nat, (fun (a : List (List (Int × Int × Int × Int))) (left : Int) (i : Int) => x139 k k139_1005 (t139_1005 a left i)) = l139 k
  | 0 => rfl
  | k + 1 => by
    have h := q139 k
    show _ = F139_1005 k (l139 k)
    rw [← h]
    exact (funext fun a => funext fun left => funext fun i => e139_1005 k a left i)
theorem w139 (k : Nat) (a : List (List (Int × Int × Int × Int))) (left : Int) : runFn ti (envOf env3) 27 h139 (finT ti true Go.Proofs.Try.f139.results.toList [(.int .i64, false)] (.int .i64)) k (bodyOf Go.Proofs.Try.f139) (initS 0 [.slc 202 (.slice 233 (.pair (.int .i64) (.pair (.int .i64) (.pair (.int .i64) (.int .i64))))) a, .int .i64 left]) = F139 k (fun (a : List (List (Int × Int × Int × Int))) (left : Int) (i : Int) => x139 k k139_1005 (t139_1005 a left i)) a left := by kernel_rfl
theorem v139 (k : Nat) (a : List (List (Int × Int × Int × Int))) (left : Int) : runFn ti (envOf env3) 27 h139 (finT ti true Go.Proofs.Try.f139.results.toList [(.int .i64, false)] (.int .i64)) k (bodyOf Go.Proofs.Try.f139) (initS 0 [.slc 202 (.slice 233 (.pair (.int .i64) (.pair (.int .i64) (.pair (.int .i64) (.int .i64))))) a, .int .i64 left]) = f139 k a left := by
  rw [w139]
  have h := q139 k
  unfold f139
  rw [← h]
theorem m139 : Meets Go.Proofs.Try.prog 139 s139 := meets_of_run tiOk env3_ok mo Go.Proofs.Try.func139 (body := bodyOf Go.Proofs.Try.f139) (by kernel_rfl) (N := 27) (by kernel_rfl) (hs := h139) (by
  intro k xs r h
  unfold s139 at h
  dsimp only at h
  split at h
  · exact ⟨Nat.le_of_ble_eq_true rfl, (v139 k _ _).trans h⟩
  · cases h)
theorem env4_ok : EnvOk Go.Proofs.Try.prog (envOf env4) := envOf_cons m139 Go.Proofs.Try.func139 (by kernel_rfl) (by kernel_rfl) env3_ok

-- laws.szEntry
def f82 (k : Nat) (a_Name : ByteArray) (a_System : List (List (Int × Int × Int × Int))) (a_Box_K : Int) (a_Box_Low : List (Int)) (a_Box_High : List (Int)) (a_Least : Int) (a_Most : Int) (a_Version : Int) (left : Int) : Option (Int) :=
  bif decide (IntKind.wrap IntKind.i64 (left - (↑(ByteArray.size a_Name) : Int)) < 0) then
    some (-1)
  else
    (f139 k a_System (IntKind.wrap IntKind.i64 (left - (↑(ByteArray.size a_Name) : Int)))).bind fun r0 =>
    bif decide (r0 < 0) then
      some (-1)
    else
      (f34 k a_Box_K a_Box_Low a_Box_High r0).bind fun r1 =>
      bif decide (r1 < 0) then
        some (-1)
      else
        some r1
def s82 : Spec := ⟨false, [(.int .i64, false)], true, .int .i64, fun k xs => match xs with | [.agg [.str a_Name, .slc 202 (.slice 233 (.pair (.int .i64) (.pair (.int .i64) (.pair (.int .i64) (.int .i64))))) a_System, .int .i64 a_Box_K, .slc 3 (.int .i64) a_Box_Low, .slc 3 (.int .i64) a_Box_High, .int .i64 a_Least, .int .i64 a_Most, .int .i64 a_Version], .int .i64 left] => f82 k a_Name a_System a_Box_K a_Box_Low a_Box_High a_Least a_Most a_Version left | _ => none⟩
def env5 : List (FuncId × Spec) := (82, s82) :: env4
theorem v82 (k : Nat) (a_Name : ByteArray) (a_System : List (List (Int × Int × Int × Int))) (a_Box_K : Int) (a_Box_Low : List (Int)) (a_Box_High : List (Int)) (a_Least : Int) (a_Most : Int) (a_Version : Int) (left : Int) : runFn ti (envOf env4) 25 [] (finT ti true Go.Proofs.Try.f82.results.toList [(.int .i64, false)] (.int .i64)) k (bodyOf Go.Proofs.Try.f82) (initS 0 [.agg [.str a_Name, .slc 202 (.slice 233 (.pair (.int .i64) (.pair (.int .i64) (.pair (.int .i64) (.int .i64))))) a_System, .int .i64 a_Box_K, .slc 3 (.int .i64) a_Box_Low, .slc 3 (.int .i64) a_Box_High, .int .i64 a_Least, .int .i64 a_Most, .int .i64 a_Version], .int .i64 left]) = f82 k a_Name a_System a_Box_K a_Box_Low a_Box_High a_Least a_Most a_Version left := by kernel_rfl
theorem m82 : Meets Go.Proofs.Try.prog 82 s82 := meets_of_run tiOk env4_ok mo Go.Proofs.Try.func82 (body := bodyOf Go.Proofs.Try.f82) (by kernel_rfl) (N := 25) (by kernel_rfl) (hs := []) (by
  intro k xs r h
  unfold s82 at h
  dsimp only at h
  split at h
  · exact ⟨Nat.le_of_ble_eq_true rfl, (v82 k _ _ _ _ _ _ _ _ _).trans h⟩
  · cases h)
theorem env5_ok : EnvOk Go.Proofs.Try.prog (envOf env5) := envOf_cons m82 Go.Proofs.Try.func82 (by kernel_rfl) (by kernel_rfl) env4_ok

-- laws.szEntryS
def h22 : Hints := [(1005, .lab [(0, .one (.frz 105 (Ty.pair Ty.str (Ty.pair (Ty.slice 202 (Ty.slice 233 (Ty.pair (Ty.int IntKind.i64) (Ty.pair (Ty.int IntKind.i64) (Ty.pair (Ty.int IntKind.i64) (Ty.int IntKind.i64)))))) (Ty.pair (Ty.pair (Ty.int IntKind.i64) (Ty.pair (Ty.slice 3 (Ty.int IntKind.i64)) (Ty.slice 3 (Ty.int IntKind.i64)))) (Ty.pair (Ty.int IntKind.i64) (Ty.pair (Ty.int IntKind.i64) (Ty.int IntKind.i64)))))))), (1, .one (.v)), (5, .one (.v))])]
def F22_1005 (k : Nat) (rec1005 : List (ByteArray × List (List (Int × Int × Int × Int)) × (Int × List Int × List Int) × Int × Int × Int) → Int → Int → Option (Int)) (a : List (ByteArray × List (List (Int × Int × Int × Int)) × (Int × List Int × List Int) × Int × Int × Int)) (left : Int) (i : Int) : Option (Int) :=
  bif decide (i < (↑(List.length a) : Int)) then
    bif boundA i (List.length a) then
      (f82 k (List.getD a (Int.toNat i) (ByteArray.empty, [], (0, [], []), 0, 0, 0)).fst (List.getD a (Int.toNat i) (ByteArray.empty, [], (0, [], []), 0, 0, 0)).snd.fst (List.getD a (Int.toNat i) (ByteArray.empty, [], (0, [], []), 0, 0, 0)).snd.snd.fst.fst (List.getD a (Int.toNat i) (ByteArray.empty, [], (0, [], []), 0, 0, 0)).snd.snd.fst.snd.fst (List.getD a (Int.toNat i) (ByteArray.empty, [], (0, [], []), 0, 0, 0)).snd.snd.fst.snd.snd (List.getD a (Int.toNat i) (ByteArray.empty, [], (0, [], []), 0, 0, 0)).snd.snd.snd.fst (List.getD a (Int.toNat i) (ByteArray.empty, [], (0, [], []), 0, 0, 0)).snd.snd.snd.snd.fst (List.getD a (Int.toNat i) (ByteArray.empty, [], (0, [], []), 0, 0, 0)).snd.snd.snd.snd.snd left).bind fun r0 =>
      bif decide (r0 < 0) then
        some (-1)
      else
        rec1005 a r0 (IntKind.wrap IntKind.i64 (i + 1))
    else
      none
  else
    some left
def F22 (k : Nat) (rec1005 : List (ByteArray × List (List (Int × Int × Int × Int)) × (Int × List Int × List Int) × Int × Int × Int) → Int → Int → Option (Int)) (a : List (ByteArray × (List (List (Int × Int × Int × Int))) × (Int × (List (Int)) × List (Int)) × Int × Int × Int)) (left : Int) : Option (Int) :=
  bif decide (IntKind.wrap IntKind.i64 (left - (↑(List.length a) : Int)) < 0) then
    some (-1)
  else
    rec1005 a (IntKind.wrap IntKind.i64 (left - (↑(List.length a) : Int))) (0)
def l22 : Nat → (List (ByteArray × List (List (Int × Int × Int × Int)) × (Int × List Int × List Int) × Int × Int × Int) → Int → Int → Option (Int))
  | 0 => fun _ _ _ => none
  | k + 1 => F22_1005 k (l22 k)
def f22 (k : Nat) (a : List (ByteArray × (List (List (Int × Int × Int × Int))) × (Int × (List (Int)) × List (Int)) × Int × Int × Int)) (left : Int) : Option (Int) := F22 k (l22 k) a left
def s22 : Spec := ⟨false, [(.int .i64, false)], true, .int .i64, fun k xs => match xs with | [.slc 105 (.pair (.str) (.pair (.slice 202 (.slice 233 (.pair (.int .i64) (.pair (.int .i64) (.pair (.int .i64) (.int .i64)))))) (.pair (.pair (.int .i64) (.pair (.slice 3 (.int .i64)) (.slice 3 (.int .i64)))) (.pair (.int .i64) (.pair (.int .i64) (.int .i64)))))) a, .int .i64 left] => f22 k a left | _ => none⟩
def env6 : List (FuncId × Spec) := (22, s22) :: env5
noncomputable abbrev x22 := exec ti (envOf env5) 27 h22 (finT ti true Go.Proofs.Try.f22.results.toList [(.int .i64, false)] (.int .i64))
noncomputable def k22_1005 : List It := stackAt [.r, .r, .r, .l, .r, .b, .lb none] (bodyOf Go.Proofs.Try.f22) []
def t22_1005 (a : List (ByteArray × List (List (Int × Int × Int × Int)) × (Int × List Int × List Int) × Int × Int × Int)) (left : Int) (i : Int) : St := [(0, Cell.val (AVal.slc 105 (Ty.pair Ty.str (Ty.pair (Ty.slice 202 (Ty.slice 233 (Ty.pair (Ty.int IntKind.i64) (Ty.pair (Ty.int IntKind.i64) (Ty.pair (Ty.int IntKind.i64) (Ty.int IntKind.i64)))))) (Ty.pair (Ty.pair (Ty.int IntKind.i64) (Ty.pair (Ty.slice 3 (Ty.int IntKind.i64)) (Ty.slice 3 (Ty.int IntKind.i64)))) (Ty.pair (Ty.int IntKind.i64) (Ty.pair (Ty.int IntKind.i64) (Ty.int IntKind.i64)))))) a)), (2, Cell.val (AVal.int IntKind.i64 left)), (10, Cell.val (AVal.int IntKind.i64 i))]
theorem e22_1005 (k : Nat) (a : List (ByteArray × List (List (Int × Int × Int × Int)) × (Int × List Int × List Int) × Int × Int × Int)) (left : Int) (i : Int) : x22 (k + 1) k22_1005 (t22_1005 a left i) = F22_1005 k (fun (a : List (ByteArray × List (List (Int × Int × Int × Int)) × (Int × List Int × List Int) × Int × Int × Int)) (left : Int) (i : Int) => x22 k k22_1005 (t22_1005 a left i)) a left i := by kernel_rfl
theorem q22 : ∀ k : Nat, (fun (a : List (ByteArray × List (List (Int × Int × Int × Int)) × (Int × List Int × List Int) × Int × Int × Int)) (left : Int) (i : Int) => x22 k k22_1005 (t22_1005 a left i)) = l22 k
  | 0 => rfl
  | k + 1 => by
    have h := q22 k
    show _ = F22_1005 k (l22 k)
    rw [← h]
    exact (funext fun a => funext fun left => funext fun i => e22_1005 k a left i)
theorem w22 (k : Nat) (a : List (ByteArray × (List (List (Int × Int × Int × Int))) × (Int × (List (Int)) × List (Int)) × Int × Int × Int)) (left : Int) : runFn ti (envOf env5) 27 h22 (finT ti true Go.Proofs.Try.f22.results.toList [(.int .i64, false)] (.int .i64)) k (bodyOf Go.Proofs.Try.f22) (initS 0 [.slc 105 (.pair (.str) (.pair (.slice 202 (.slice 233 (.pair (.int .i64) (.pair (.int .i64) (.pair (.int .i64) (.int .i64)))))) (.pair (.pair (.int .i64) (.pair (.slice 3 (.int .i64)) (.slice 3 (.int .i64)))) (.pair (.int .i64) (.pair (.int .i64) (.int .i64)))))) a, .int .i64 left]) = F22 k (fun (a : List (ByteArray × List (List (Int × Int × Int × Int)) × (Int × List Int × List Int) × Int × Int × Int)) (left : Int) (i : Int) => x22 k k22_1005 (t22_1005 a left i)) a left := by kernel_rfl
theorem v22 (k : Nat) (a : List (ByteArray × (List (List (Int × Int × Int × Int))) × (Int × (List (Int)) × List (Int)) × Int × Int × Int)) (left : Int) : runFn ti (envOf env5) 27 h22 (finT ti true Go.Proofs.Try.f22.results.toList [(.int .i64, false)] (.int .i64)) k (bodyOf Go.Proofs.Try.f22) (initS 0 [.slc 105 (.pair (.str) (.pair (.slice 202 (.slice 233 (.pair (.int .i64) (.pair (.int .i64) (.pair (.int .i64) (.int .i64)))))) (.pair (.pair (.int .i64) (.pair (.slice 3 (.int .i64)) (.slice 3 (.int .i64)))) (.pair (.int .i64) (.pair (.int .i64) (.int .i64)))))) a, .int .i64 left]) = f22 k a left := by
  rw [w22]
  have h := q22 k
  unfold f22
  rw [← h]
theorem m22 : Meets Go.Proofs.Try.prog 22 s22 := meets_of_run tiOk env5_ok mo Go.Proofs.Try.func22 (body := bodyOf Go.Proofs.Try.f22) (by kernel_rfl) (N := 27) (by kernel_rfl) (hs := h22) (by
  intro k xs r h
  unfold s22 at h
  dsimp only at h
  split at h
  · exact ⟨Nat.le_of_ble_eq_true rfl, (v22 k _ _).trans h⟩
  · cases h)
theorem env6_ok : EnvOk Go.Proofs.Try.prog (envOf env6) := envOf_cons m22 Go.Proofs.Try.func22 (by kernel_rfl) (by kernel_rfl) env5_ok

-- laws.roomBehind
def f71 (k : Nat) (n : Int) : Option (Int) :=
  bif decide (Int.tmod n 6 = 5) then
    some (0)
  else
    bif decide (Int.tmod n 3 = 0) then
      some (1)
    else
      some n
def s71 : Spec := ⟨false, [(.int .i64, false)], true, .int .i64, fun k xs => match xs with | [.int .i64 n] => f71 k n | _ => none⟩
def env7 : List (FuncId × Spec) := (71, s71) :: env6
theorem v71 (k : Nat) (n : Int) : runFn ti (envOf env6) 10 [] (finT ti true Go.Proofs.Try.f71.results.toList [(.int .i64, false)] (.int .i64)) k (bodyOf Go.Proofs.Try.f71) (initS 0 [.int .i64 n]) = f71 k n := by kernel_rfl
theorem m71 : Meets Go.Proofs.Try.prog 71 s71 := meets_of_run tiOk env6_ok mo Go.Proofs.Try.func71 (body := bodyOf Go.Proofs.Try.f71) (by kernel_rfl) (N := 10) (by kernel_rfl) (hs := []) (by
  intro k xs r h
  unfold s71 at h
  dsimp only at h
  split at h
  · exact ⟨Nat.le_of_ble_eq_true rfl, (v71 k _).trans h⟩
  · cases h)
theorem env7_ok : EnvOk Go.Proofs.Try.prog (envOf env7) := envOf_cons m71 Go.Proofs.Try.func71 (by kernel_rfl) (by kernel_rfl) env6_ok

-- laws.toIntS
def h15 : Hints := [(1005, .lab [(0, .one (.frz 3 (Ty.int IntKind.i64))), (5, .one (.own 3 (Ty.int IntKind.i64))), (6, .one (.v))]), (1009, .lab [(0, .one (.frz 3 (Ty.int IntKind.i64))), (5, .one (.own 3 (Ty.int IntKind.i64))), (7, .one (.v))])]
def F15_1005 (k : Nat) (rec1005 : List Int → List Int → Int → Option (List (Int) × Nat)) (rec1009 : List Int → List Int → Int → Option (List (Int) × Nat)) (a : List Int) (outs : List Int) (i : Int) : Option (List (Int) × Nat) :=
  bif decide (i < (↑(List.length a) : Int)) then
    bif boundA i (List.length a) then
      bif boundA i (List.length outs) then
        bif Nat.blt (Int.toNat i) (List.length outs) then
          rec1005 a (List.set outs (Int.toNat i) (List.getD a (Int.toNat i) 0)) (IntKind.wrap IntKind.i64 (i + 1))
        else
          none
      else
        none
    else
      none
  else
    rec1009 a outs ((↑(List.length a) : Int))
def F15_1009 (k : Nat) (rec1005 : List Int → List Int → Int → Option (List (Int) × Nat)) (rec1009 : List Int → List Int → Int → Option (List (Int) × Nat)) (a : List Int) (outs : List Int) (i : Int) : Option (List (Int) × Nat) :=
  bif decide (i < (↑(List.length outs) : Int)) then
    bif boundA i (List.length outs) then
      bif Nat.blt (Int.toNat i) (List.length outs) then
        rec1009 a (List.set outs (Int.toNat i) (-7000000000000000101)) (IntKind.wrap IntKind.i64 (i + 1))
      else
        none
    else
      none
  else
    bif boundE (↑(List.length a) : Int) (List.length outs) then
      some ((outs, Option.getD (some (Int.toNat (↑(List.length a) : Int))) (List.length outs)))
    else
      none
def F15 (k : Nat) (rec1005 : List Int → List Int → Int → Option (List (Int) × Nat)) (rec1009 : List Int → List Int → Int → Option (List (Int) × Nat)) (a : List (Int)) (bare : Bool) : Option (List (Int) × Nat) :=
  bif bare then
    bif decide ((↑(List.length a) : Int) = 0) then
      some (([], 0))
    else
      (f71 k (↑(List.length a) : Int)).bind fun r0 =>
      bif decide (0 ≤ IntKind.wrap IntKind.i64 ((↑(List.length a) : Int) + r0)) then
        bif decide (IntKind.wrap IntKind.i64 ((↑(List.length a) : Int) + r0) ≤ IntKind.wrap IntKind.i64 ((↑(List.length a) : Int) + r0)) then
          bif decide (IntKind.wrap IntKind.i64 ((↑(List.length a) : Int) + r0) * (↑8 : Int) ≤ 140737488355328) then
            rec1005 a (List.replicate (Int.toNat (IntKind.wrap IntKind.i64 ((↑(List.length a) : Int) + r0))) (dflt (Ty.int IntKind.i64))) (0)
          else
            none
        else
          none
      else
        none
  else
    (f71 k (↑(List.length a) : Int)).bind fun r1 =>
    bif decide (0 ≤ IntKind.wrap IntKind.i64 ((↑(List.length a) : Int) + r1)) then
      bif decide (IntKind.wrap IntKind.i64 ((↑(List.length a) : Int) + r1) ≤ IntKind.wrap IntKind.i64 ((↑(List.length a) : Int) + r1)) then
        bif decide (IntKind.wrap IntKind.i64 ((↑(List.length a) : Int) + r1) * (↑8 : Int) ≤ 140737488355328) then
          rec1005 a (List.replicate (Int.toNat (IntKind.wrap IntKind.i64 ((↑(List.length a) : Int) + r1))) (dflt (Ty.int IntKind.i64))) (0)
        else
          none
      else
        none
    else
      none
def l15 : Nat → (List Int → List Int → Int → Option (List (Int) × Nat)) × (List Int → List Int → Int → Option (List (Int) × Nat))
  | 0 => (fun _ _ _ => none, fun _ _ _ => none)
  | k + 1 => (F15_1005 k ((l15 k).1) ((l15 k).2), F15_1009 k ((l15 k).1) ((l15 k).2))
def f15 (k : Nat) (a : List (Int)) (bare : Bool) : Option (List (Int) × Nat) := F15 k ((l15 k).1) ((l15 k).2) a bare
def s15 : Spec := ⟨false, [(.vslice 3 (.int .i64), false)], true, .vslice 3 (.int .i64), fun k xs => match xs with | [.slc 3 (.int .i64) a, .bool bare] => f15 k a bare | _ => none⟩
def env8 : List (FuncId × Spec) := (15, s15) :: env7
noncomputable abbrev x15 := exec tiV (envOf env7) 49 h15 (finT tiV true Go.Proofs.Try.f15.results.toList [(.vslice 3 (.int .i64), false)] (.vslice 3 (.int .i64)))
noncomputable def k15_1005 : List It := stackAt [.r, .r, .r, .l, .r, .b, .lb none] (bodyOf Go.Proofs.Try.f15) []
def t15_1005 (a : List Int) (outs : List Int) (i : Int) : St := [(0, Cell.val (AVal.slc 3 (Ty.int IntKind.i64) a)), (10, Cell.val (AVal.ref 3 none)), (3, Cell.row true 3 (Ty.int IntKind.i64) outs), (12, Cell.val (AVal.int IntKind.i64 i))]
noncomputable def k15_1009 : List It := stackAt [.r, .r, .r, .r, .l, .r, .b, .lb none] (bodyOf Go.Proofs.Try.f15) []
def t15_1009 (a : List Int) (outs : List Int) (i : Int) : St := [(0, Cell.val (AVal.slc 3 (Ty.int IntKind.i64) a)), (10, Cell.val (AVal.ref 3 none)), (3, Cell.row true 3 (Ty.int IntKind.i64) outs), (14, Cell.val (AVal.int IntKind.i64 i))]
theorem e15_1005 (k : Nat) (a : List Int) (outs : List Int) (i : Int) : x15 (k + 1) k15_1005 (t15_1005 a outs i) = F15_1005 k (fun (a : List Int) (outs : List Int) (i : Int) => x15 k k15_1005 (t15_1005 a outs i)) (fun (a : List Int) (outs : List Int) (i : Int) => x15 k k15_1009 (t15_1009 a outs i)) a outs i := by kernel_rfl
theorem e15_1009 (k : Nat) (a : List Int) (outs : List Int) (i : Int) : x15 (k + 1) k15_1009 (t15_1009 a outs i) = F15_1009 k (fun (a : List Int) (outs : List Int) (i : Int) => x15 k k15_1005 (t15_1005 a outs i)) (fun (a : List Int) (outs : List Int) (i : Int) => x15 k k15_1009 (t15_1009 a outs i)) a outs i := by kernel_rfl
theorem q15 : ∀ k : Nat, ((fun (a : List Int) (outs : List Int) (i : Int) => x15 k k15_1005 (t15_1005 a outs i)), (fun (a : List Int) (outs : List Int) (i : Int) => x15 k k15_1009 (t15_1009 a outs i))) = l15 k
  | 0 => rfl
  | k + 1 => by
    have h := q15 k
    show _ = (F15_1005 k ((l15 k).1) ((l15 k).2), F15_1009 k ((l15 k).1) ((l15 k).2))
    rw [← h]
    exact (Prod.ext (funext fun a => funext fun outs => funext fun i => e15_1005 k a outs i) (funext fun a => funext fun outs => funext fun i => e15_1009 k a outs i))
theorem w15 (k : Nat) (a : List (Int)) (bare : Bool) : runFn tiV (envOf env7) 49 h15 (finT tiV true Go.Proofs.Try.f15.results.toList [(.vslice 3 (.int .i64), false)] (.vslice 3 (.int .i64))) k (bodyOf Go.Proofs.Try.f15) (initS 0 [.slc 3 (.int .i64) a, .bool bare]) = F15 k (fun (a : List Int) (outs : List Int) (i : Int) => x15 k k15_1005 (t15_1005 a outs i)) (fun (a : List Int) (outs : List Int) (i : Int) => x15 k k15_1009 (t15_1009 a outs i)) a bare := by kernel_rfl
theorem v15 (k : Nat) (a : List (Int)) (bare : Bool) : runFn tiV (envOf env7) 49 h15 (finT tiV true Go.Proofs.Try.f15.results.toList [(.vslice 3 (.int .i64), false)] (.vslice 3 (.int .i64))) k (bodyOf Go.Proofs.Try.f15) (initS 0 [.slc 3 (.int .i64) a, .bool bare]) = f15 k a bare := by
  rw [w15]
  have h := q15 k
  unfold f15
  rw [← h]
theorem m15 : Meets Go.Proofs.Try.prog 15 s15 := meets_of_run tiVOk env7_ok mo Go.Proofs.Try.func15 (body := bodyOf Go.Proofs.Try.f15) (by kernel_rfl) (N := 49) (by kernel_rfl) (hs := h15) (by
  intro k xs r h
  unfold s15 at h
  dsimp only at h
  split at h
  · exact ⟨Nat.le_of_ble_eq_true rfl, (v15 k _ _).trans h⟩
  · cases h)
theorem env8_ok : EnvOk Go.Proofs.Try.prog (envOf env8) := envOf_cons m15 Go.Proofs.Try.func15 (by kernel_rfl) (by kernel_rfl) env7_ok

-- laws.toBox
def f37 (k : Nat) (a_K : Int) (a_Low : List (Int)) (a_High : List (Int)) (bare : Bool) : Option (Int × (List (Int) × Nat) × List (Int) × Nat) :=
  (f15 k a_Low bare).bind fun r0 =>
  (f15 k a_High bare).bind fun r1 =>
  some ((a_K, (r0.fst, Option.getD (some r0.snd) (List.length r0.fst)), r1.fst, Option.getD (some r1.snd) (List.length r1.fst)))
def s37 : Spec := ⟨false, [(.pair (.int .i64) (.pair (.vslice 3 (.int .i64)) (.vslice 3 (.int .i64))), true)], true, .pair (.int .i64) (.pair (.vslice 3 (.int .i64)) (.vslice 3 (.int .i64))), fun k xs => match xs with | [.agg [.int .i64 a_K, .slc 3 (.int .i64) a_Low, .slc 3 (.int .i64) a_High], .bool bare] => f37 k a_K a_Low a_High bare | _ => none⟩
def env9 : List (FuncId × Spec) := (37, s37) :: env8
theorem v37 (k : Nat) (a_K : Int) (a_Low : List (Int)) (a_High : List (Int)) (bare : Bool) : runFn tiV (envOf env8) 20 [] (finT tiV true Go.Proofs.Try.f37.results.toList [(.pair (.int .i64) (.pair (.vslice 3 (.int .i64)) (.vslice 3 (.int .i64))), true)] (.pair (.int .i64) (.pair (.vslice 3 (.int .i64)) (.vslice 3 (.int .i64))))) k (bodyOf Go.Proofs.Try.f37) (initS 0 [.agg [.int .i64 a_K, .slc 3 (.int .i64) a_Low, .slc 3 (.int .i64) a_High], .bool bare]) = f37 k a_K a_Low a_High bare := by kernel_rfl
theorem m37 : Meets Go.Proofs.Try.prog 37 s37 := meets_of_run tiVOk env8_ok mo Go.Proofs.Try.func37 (body := bodyOf Go.Proofs.Try.f37) (by kernel_rfl) (N := 20) (by kernel_rfl) (hs := []) (by
  intro k xs r h
  unfold s37 at h
  dsimp only at h
  split at h
  · exact ⟨Nat.le_of_ble_eq_true rfl, (v37 k _ _ _ _).trans h⟩
  · cases h)
theorem env9_ok : EnvOk Go.Proofs.Try.prog (envOf env9) := envOf_cons m37 Go.Proofs.Try.func37 (by kernel_rfl) (by kernel_rfl) env8_ok

-- laws.fillerTerm
def f142 (k : Nat)  : Option (Int × Int × Int × Int) :=
  some ((-7000000000000000101, -7000000000000000101, -7000000000000000101, -7000000000000000101))
def s142 : Spec := ⟨false, [(.pair (.int .i64) (.pair (.int .i64) (.pair (.int .i64) (.int .i64))), true)], true, .pair (.int .i64) (.pair (.int .i64) (.pair (.int .i64) (.int .i64))), fun k xs => match xs with | [] => f142 k  | _ => none⟩
def env10 : List (FuncId × Spec) := (142, s142) :: env9
theorem v142 (k : Nat)  : runFn tiV (envOf env9) 2 [] (finT tiV true Go.Proofs.Try.f142.results.toList [(.pair (.int .i64) (.pair (.int .i64) (.pair (.int .i64) (.int .i64))), true)] (.pair (.int .i64) (.pair (.int .i64) (.pair (.int .i64) (.int .i64))))) k (bodyOf Go.Proofs.Try.f142) (initS 0 []) = f142 k  := by kernel_rfl
theorem m142 : Meets Go.Proofs.Try.prog 142 s142 := meets_of_run tiVOk env9_ok mo Go.Proofs.Try.func142 (body := bodyOf Go.Proofs.Try.f142) (by kernel_rfl) (N := 2) (by kernel_rfl) (hs := []) (by
  intro k xs r h
  unfold s142 at h
  dsimp only at h
  split at h
  · exact ⟨Nat.le_of_ble_eq_true rfl, (v142 k).trans h⟩
  · cases h)
theorem env10_ok : EnvOk Go.Proofs.Try.prog (envOf env10) := envOf_cons m142 Go.Proofs.Try.func142 (by kernel_rfl) (by kernel_rfl) env9_ok

-- laws.toTerm
def f253 (k : Nat) (a_C : Int) (a_X : Int) (a_Y : Int) (a_Z : Int) : Option (Int × Int × Int × Int) :=
  some ((a_C, a_X, a_Y, a_Z))
def s253 : Spec := ⟨false, [(.pair (.int .i64) (.pair (.int .i64) (.pair (.int .i64) (.int .i64))), true)], true, .pair (.int .i64) (.pair (.int .i64) (.pair (.int .i64) (.int .i64))), fun k xs => match xs with | [.agg [.int .i64 a_C, .int .i64 a_X, .int .i64 a_Y, .int .i64 a_Z]] => f253 k a_C a_X a_Y a_Z | _ => none⟩
def env11 : List (FuncId × Spec) := (253, s253) :: env10
theorem v253 (k : Nat) (a_C : Int) (a_X : Int) (a_Y : Int) (a_Z : Int) : runFn tiV (envOf env10) 17 [] (finT tiV true Go.Proofs.Try.f253.results.toList [(.pair (.int .i64) (.pair (.int .i64) (.pair (.int .i64) (.int .i64))), true)] (.pair (.int .i64) (.pair (.int .i64) (.pair (.int .i64) (.int .i64))))) k (bodyOf Go.Proofs.Try.f253) (initS 0 [.agg [.int .i64 a_C, .int .i64 a_X, .int .i64 a_Y, .int .i64 a_Z]]) = f253 k a_C a_X a_Y a_Z := by kernel_rfl
theorem m253 : Meets Go.Proofs.Try.prog 253 s253 := meets_of_run tiVOk env10_ok mo Go.Proofs.Try.func253 (body := bodyOf Go.Proofs.Try.f253) (by kernel_rfl) (N := 17) (by kernel_rfl) (hs := []) (by
  intro k xs r h
  unfold s253 at h
  dsimp only at h
  split at h
  · exact ⟨Nat.le_of_ble_eq_true rfl, (v253 k _ _ _ _).trans h⟩
  · cases h)
theorem env11_ok : EnvOk Go.Proofs.Try.prog (envOf env11) := envOf_cons m253 Go.Proofs.Try.func253 (by kernel_rfl) (by kernel_rfl) env10_ok

-- laws.toTermS
def h208 : Hints := [(1005, .lab [(0, .one (.frz 233 (Ty.pair (Ty.int IntKind.i64) (Ty.pair (Ty.int IntKind.i64) (Ty.pair (Ty.int IntKind.i64) (Ty.int IntKind.i64)))))), (5, .one (.own 150 (Ty.pair (Ty.int IntKind.i64) (Ty.pair (Ty.int IntKind.i64) (Ty.pair (Ty.int IntKind.i64) (Ty.int IntKind.i64)))))), (6, .one (.v))]), (1009, .lab [(0, .one (.frz 233 (Ty.pair (Ty.int IntKind.i64) (Ty.pair (Ty.int IntKind.i64) (Ty.pair (Ty.int IntKind.i64) (Ty.int IntKind.i64)))))), (5, .one (.own 150 (Ty.pair (Ty.int IntKind.i64) (Ty.pair (Ty.int IntKind.i64) (Ty.pair (Ty.int IntKind.i64) (Ty.int IntKind.i64)))))), (7, .one (.v))])]
def F208_1005 (k : Nat) (rec1005 : List (Int × Int × Int × Int) → List (Int × Int × Int × Int) → Int → Option (List (Int × Int × Int × Int) × Nat)) (rec1009 : List (Int × Int × Int × Int) → List (Int × Int × Int × Int) → Int → Option (List (Int × Int × Int × Int) × Nat)) (a : List (Int × Int × Int × Int)) (outs : List (Int × Int × Int × Int)) (i : Int) : Option (List (Int × Int × Int × Int) × Nat) :=
  bif decide (i < (↑(List.length a) : Int)) then
    bif boundA i (List.length a) then
      bif boundA i (List.length outs) then
        bif Nat.blt (Int.toNat i) (List.length outs) then
          rec1005 a (List.set outs (Int.toNat i) ((List.getD a (Int.toNat i) (0, 0, 0, 0)).fst, (List.getD a (Int.toNat i) (0, 0, 0, 0)).snd.fst, (List.getD a (Int.toNat i) (0, 0, 0, 0)).snd.snd.fst, (List.getD a (Int.toNat i) (0, 0, 0, 0)).snd.snd.snd)) (IntKind.wrap IntKind.i64 (i + 1))
        else
          none
      else
        none
    else
      none
  else
    rec1009 a outs ((↑(List.length a) : Int))
def F208_1009 (k : Nat) (rec1005 : List (Int × Int × Int × Int) → List (Int × Int × Int × Int) → Int → Option (List (Int × Int × Int × Int) × Nat)) (rec1009 : List (Int × Int × Int × Int) → List (Int × Int × Int × Int) → Int → Option (List (Int × Int × Int × Int) × Nat)) (a : List (Int × Int × Int × Int)) (outs : List (Int × Int × Int × Int)) (i : Int) : Option (List (Int × Int × Int × Int) × Nat) :=
  bif decide (i < (↑(List.length outs) : Int)) then
    bif boundA i (List.length outs) then
      bif Nat.blt (Int.toNat i) (List.length outs) then
        rec1009 a (List.set outs (Int.toNat i) (-7000000000000000101, -7000000000000000101, -7000000000000000101, -7000000000000000101)) (IntKind.wrap IntKind.i64 (i + 1))
      else
        none
    else
      none
  else
    bif boundE (↑(List.length a) : Int) (List.length outs) then
      some ((outs, Option.getD (some (Int.toNat (↑(List.length a) : Int))) (List.length outs)))
    else
      none
def F208 (k : Nat) (rec1005 : List (Int × Int × Int × Int) → List (Int × Int × Int × Int) → Int → Option (List (Int × Int × Int × Int) × Nat)) (rec1009 : List (Int × Int × Int × Int) → List (Int × Int × Int × Int) → Int → Option (List (Int × Int × Int × Int) × Nat)) (a : List (Int × Int × Int × Int)) (bare : Bool) : Option (List (Int × Int × Int × Int) × Nat) :=
  bif bare then
    bif decide ((↑(List.length a) : Int) = 0) then
      some (([], 0))
    else
      (f71 k (↑(List.length a) : Int)).bind fun r0 =>
      bif decide (0 ≤ IntKind.wrap IntKind.i64 ((↑(List.length a) : Int) + r0)) then
        bif decide (IntKind.wrap IntKind.i64 ((↑(List.length a) : Int) + r0) ≤ IntKind.wrap IntKind.i64 ((↑(List.length a) : Int) + r0)) then
          bif decide (IntKind.wrap IntKind.i64 ((↑(List.length a) : Int) + r0) * (↑32 : Int) ≤ 140737488355328) then
            rec1005 a (List.replicate (Int.toNat (IntKind.wrap IntKind.i64 ((↑(List.length a) : Int) + r0))) (dflt (Ty.pair (Ty.int IntKind.i64) (Ty.pair (Ty.int IntKind.i64) (Ty.pair (Ty.int IntKind.i64) (Ty.int IntKind.i64)))))) (0)
          else
            none
        else
          none
      else
        none
  else
    (f71 k (↑(List.length a) : Int)).bind fun r1 =>
    bif decide (0 ≤ IntKind.wrap IntKind.i64 ((↑(List.length a) : Int) + r1)) then
      bif decide (IntKind.wrap IntKind.i64 ((↑(List.length a) : Int) + r1) ≤ IntKind.wrap IntKind.i64 ((↑(List.length a) : Int) + r1)) then
        bif decide (IntKind.wrap IntKind.i64 ((↑(List.length a) : Int) + r1) * (↑32 : Int) ≤ 140737488355328) then
          rec1005 a (List.replicate (Int.toNat (IntKind.wrap IntKind.i64 ((↑(List.length a) : Int) + r1))) (dflt (Ty.pair (Ty.int IntKind.i64) (Ty.pair (Ty.int IntKind.i64) (Ty.pair (Ty.int IntKind.i64) (Ty.int IntKind.i64)))))) (0)
        else
          none
      else
        none
    else
      none
def l208 : Nat → (List (Int × Int × Int × Int) → List (Int × Int × Int × Int) → Int → Option (List (Int × Int × Int × Int) × Nat)) × (List (Int × Int × Int × Int) → List (Int × Int × Int × Int) → Int → Option (List (Int × Int × Int × Int) × Nat))
  | 0 => (fun _ _ _ => none, fun _ _ _ => none)
  | k + 1 => (F208_1005 k ((l208 k).1) ((l208 k).2), F208_1009 k ((l208 k).1) ((l208 k).2))
def f208 (k : Nat) (a : List (Int × Int × Int × Int)) (bare : Bool) : Option (List (Int × Int × Int × Int) × Nat) := F208 k ((l208 k).1) ((l208 k).2) a bare
def s208 : Spec := ⟨false, [(.vslice 150 (.pair (.int .i64) (.pair (.int .i64) (.pair (.int .i64) (.int .i64)))), false)], true, .vslice 150 (.pair (.int .i64) (.pair (.int .i64) (.pair (.int .i64) (.int .i64)))), fun k xs => match xs with | [.slc 233 (.pair (.int .i64) (.pair (.int .i64) (.pair (.int .i64) (.int .i64)))) a, .bool bare] => f208 k a bare | _ => none⟩
def env12 : List (FuncId × Spec) := (208, s208) :: env11
noncomputable abbrev x208 := exec tiV (envOf env11) 51 h208 (finT tiV true Go.Proofs.Try.f208.results.toList [(.vslice 150 (.pair (.int .i64) (.pair (.int .i64) (.pair (.int .i64) (.int .i64)))), false)] (.vslice 150 (.pair (.int .i64) (.pair (.int .i64) (.pair (.int .i64) (.int .i64))))))
noncomputable def k208_1005 : List It := stackAt [.r, .r, .r, .l, .r, .b, .lb none] (bodyOf Go.Proofs.Try.f208) []
def t208_1005 (a : List (Int × Int × Int × Int)) (outs : List (Int × Int × Int × Int)) (i : Int) : St := [(0, Cell.val (AVal.slc 233 (Ty.pair (Ty.int IntKind.i64) (Ty.pair (Ty.int IntKind.i64) (Ty.pair (Ty.int IntKind.i64) (Ty.int IntKind.i64)))) a)), (10, Cell.val (AVal.ref 3 none)), (3, Cell.row true 150 (Ty.pair (Ty.int IntKind.i64) (Ty.pair (Ty.int IntKind.i64) (Ty.pair (Ty.int IntKind.i64) (Ty.int IntKind.i64)))) outs), (12, Cell.val (AVal.int IntKind.i64 i))]
noncomputable def k208_1009 : List It := stackAt [.r, .r, .r, .r, .l, .r, .b, .lb none] (bodyOf Go.Proofs.Try.f208) []
def t208_1009 (a : List (Int × Int × Int × Int)) (outs : List (Int × Int × Int × Int)) (i : Int) : St := [(0, Cell.val (AVal.slc 233 (Ty.pair (Ty.int IntKind.i64) (Ty.pair (Ty.int IntKind.i64) (Ty.pair (Ty.int IntKind.i64) (Ty.int IntKind.i64)))) a)), (10, Cell.val (AVal.ref 3 none)), (3, Cell.row true 150 (Ty.pair (Ty.int IntKind.i64) (Ty.pair (Ty.int IntKind.i64) (Ty.pair (Ty.int IntKind.i64) (Ty.int IntKind.i64)))) outs), (14, Cell.val (AVal.int IntKind.i64 i))]
theorem e208_1005 (k : Nat) (a : List (Int × Int × Int × Int)) (outs : List (Int × Int × Int × Int)) (i : Int) : x208 (k + 1) k208_1005 (t208_1005 a outs i) = F208_1005 k (fun (a : List (Int × Int × Int × Int)) (outs : List (Int × Int × Int × Int)) (i : Int) => x208 k k208_1005 (t208_1005 a outs i)) (fun (a : List (Int × Int × Int × Int)) (outs : List (Int × Int × Int × Int)) (i : Int) => x208 k k208_1009 (t208_1009 a outs i)) a outs i := by kernel_rfl
theorem e208_1009 (k : Nat) (a : List (Int × Int × Int × Int)) (outs : List (Int × Int × Int × Int)) (i : Int) : x208 (k + 1) k208_1009 (t208_1009 a outs i) = F208_1009 k (fun (a : List (Int × Int × Int × Int)) (outs : List (Int × Int × Int × Int)) (i : Int) => x208 k k208_1005 (t208_1005 a outs i)) (fun (a : List (Int × Int × Int × Int)) (outs : List (Int × Int × Int × Int)) (i : Int) => x208 k k208_1009 (t208_1009 a outs i)) a outs i := by kernel_rfl
theorem q208 : ∀ k : Nat, ((fun (a : List (Int × Int × Int × Int)) (outs : List (Int × Int × Int × Int)) (i : Int) => x208 k k208_1005 (t208_1005 a outs i)), (fun (a : List (Int × Int × Int × Int)) (outs : List (Int × Int × Int × Int)) (i : Int) => x208 k k208_1009 (t208_1009 a outs i))) = l208 k
  | 0 => rfl
  | k + 1 => by
    have h := q208 k
    show _ = (F208_1005 k ((l208 k).1) ((l208 k).2), F208_1009 k ((l208 k).1) ((l208 k).2))
    rw [← h]
    exact (Prod.ext (funext fun a => funext fun outs => funext fun i => e208_1005 k a outs i) (funext fun a => funext fun outs => funext fun i => e208_1009 k a outs i))
theorem w208 (k : Nat) (a : List (Int × Int × Int × Int)) (bare : Bool) : runFn tiV (envOf env11) 51 h208 (finT tiV true Go.Proofs.Try.f208.results.toList [(.vslice 150 (.pair (.int .i64) (.pair (.int .i64) (.pair (.int .i64) (.int .i64)))), false)] (.vslice 150 (.pair (.int .i64) (.pair (.int .i64) (.pair (.int .i64) (.int .i64)))))) k (bodyOf Go.Proofs.Try.f208) (initS 0 [.slc 233 (.pair (.int .i64) (.pair (.int .i64) (.pair (.int .i64) (.int .i64)))) a, .bool bare]) = F208 k (fun (a : List (Int × Int × Int × Int)) (outs : List (Int × Int × Int × Int)) (i : Int) => x208 k k208_1005 (t208_1005 a outs i)) (fun (a : List (Int × Int × Int × Int)) (outs : List (Int × Int × Int × Int)) (i : Int) => x208 k k208_1009 (t208_1009 a outs i)) a bare := by kernel_rfl
theorem v208 (k : Nat) (a : List (Int × Int × Int × Int)) (bare : Bool) : runFn tiV (envOf env11) 51 h208 (finT tiV true Go.Proofs.Try.f208.results.toList [(.vslice 150 (.pair (.int .i64) (.pair (.int .i64) (.pair (.int .i64) (.int .i64)))), false)] (.vslice 150 (.pair (.int .i64) (.pair (.int .i64) (.pair (.int .i64) (.int .i64)))))) k (bodyOf Go.Proofs.Try.f208) (initS 0 [.slc 233 (.pair (.int .i64) (.pair (.int .i64) (.pair (.int .i64) (.int .i64)))) a, .bool bare]) = f208 k a bare := by
  rw [w208]
  have h := q208 k
  unfold f208
  rw [← h]
theorem m208 : Meets Go.Proofs.Try.prog 208 s208 := meets_of_run tiVOk env11_ok mo Go.Proofs.Try.func208 (body := bodyOf Go.Proofs.Try.f208) (by kernel_rfl) (N := 51) (by kernel_rfl) (hs := h208) (by
  intro k xs r h
  unfold s208 at h
  dsimp only at h
  split at h
  · exact ⟨Nat.le_of_ble_eq_true rfl, (v208 k _ _).trans h⟩
  · cases h)
theorem env12_ok : EnvOk Go.Proofs.Try.prog (envOf env12) := envOf_cons m208 Go.Proofs.Try.func208 (by kernel_rfl) (by kernel_rfl) env11_ok

end Go.Proofs.YtbaeikcfchiiaaaE
