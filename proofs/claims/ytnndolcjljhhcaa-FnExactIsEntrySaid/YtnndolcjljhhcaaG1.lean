/- Functions, by the engine; printed. -/
import Derived.Test.YtnndolcjljhhcaaG0
set_option maxRecDepth 100000
set_option maxHeartbeats 4000000
set_option linter.unusedVariables false
namespace Go.Proofs.YtnndolcjljhhcaaE
-- laws.szIntS
def f100 (k : Nat) (a : List (Int)) (left : Int) : Option (Int) :=
  bif decide (IntKind.wrap IntKind.i64 (left - (↑(List.length a) : Int)) < 0) then
    some (-1)
  else
    some (IntKind.wrap IntKind.i64 (left - (↑(List.length a) : Int)))
def s100 : Spec := ⟨false, [(.int .i64, false)], true, .int .i64, fun k xs => match xs with | [.slc 3 (.int .i64) a, .int .i64 left] => f100 k a left | _ => none⟩
def env1 : List (FuncId × Spec) := (100, s100) :: env0
theorem v100 (k : Nat) (a : List (Int)) (left : Int) : runFn ti (envOf env0) 12 [] (finT ti true Go.Proofs.Try.f100.results.toList [(.int .i64, false)] (.int .i64)) k (bodyOf Go.Proofs.Try.f100) (initS 0 [.slc 3 (.int .i64) a, .int .i64 left]) = f100 k a left := by kernel_rfl
theorem m100 : Meets Go.Proofs.Try.prog 100 s100 := meets_of_run tiOk env0_ok mo Go.Proofs.Try.func100 (body := bodyOf Go.Proofs.Try.f100) (by kernel_rfl) (N := 12) (by kernel_rfl) (hs := []) (by
  intro k xs r h
  unfold s100 at h
  dsimp only at h
  split at h
  · exact ⟨Nat.le_of_ble_eq_true rfl, (v100 k _ _).trans h⟩
  · cases h)
theorem env1_ok : EnvOk Go.Proofs.Try.prog (envOf env1) := envOf_cons m100 Go.Proofs.Try.func100 (by kernel_rfl) (by kernel_rfl) env0_ok

-- laws.szBox
def f53 (k : Nat) (a_K : Int) (a_Low : List (Int)) (a_High : List (Int)) (left : Int) : Option (Int) :=
  (f100 k a_Low left).bind fun r0 =>
  bif decide (r0 < 0) then
    some (-1)
  else
    (f100 k a_High r0).bind fun r1 =>
    bif decide (r1 < 0) then
      some (-1)
    else
      some r1
def s53 : Spec := ⟨false, [(.int .i64, false)], true, .int .i64, fun k xs => match xs with | [.agg [.int .i64 a_K, .slc 3 (.int .i64) a_Low, .slc 3 (.int .i64) a_High], .int .i64 left] => f53 k a_K a_Low a_High left | _ => none⟩
def env2 : List (FuncId × Spec) := (53, s53) :: env1
theorem v53 (k : Nat) (a_K : Int) (a_Low : List (Int)) (a_High : List (Int)) (left : Int) : runFn ti (envOf env1) 18 [] (finT ti true Go.Proofs.Try.f53.results.toList [(.int .i64, false)] (.int .i64)) k (bodyOf Go.Proofs.Try.f53) (initS 0 [.agg [.int .i64 a_K, .slc 3 (.int .i64) a_Low, .slc 3 (.int .i64) a_High], .int .i64 left]) = f53 k a_K a_Low a_High left := by kernel_rfl
theorem m53 : Meets Go.Proofs.Try.prog 53 s53 := meets_of_run tiOk env1_ok mo Go.Proofs.Try.func53 (body := bodyOf Go.Proofs.Try.f53) (by kernel_rfl) (N := 18) (by kernel_rfl) (hs := []) (by
  intro k xs r h
  unfold s53 at h
  dsimp only at h
  split at h
  · exact ⟨Nat.le_of_ble_eq_true rfl, (v53 k _ _ _ _).trans h⟩
  · cases h)
theorem env2_ok : EnvOk Go.Proofs.Try.prog (envOf env2) := envOf_cons m53 Go.Proofs.Try.func53 (by kernel_rfl) (by kernel_rfl) env1_ok

-- laws.szTermS
def f123 (k : Nat) (a : List (Int × Int × Int × Int)) (left : Int) : Option (Int) :=
  bif decide (IntKind.wrap IntKind.i64 (left - (↑(List.length a) : Int)) < 0) then
    some (-1)
  else
    some (IntKind.wrap IntKind.i64 (left - (↑(List.length a) : Int)))
def s123 : Spec := ⟨false, [(.int .i64, false)], true, .int .i64, fun k xs => match xs with | [.slc 160 (.pair (.int .i64) (.pair (.int .i64) (.pair (.int .i64) (.int .i64)))) a, .int .i64 left] => f123 k a left | _ => none⟩
def env3 : List (FuncId × Spec) := (123, s123) :: env2
theorem v123 (k : Nat) (a : List (Int × Int × Int × Int)) (left : Int) : runFn ti (envOf env2) 12 [] (finT ti true Go.Proofs.Try.f123.results.toList [(.int .i64, false)] (.int .i64)) k (bodyOf Go.Proofs.Try.f123) (initS 0 [.slc 160 (.pair (.int .i64) (.pair (.int .i64) (.pair (.int .i64) (.int .i64)))) a, .int .i64 left]) = f123 k a left := by kernel_rfl
theorem m123 : Meets Go.Proofs.Try.prog 123 s123 := meets_of_run tiOk env2_ok mo Go.Proofs.Try.func123 (body := bodyOf Go.Proofs.Try.f123) (by kernel_rfl) (N := 12) (by kernel_rfl) (hs := []) (by
  intro k xs r h
  unfold s123 at h
  dsimp only at h
  split at h
  · exact ⟨Nat.le_of_ble_eq_true rfl, (v123 k _ _).trans h⟩
  · cases h)
theorem env3_ok : EnvOk Go.Proofs.Try.prog (envOf env3) := envOf_cons m123 Go.Proofs.Try.func123 (by kernel_rfl) (by kernel_rfl) env2_ok

-- laws.szTermSS
def h90 : Hints := [(1005, .lab [(0, .one (.frz 130 (Ty.slice 160 (Ty.pair (Ty.int IntKind.i64) (Ty.pair (Ty.int IntKind.i64) (Ty.pair (Ty.int IntKind.i64) (Ty.int IntKind.i64))))))), (1, .one (.v)), (5, .one (.v))])]
def F90_1005 (k : Nat) (rec1005 : List (List (Int × Int × Int × Int)) → Int → Int → Option (Int)) (a : List (List (Int × Int × Int × Int))) (left : Int) (i : Int) : Option (Int) :=
  bif decide (i < (↑(List.length a) : Int)) then
    bif boundA i (List.length a) then
      (f123 k (List.getD a (Int.toNat i) []) left).bind fun r0 =>
      bif decide (r0 < 0) then
        some (-1)
      else
        rec1005 a r0 (IntKind.wrap IntKind.i64 (i + 1))
    else
      none
  else
    some left
def F90 (k : Nat) (rec1005 : List (List (Int × Int × Int × Int)) → Int → Int → Option (Int)) (a : List (List (Int × Int × Int × Int))) (left : Int) : Option (Int) :=
  bif decide (IntKind.wrap IntKind.i64 (left - (↑(List.length a) : Int)) < 0) then
    some (-1)
  else
    rec1005 a (IntKind.wrap IntKind.i64 (left - (↑(List.length a) : Int))) (0)
def l90 : Nat → (List (List (Int × Int × Int × Int)) → Int → Int → Option (Int))
  | 0 => fun _ _ _ => none
  | k + 1 => F90_1005 k (l90 k)
def f90 (k : Nat) (a : List (List (Int × Int × Int × Int))) (left : Int) : Option (Int) := F90 k (l90 k) a left
def s90 : Spec := ⟨false, [(.int .i64, false)], true, .int .i64, fun k xs => match xs with | [.slc 130 (.slice 160 (.pair (.int .i64) (.pair (.int .i64) (.pair (.int .i64) (.int .i64))))) a, .int .i64 left] => f90 k a left | _ => none⟩
def env4 : List (FuncId × Spec) := (90, s90) :: env3
noncomputable abbrev x90 := exec ti (envOf env3) 27 h90 (finT ti true Go.Proofs.Try.f90.results.toList [(.int .i64, false)] (.int .i64))
noncomputable def k90_1005 : List It := stackAt [.r, .r, .r, .l, .r, .b, .lb none] (bodyOf Go.Proofs.Try.f90) []
def t90_1005 (a : List (List (Int × Int × Int × Int))) (left : Int) (i : Int) : St := [(0, Cell.val (AVal.slc 130 (Ty.slice 160 (Ty.pair (Ty.int IntKind.i64) (Ty.pair (Ty.int IntKind.i64) (Ty.pair (Ty.int IntKind.i64) (Ty.int IntKind.i64))))) a)), (2, Cell.val (AVal.int IntKind.i64 left)), (10, Cell.val (AVal.int IntKind.i64 i))]
theorem e90_1005 (k : Nat) (a : List (List (Int × Int × Int × Int))) (left : Int) (i : Int) : x90 (k + 1) k90_1005 (t90_1005 a left i) = F90_1005 k (fun (a : List (List (Int × Int × Int × Int))) (left : Int) (i : Int) => x90 k k90_1005 (t90_1005 a left i)) a left i := by kernel_rfl
theorem q90 : ∀ k : Nat, (fun (a : List (List (Int × Int × Int × Int))) (left : Int) (i : Int) => x90 k k90_1005 (t90_1005 a left i)) = l90 k
  | 0 => rfl
  | k + 1 => by
    have h := q90 k
    show _ = F90_1005 k (l90 k)
    rw [← h]
    exact (funext fun a => funext fun left => funext fun i => e90_1005 k a left i)
theorem w90 (k : Nat) (a : List (List (Int × Int × Int × Int))) (left : Int) : runFn ti (envOf env3) 27 h90 (finT ti true Go.Proofs.Try.f90.results.toList [(.int .i64, false)] (.int .i64)) k (bodyOf Go.Proofs.Try.f90) (initS 0 [.slc 130 (.slice 160 (.pair (.int .i64) (.pair (.int .i64) (.pair (.int .i64) (.int .i64))))) a, .int .i64 left]) = F90 k (fun (a : List (List (Int × Int × Int × Int))) (left : Int) (i : Int) => x90 k k90_1005 (t90_1005 a left i)) a left := by kernel_rfl
theorem v90 (k : Nat) (a : List (List (Int × Int × Int × Int))) (left : Int) : runFn ti (envOf env3) 27 h90 (finT ti true Go.Proofs.Try.f90.results.toList [(.int .i64, false)] (.int .i64)) k (bodyOf Go.Proofs.Try.f90) (initS 0 [.slc 130 (.slice 160 (.pair (.int .i64) (.pair (.int .i64) (.pair (.int .i64) (.int .i64))))) a, .int .i64 left]) = f90 k a left := by
  rw [w90]
  have h := q90 k
  unfold f90
  rw [← h]
theorem m90 : Meets Go.Proofs.Try.prog 90 s90 := meets_of_run tiOk env3_ok mo Go.Proofs.Try.func90 (body := bodyOf Go.Proofs.Try.f90) (by kernel_rfl) (N := 27) (by kernel_rfl) (hs := h90) (by
  intro k xs r h
  unfold s90 at h
  dsimp only at h
  split at h
  · exact ⟨Nat.le_of_ble_eq_true rfl, (v90 k _ _).trans h⟩
  · cases h)
theorem env4_ok : EnvOk Go.Proofs.Try.prog (envOf env4) := envOf_cons m90 Go.Proofs.Try.func90 (by kernel_rfl) (by kernel_rfl) env3_ok

-- laws.szEntry
def f45 (k : Nat) (a_Name : ByteArray) (a_System : List (List (Int × Int × Int × Int))) (a_Box_K : Int) (a_Box_Low : List (Int)) (a_Box_High : List (Int)) (a_Least : Int) (a_Most : Int) (a_Version : Int) (left : Int) : Option (Int) :=
  bif decide (IntKind.wrap IntKind.i64 (left - (↑(ByteArray.size a_Name) : Int)) < 0) then
    some (-1)
  else
    (f90 k a_System (IntKind.wrap IntKind.i64 (left - (↑(ByteArray.size a_Name) : Int)))).bind fun r0 =>
    bif decide (r0 < 0) then
      some (-1)
    else
      (f53 k a_Box_K a_Box_Low a_Box_High r0).bind fun r1 =>
      bif decide (r1 < 0) then
        some (-1)
      else
        some r1
def s45 : Spec := ⟨false, [(.int .i64, false)], true, .int .i64, fun k xs => match xs with | [.agg [.str a_Name, .slc 130 (.slice 160 (.pair (.int .i64) (.pair (.int .i64) (.pair (.int .i64) (.int .i64))))) a_System, .int .i64 a_Box_K, .slc 3 (.int .i64) a_Box_Low, .slc 3 (.int .i64) a_Box_High, .int .i64 a_Least, .int .i64 a_Most, .int .i64 a_Version], .int .i64 left] => f45 k a_Name a_System a_Box_K a_Box_Low a_Box_High a_Least a_Most a_Version left | _ => none⟩
def env5 : List (FuncId × Spec) := (45, s45) :: env4
theorem v45 (k : Nat) (a_Name : ByteArray) (a_System : List (List (Int × Int × Int × Int))) (a_Box_K : Int) (a_Box_Low : List (Int)) (a_Box_High : List (Int)) (a_Least : Int) (a_Most : Int) (a_Version : Int) (left : Int) : runFn ti (envOf env4) 25 [] (finT ti true Go.Proofs.Try.f45.results.toList [(.int .i64, false)] (.int .i64)) k (bodyOf Go.Proofs.Try.f45) (initS 0 [.agg [.str a_Name, .slc 130 (.slice 160 (.pair (.int .i64) (.pair (.int .i64) (.pair (.int .i64) (.int .i64))))) a_System, .int .i64 a_Box_K, .slc 3 (.int .i64) a_Box_Low, .slc 3 (.int .i64) a_Box_High, .int .i64 a_Least, .int .i64 a_Most, .int .i64 a_Version], .int .i64 left]) = f45 k a_Name a_System a_Box_K a_Box_Low a_Box_High a_Least a_Most a_Version left := by kernel_rfl
theorem m45 : Meets Go.Proofs.Try.prog 45 s45 := meets_of_run tiOk env4_ok mo Go.Proofs.Try.func45 (body := bodyOf Go.Proofs.Try.f45) (by kernel_rfl) (N := 25) (by kernel_rfl) (hs := []) (by
  intro k xs r h
  unfold s45 at h
  dsimp only at h
  split at h
  · exact ⟨Nat.le_of_ble_eq_true rfl, (v45 k _ _ _ _ _ _ _ _ _).trans h⟩
  · cases h)
theorem env5_ok : EnvOk Go.Proofs.Try.prog (envOf env5) := envOf_cons m45 Go.Proofs.Try.func45 (by kernel_rfl) (by kernel_rfl) env4_ok

-- spec.l1In
def f85 (k : Nat) (n : Int) (lo : Int) (hi : Int) : Option (Bool) :=
  bif decide (lo ≤ n) then
    some (decide (n ≤ hi))
  else
    some false
def s85 : Spec := ⟨false, [(.bool, false)], true, .bool, fun k xs => match xs with | [.int .i64 n, .int .i64 lo, .int .i64 hi] => f85 k n lo hi | _ => none⟩
def env6 : List (FuncId × Spec) := (85, s85) :: env5
theorem v85 (k : Nat) (n : Int) (lo : Int) (hi : Int) : runFn ti (envOf env5) 15 [] (finT ti true Go.Proofs.Try.f85.results.toList [(.bool, false)] (.bool)) k (bodyOf Go.Proofs.Try.f85) (initS 0 [.int .i64 n, .int .i64 lo, .int .i64 hi]) = f85 k n lo hi := by kernel_rfl
theorem m85 : Meets Go.Proofs.Try.prog 85 s85 := meets_of_run tiOk env5_ok mo Go.Proofs.Try.func85 (body := bodyOf Go.Proofs.Try.f85) (by kernel_rfl) (N := 15) (by kernel_rfl) (hs := []) (by
  intro k xs r h
  unfold s85 at h
  dsimp only at h
  split at h
  · exact ⟨Nat.le_of_ble_eq_true rfl, (v85 k _ _ _).trans h⟩
  · cases h)
theorem env6_ok : EnvOk Go.Proofs.Try.prog (envOf env6) := envOf_cons m85 Go.Proofs.Try.func85 (by kernel_rfl) (by kernel_rfl) env5_ok

-- spec.caName
def h124 : Hints := [(1002, .lab [(0, .one (.v)), (3, .one (.v))])]
def F124_1002 (k : Nat) (rec1002 : ByteArray → Int → Option (Bool)) (s : ByteArray) (i : Int) : Option (Bool) :=
  bif decide (i < (↑(ByteArray.size s) : Int)) then
    bif boundA i (ByteArray.size s) then
      bif decide ((↑(UInt8.toNat (Array.getD s.data (Int.toNat i) 0)) : Int) < 97) then
        some false
      else
        bif boundA i (ByteArray.size s) then
          bif decide (122 < (↑(UInt8.toNat (Array.getD s.data (Int.toNat i) 0)) : Int)) then
            some false
          else
            rec1002 s (IntKind.wrap IntKind.i64 (i + 1))
        else
          none
    else
      none
  else
    (f85 k (↑(ByteArray.size s) : Int) 1 8).bind fun r0 =>
    some r0
def F124 (k : Nat) (rec1002 : ByteArray → Int → Option (Bool)) (s : ByteArray) : Option (Bool) :=
  rec1002 s (0)
def l124 : Nat → (ByteArray → Int → Option (Bool))
  | 0 => fun _ _ => none
  | k + 1 => F124_1002 k (l124 k)
def f124 (k : Nat) (s : ByteArray) : Option (Bool) := F124 k (l124 k) s
def s124 : Spec := ⟨false, [(.bool, false)], true, .bool, fun k xs => match xs with | [.str s] => f124 k s | _ => none⟩
def env7 : List (FuncId × Spec) := (124, s124) :: env6
noncomputable abbrev x124 := exec ti (envOf env6) 23 h124 (finT ti true Go.Proofs.Try.f124.results.toList [(.bool, false)] (.bool))
noncomputable def k124_1002 : List It := stackAt [.r, .l, .r, .b, .lb none] (bodyOf Go.Proofs.Try.f124) []
def t124_1002 (s : ByteArray) (i : Int) : St := [(0, Cell.val (AVal.str s)), (6, Cell.val (AVal.int IntKind.i64 i))]
theorem e124_1002 (k : Nat) (s : ByteArray) (i : Int) : x124 (k + 1) k124_1002 (t124_1002 s i) = F124_1002 k (fun (s : ByteArray) (i : Int) => x124 k k124_1002 (t124_1002 s i)) s i := by kernel_rfl
theorem q124 : ∀ k : Nat, (fun (s : ByteArray) (i : Int) => x124 k k124_1002 (t124_1002 s i)) = l124 k
  | 0 => rfl
  | k + 1 => by
    have h := q124 k
    show _ = F124_1002 k (l124 k)
    rw [← h]
    exact (funext fun s => funext fun i => e124_1002 k s i)
theorem w124 (k : Nat) (s : ByteArray) : runFn ti (envOf env6) 23 h124 (finT ti true Go.Proofs.Try.f124.results.toList [(.bool, false)] (.bool)) k (bodyOf Go.Proofs.Try.f124) (initS 0 [.str s]) = F124 k (fun (s : ByteArray) (i : Int) => x124 k k124_1002 (t124_1002 s i)) s := by kernel_rfl
theorem v124 (k : Nat) (s : ByteArray) : runFn ti (envOf env6) 23 h124 (finT ti true Go.Proofs.Try.f124.results.toList [(.bool, false)] (.bool)) k (bodyOf Go.Proofs.Try.f124) (initS 0 [.str s]) = f124 k s := by
  rw [w124]
  have h := q124 k
  unfold f124
  rw [← h]
theorem m124 : Meets Go.Proofs.Try.prog 124 s124 := meets_of_run tiOk env6_ok mo Go.Proofs.Try.func124 (body := bodyOf Go.Proofs.Try.f124) (by kernel_rfl) (N := 23) (by kernel_rfl) (hs := h124) (by
  intro k xs r h
  unfold s124 at h
  dsimp only at h
  split at h
  · exact ⟨Nat.le_of_ble_eq_true rfl, (v124 k _).trans h⟩
  · cases h)
theorem env7_ok : EnvOk Go.Proofs.Try.prog (envOf env7) := envOf_cons m124 Go.Proofs.Try.func124 (by kernel_rfl) (by kernel_rfl) env6_ok

-- spec.dyPower
def f107 (k : Nat) (k_ : Int) : Option (Int) :=
  bif !decide (IntKind.wrap IntKind.u64 k_ < 0) then
    some (IntKind.wrap IntKind.i64 (1 * 2 ^ min (Int.toNat (IntKind.wrap IntKind.u64 k_)) (IntKind.bits IntKind.i64)))
  else
    none
def s107 : Spec := ⟨false, [(.int .i64, false)], true, .int .i64, fun k xs => match xs with | [.int .i64 k_] => f107 k k_ | _ => none⟩
def env8 : List (FuncId × Spec) := (107, s107) :: env7
theorem v107 (k : Nat) (k_ : Int) : runFn ti (envOf env7) 6 [] (finT ti true Go.Proofs.Try.f107.results.toList [(.int .i64, false)] (.int .i64)) k (bodyOf Go.Proofs.Try.f107) (initS 0 [.int .i64 k_]) = f107 k k_ := by kernel_rfl
theorem m107 : Meets Go.Proofs.Try.prog 107 s107 := meets_of_run tiOk env7_ok mo Go.Proofs.Try.func107 (body := bodyOf Go.Proofs.Try.f107) (by kernel_rfl) (N := 6) (by kernel_rfl) (hs := []) (by
  intro k xs r h
  unfold s107 at h
  dsimp only at h
  split at h
  · exact ⟨Nat.le_of_ble_eq_true rfl, (v107 k _).trans h⟩
  · cases h)
theorem env8_ok : EnvOk Go.Proofs.Try.prog (envOf env8) := envOf_cons m107 Go.Proofs.Try.func107 (by kernel_rfl) (by kernel_rfl) env7_ok

-- spec.bxGood
def h101 : Hints := [(1006, .lab [(1, .box 63 [.v, .frz 3 (Ty.int IntKind.i64), .frz 3 (Ty.int IntKind.i64)]), (3, .one (.v)), (4, .one (.v)), (36, .one (.frz 3 (Ty.int IntKind.i64))), (37, .one (.v)), (38, .one (.v))])]
def F101_1006 (k : Nat) (rec1006 : Int → List Int → List Int → Int → Bool → List Int → Int → Int → Option (Bool)) (is_0 : Int) (is_1 : List Int) (is_2 : List Int) (t : Int) (t4 : Bool) (t36 : List Int) (t37 : Int) (t38 : Int) : Option (Bool) :=
  bif decide (t38 < t37) then
    bif boundA t38 (List.length t36) then
      bif boundA t38 (List.length is_2) then
        (f85 k (List.getD t36 (Int.toNat t38) 0) (IntKind.wrap IntKind.i64 (0 - t)) t).bind fun r0 =>
        bif !r0 then
          some false
        else
          (f85 k (List.getD is_2 (Int.toNat t38) 0) (IntKind.wrap IntKind.i64 (0 - t)) t).bind fun r1 =>
          bif !r1 then
            some false
          else
            bif decide (List.getD is_2 (Int.toNat t38) 0 ≤ List.getD t36 (Int.toNat t38) 0) then
              some false
            else
              bif t4 then
                rec1006 is_0 is_1 is_2 t true t36 t37 (IntKind.wrap IntKind.i64 (t38 + 1))
              else
                bif !decide (Int.tmod (List.getD t36 (Int.toNat t38) 0) 2 = 0) then
                  rec1006 is_0 is_1 is_2 t true t36 t37 (IntKind.wrap IntKind.i64 (t38 + 1))
                else
                  rec1006 is_0 is_1 is_2 t (!decide (Int.tmod (List.getD is_2 (Int.toNat t38) 0) 2 = 0)) t36 t37 (IntKind.wrap IntKind.i64 (t38 + 1))
      else
        none
    else
      none
  else
    some t4
def F101 (k : Nat) (rec1006 : Int → List Int → List Int → Int → Bool → List Int → Int → Int → Option (Bool)) (L_K : Int) (L_Low : List (Int)) (L_High : List (Int)) : Option (Bool) :=
  (f85 k L_K 0 8).bind fun r0 =>
  bif !r0 then
    some false
  else
    (f85 k (↑(List.length L_Low) : Int) 1 3).bind fun r1 =>
    bif !r1 then
      some false
    else
      bif !decide ((↑(List.length L_High) : Int) = (↑(List.length L_Low) : Int)) then
        some false
      else
        (f107 k L_K).bind fun r2 =>
        rec1006 L_K L_Low L_High (IntKind.wrap IntKind.i64 (8 * r2)) (decide (L_K = 0)) L_Low ((↑(List.length L_Low) : Int)) (0)
def l101 : Nat → (Int → List Int → List Int → Int → Bool → List Int → Int → Int → Option (Bool))
  | 0 => fun _ _ _ _ _ _ _ _ => none
  | k + 1 => F101_1006 k (l101 k)
def f101 (k : Nat) (L_K : Int) (L_Low : List (Int)) (L_High : List (Int)) : Option (Bool) := F101 k (l101 k) L_K L_Low L_High
def s101 : Spec := ⟨false, [(.bool, false)], true, .bool, fun k xs => match xs with | [.agg [.int .i64 L_K, .slc 3 (.int .i64) L_Low, .slc 3 (.int .i64) L_High]] => f101 k L_K L_Low L_High | _ => none⟩
def env9 : List (FuncId × Spec) := (101, s101) :: env8
noncomputable abbrev x101 := exec ti (envOf env8) 80 h101 (finT ti true Go.Proofs.Try.f101.results.toList [(.bool, false)] (.bool))
noncomputable def k101_1006 : List It := stackAt [.r, .r, .r, .r, .l, .r, .b, .lb none] (bodyOf Go.Proofs.Try.f101) []
def t101_1006 (is_0 : Int) (is_1 : List Int) (is_2 : List Int) (t : Int) (t4 : Bool) (t36 : List Int) (t37 : Int) (t38 : Int) : St := [(2, Cell.val (AVal.ptr 3 0)), (3, Cell.mem true 63 [AVal.int IntKind.i64 is_0, AVal.slc 3 (Ty.int IntKind.i64) is_1, AVal.slc 3 (Ty.int IntKind.i64) is_2]), (6, Cell.val (AVal.int IntKind.i64 t)), (8, Cell.val (AVal.bool t4)), (72, Cell.val (AVal.slc 3 (Ty.int IntKind.i64) t36)), (74, Cell.val (AVal.int IntKind.i64 t37)), (76, Cell.val (AVal.int IntKind.i64 t38))]
theorem e101_1006 (k : Nat) (is_0 : Int) (is_1 : List Int) (is_2 : List Int) (t : Int) (t4 : Bool) (t36 : List Int) (t37 : Int) (t38 : Int) : x101 (k + 1) k101_1006 (t101_1006 is_0 is_1 is_2 t t4 t36 t37 t38) = F101_1006 k (fun (is_0 : Int) (is_1 : List Int) (is_2 : List Int) (t : Int) (t4 : Bool) (t36 : List Int) (t37 : Int) (t38 : Int) => x101 k k101_1006 (t101_1006 is_0 is_1 is_2 t t4 t36 t37 t38)) is_0 is_1 is_2 t t4 t36 t37 t38 := by kernel_rfl
theorem q101 : ∀ k : Nat, (fun (is_0 : Int) (is_1 : List Int) (is_2 : List Int) (t : Int) (t4 : Bool) (t36 : List Int) (t37 : Int) (t38 : Int) => x101 k k101_1006 (t101_1006 is_0 is_1 is_2 t t4 t36 t37 t38)) = l101 k
  | 0 => rfl
  | k + 1 => by
    have h := q101 k
    show _ = F101_1006 k (l101 k)
    rw [← h]
    exact (funext fun is_0 => funext fun is_1 => funext fun is_2 => funext fun t => funext fun t4 => funext fun t36 => funext fun t37 => funext fun t38 => e101_1006 k is_0 is_1 is_2 t t4 t36 t37 t38)
theorem w101 (k : Nat) (L_K : Int) (L_Low : List (Int)) (L_High : List (Int)) : runFn ti (envOf env8) 80 h101 (finT ti true Go.Proofs.Try.f101.results.toList [(.bool, false)] (.bool)) k (bodyOf Go.Proofs.Try.f101) (initS 0 [.agg [.int .i64 L_K, .slc 3 (.int .i64) L_Low, .slc 3 (.int .i64) L_High]]) = F101 k (fun (is_0 : Int) (is_1 : List Int) (is_2 : List Int) (t : Int) (t4 : Bool) (t36 : List Int) (t37 : Int) (t38 : Int) => x101 k k101_1006 (t101_1006 is_0 is_1 is_2 t t4 t36 t37 t38)) L_K L_Low L_High := by kernel_rfl
theorem v101 (k : Nat) (L_K : Int) (L_Low : List (Int)) (L_High : List (Int)) : runFn ti (envOf env8) 80 h101 (finT ti true Go.Proofs.Try.f101.results.toList [(.bool, false)] (.bool)) k (bodyOf Go.Proofs.Try.f101) (initS 0 [.agg [.int .i64 L_K, .slc 3 (.int .i64) L_Low, .slc 3 (.int .i64) L_High]]) = f101 k L_K L_Low L_High := by
  rw [w101]
  have h := q101 k
  unfold f101
  rw [← h]
theorem m101 : Meets Go.Proofs.Try.prog 101 s101 := meets_of_run tiOk env8_ok mo Go.Proofs.Try.func101 (body := bodyOf Go.Proofs.Try.f101) (by kernel_rfl) (N := 80) (by kernel_rfl) (hs := h101) (by
  intro k xs r h
  unfold s101 at h
  dsimp only at h
  split at h
  · exact ⟨Nat.le_of_ble_eq_true rfl, (v101 k _ _ _).trans h⟩
  · cases h)
theorem env9_ok : EnvOk Go.Proofs.Try.prog (envOf env9) := envOf_cons m101 Go.Proofs.Try.func101 (by kernel_rfl) (by kernel_rfl) env8_ok

-- spec.poTerm
def f196 (k : Nat) (t_C : Int) (t_X : Int) (t_Y : Int) (t_Z : Int) : Option (Bool) :=
  (f85 k t_C (-1000) 1000).bind fun r0 =>
  bif r0 then
    (f85 k t_X 0 4).bind fun r1 =>
    bif r1 then
      (f85 k t_Y 0 4).bind fun r2 =>
      bif r2 then
        (f85 k t_Z 0 4).bind fun r3 =>
        bif r3 then
          some (decide (IntKind.wrap IntKind.i64 (IntKind.wrap IntKind.i64 (t_X + t_Y) + t_Z) ≤ 4))
        else
          some false
      else
        some false
    else
      some false
  else
    some false
def s196 : Spec := ⟨false, [(.bool, false)], true, .bool, fun k xs => match xs with | [.agg [.int .i64 t_C, .int .i64 t_X, .int .i64 t_Y, .int .i64 t_Z]] => f196 k t_C t_X t_Y t_Z | _ => none⟩
def env10 : List (FuncId × Spec) := (196, s196) :: env9
theorem v196 (k : Nat) (t_C : Int) (t_X : Int) (t_Y : Int) (t_Z : Int) : runFn ti (envOf env9) 32 [] (finT ti true Go.Proofs.Try.f196.results.toList [(.bool, false)] (.bool)) k (bodyOf Go.Proofs.Try.f196) (initS 0 [.agg [.int .i64 t_C, .int .i64 t_X, .int .i64 t_Y, .int .i64 t_Z]]) = f196 k t_C t_X t_Y t_Z := by kernel_rfl
theorem m196 : Meets Go.Proofs.Try.prog 196 s196 := meets_of_run tiOk env9_ok mo Go.Proofs.Try.func196 (body := bodyOf Go.Proofs.Try.f196) (by kernel_rfl) (N := 32) (by kernel_rfl) (hs := []) (by
  intro k xs r h
  unfold s196 at h
  dsimp only at h
  split at h
  · exact ⟨Nat.le_of_ble_eq_true rfl, (v196 k _ _ _ _).trans h⟩
  · cases h)
theorem env10_ok : EnvOk Go.Proofs.Try.prog (envOf env10) := envOf_cons m196 Go.Proofs.Try.func196 (by kernel_rfl) (by kernel_rfl) env9_ok

end Go.Proofs.YtnndolcjljhhcaaE
