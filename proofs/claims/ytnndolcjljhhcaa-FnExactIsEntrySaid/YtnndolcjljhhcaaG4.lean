/- Functions, by the engine; printed. -/
import Derived.Test.YtnndolcjljhhcaaG3
set_option maxRecDepth 100000
set_option maxHeartbeats 4000000
set_option linter.unusedVariables false
namespace Go.Proofs.YtnndolcjljhhcaaE
-- impl.Term).degree
def f206 (k : Nat) (t_C : Int) (t_X : Int) (t_Y : Int) (t_Z : Int) : Option (Int) :=
  some (IntKind.wrap IntKind.i64 (IntKind.wrap IntKind.i64 (t_X + t_Y) + t_Z))
def s206 : Spec := ⟨false, [(.int .i64, false)], true, .int .i64, fun k xs => match xs with | [.agg [.int .i64 t_C, .int .i64 t_X, .int .i64 t_Y, .int .i64 t_Z]] => f206 k t_C t_X t_Y t_Z | _ => none⟩
def env31 : List (FuncId × Spec) := (206, s206) :: env30
theorem v206 (k : Nat) (t_C : Int) (t_X : Int) (t_Y : Int) (t_Z : Int) : runFn ti (envOf env30) 11 [] (finT ti true Go.Proofs.Try.f206.results.toList [(.int .i64, false)] (.int .i64)) k (bodyOf Go.Proofs.Try.f206) (initS 0 [.agg [.int .i64 t_C, .int .i64 t_X, .int .i64 t_Y, .int .i64 t_Z]]) = f206 k t_C t_X t_Y t_Z := by kernel_rfl
theorem m206 : Meets Go.Proofs.Try.prog 206 s206 := meets_of_run tiOk env30_ok mo Go.Proofs.Try.func206 (body := bodyOf Go.Proofs.Try.f206) (by kernel_rfl) (N := 11) (by kernel_rfl) (hs := []) (by
  intro k xs r h
  unfold s206 at h
  dsimp only at h
  split at h
  · exact ⟨Nat.le_of_ble_eq_true rfl, (v206 k _ _ _ _).trans h⟩
  · cases h)
theorem env31_ok : EnvOk Go.Proofs.Try.prog (envOf env31) := envOf_cons m206 Go.Proofs.Try.func206 (by kernel_rfl) (by kernel_rfl) env30_ok

-- impl.hasDegree
def f199 (k : Nat) (t_C : Int) (t_X : Int) (t_Y : Int) (t_Z : Int) : Option (Bool) :=
  (f74 k t_X 0 4).bind fun r0 =>
  bif r0 then
    (f74 k t_Y 0 4).bind fun r1 =>
    bif r1 then
      (f74 k t_Z 0 4).bind fun r2 =>
      bif r2 then
        some (decide (IntKind.wrap IntKind.i64 (IntKind.wrap IntKind.i64 (t_X + t_Y) + t_Z) ≤ 4))
      else
        some false
    else
      some false
  else
    some false
def s199 : Spec := ⟨false, [(.bool, false)], true, .bool, fun k xs => match xs with | [.agg [.int .i64 t_C, .int .i64 t_X, .int .i64 t_Y, .int .i64 t_Z]] => f199 k t_C t_X t_Y t_Z | _ => none⟩
def env32 : List (FuncId × Spec) := (199, s199) :: env31
theorem v199 (k : Nat) (t_C : Int) (t_X : Int) (t_Y : Int) (t_Z : Int) : runFn ti (envOf env31) 21 [] (finT ti true Go.Proofs.Try.f199.results.toList [(.bool, false)] (.bool)) k (bodyOf Go.Proofs.Try.f199) (initS 0 [.agg [.int .i64 t_C, .int .i64 t_X, .int .i64 t_Y, .int .i64 t_Z]]) = f199 k t_C t_X t_Y t_Z := by kernel_rfl
theorem m199 : Meets Go.Proofs.Try.prog 199 s199 := meets_of_run tiOk env31_ok mo Go.Proofs.Try.func199 (body := bodyOf Go.Proofs.Try.f199) (by kernel_rfl) (N := 21) (by kernel_rfl) (hs := []) (by
  intro k xs r h
  unfold s199 at h
  dsimp only at h
  split at h
  · exact ⟨Nat.le_of_ble_eq_true rfl, (v199 k _ _ _ _).trans h⟩
  · cases h)
theorem env32_ok : EnvOk Go.Proofs.Try.prog (envOf env32) := envOf_cons m199 Go.Proofs.Try.func199 (by kernel_rfl) (by kernel_rfl) env31_ok

-- cmp.Or[int]
def h203 : Hints := [(1003, .lab [(3, .one (.v)), (6, .one (.frz 3 (Ty.int IntKind.i64))), (7, .one (.v)), (8, .one (.v))])]
def F203_1003 (k : Nat) (rec1003 : Int → List Int → Int → Int → Option (Int)) (zero : Int) (t6 : List Int) (t7 : Int) (t8 : Int) : Option (Int) :=
  bif decide (t8 < t7) then
    bif boundA t8 (List.length t6) then
      bif !decide (List.getD t6 (Int.toNat t8) 0 = zero) then
        some (List.getD t6 (Int.toNat t8) 0)
      else
        rec1003 zero t6 t7 (IntKind.wrap IntKind.i64 (t8 + 1))
    else
      none
  else
    some zero
def F203 (k : Nat) (rec1003 : Int → List Int → Int → Int → Option (Int)) (vals : List (Int)) : Option (Int) :=
  rec1003 (0) vals ((↑(List.length vals) : Int)) (0)
def l203 : Nat → (Int → List Int → Int → Int → Option (Int))
  | 0 => fun _ _ _ _ => none
  | k + 1 => F203_1003 k (l203 k)
def f203 (k : Nat) (vals : List (Int)) : Option (Int) := F203 k (l203 k) vals
def s203 : Spec := ⟨false, [(.int .i64, false)], true, .int .i64, fun k xs => match xs with | [.slc 3 (.int .i64) vals] => f203 k vals | _ => none⟩
def env33 : List (FuncId × Spec) := (203, s203) :: env32
noncomputable abbrev x203 := exec ti (envOf env32) 18 h203 (finT ti true Go.Proofs.Try.f203.results.toList [(.int .i64, false)] (.int .i64))
noncomputable def k203_1003 : List It := stackAt [.r, .r, .l, .r, .b, .lb none] (bodyOf Go.Proofs.Try.f203) []
def t203_1003 (zero : Int) (t6 : List Int) (t7 : Int) (t8 : Int) : St := [(6, Cell.val (AVal.int IntKind.i64 zero)), (12, Cell.val (AVal.slc 3 (Ty.int IntKind.i64) t6)), (14, Cell.val (AVal.int IntKind.i64 t7)), (16, Cell.val (AVal.int IntKind.i64 t8))]
theorem e203_1003 (k : Nat) (zero : Int) (t6 : List Int) (t7 : Int) (t8 : Int) : x203 (k + 1) k203_1003 (t203_1003 zero t6 t7 t8) = F203_1003 k (fun (zero : Int) (t6 : List Int) (t7 : Int) (t8 : Int) => x203 k k203_1003 (t203_1003 zero t6 t7 t8)) zero t6 t7 t8 := by kernel_rfl
theorem q203 : ∀ k : Nat, (fun (zero : Int) (t6 : List Int) (t7 : Int) (t8 : Int) => x203 k k203_1003 (t203_1003 zero t6 t7 t8)) = l203 k
  | 0 => rfl
  | k + 1 => by
    have h := q203 k
    show _ = F203_1003 k (l203 k)
    rw [← h]
    exact (funext fun zero => funext fun t6 => funext fun t7 => funext fun t8 => e203_1003 k zero t6 t7 t8)
theorem w203 (k : Nat) (vals : List (Int)) : runFn ti (envOf env32) 18 h203 (finT ti true Go.Proofs.Try.f203.results.toList [(.int .i64, false)] (.int .i64)) k (bodyOf Go.Proofs.Try.f203) (initS 0 [.slc 3 (.int .i64) vals]) = F203 k (fun (zero : Int) (t6 : List Int) (t7 : Int) (t8 : Int) => x203 k k203_1003 (t203_1003 zero t6 t7 t8)) vals := by kernel_rfl
theorem v203 (k : Nat) (vals : List (Int)) : runFn ti (envOf env32) 18 h203 (finT ti true Go.Proofs.Try.f203.results.toList [(.int .i64, false)] (.int .i64)) k (bodyOf Go.Proofs.Try.f203) (initS 0 [.slc 3 (.int .i64) vals]) = f203 k vals := by
  rw [w203]
  have h := q203 k
  unfold f203
  rw [← h]
theorem m203 : Meets Go.Proofs.Try.prog 203 s203 := meets_of_run tiOk env32_ok mo Go.Proofs.Try.func203 (body := bodyOf Go.Proofs.Try.f203) (by kernel_rfl) (N := 18) (by kernel_rfl) (hs := h203) (by
  intro k xs r h
  unfold s203 at h
  dsimp only at h
  split at h
  · exact ⟨Nat.le_of_ble_eq_true rfl, (v203 k _).trans h⟩
  · cases h)
theorem env33_ok : EnvOk Go.Proofs.Try.prog (envOf env33) := envOf_cons m203 Go.Proofs.Try.func203 (by kernel_rfl) (by kernel_rfl) env32_ok

-- cmp.isNaN[int]
def f209 (k : Nat) (x : Int) : Option (Bool) :=
  some (!decide (x = x))
def s209 : Spec := ⟨false, [(.bool, false)], true, .bool, fun k xs => match xs with | [.int .i64 x] => f209 k x | _ => none⟩
def env34 : List (FuncId × Spec) := (209, s209) :: env33
theorem v209 (k : Nat) (x : Int) : runFn ti (envOf env33) 6 [] (finT ti true Go.Proofs.Try.f209.results.toList [(.bool, false)] (.bool)) k (bodyOf Go.Proofs.Try.f209) (initS 0 [.int .i64 x]) = f209 k x := by kernel_rfl
theorem m209 : Meets Go.Proofs.Try.prog 209 s209 := meets_of_run tiOk env33_ok mo Go.Proofs.Try.func209 (body := bodyOf Go.Proofs.Try.f209) (by kernel_rfl) (N := 6) (by kernel_rfl) (hs := []) (by
  intro k xs r h
  unfold s209 at h
  dsimp only at h
  split at h
  · exact ⟨Nat.le_of_ble_eq_true rfl, (v209 k _).trans h⟩
  · cases h)
theorem env34_ok : EnvOk Go.Proofs.Try.prog (envOf env34) := envOf_cons m209 Go.Proofs.Try.func209 (by kernel_rfl) (by kernel_rfl) env33_ok

-- cmp.Compare[int]
def f207 (k : Nat) (x : Int) (y : Int) : Option (Int) :=
  bif !decide (x = x) then
    bif !decide (y = y) then
      some (0)
    else
      some (-1)
  else
    bif !decide (y = y) then
      some (1)
    else
      bif decide (x < y) then
        some (-1)
      else
        bif decide (y < x) then
          some (1)
        else
          some (0)
def s207 : Spec := ⟨false, [(.int .i64, false)], true, .int .i64, fun k xs => match xs with | [.int .i64 x, .int .i64 y] => f207 k x y | _ => none⟩
def env35 : List (FuncId × Spec) := (207, s207) :: env34
theorem v207 (k : Nat) (x : Int) (y : Int) : runFn ti (envOf env34) 20 [] (finT ti true Go.Proofs.Try.f207.results.toList [(.int .i64, false)] (.int .i64)) k (bodyOf Go.Proofs.Try.f207) (initS 0 [.int .i64 x, .int .i64 y]) = f207 k x y := by kernel_rfl
theorem m207 : Meets Go.Proofs.Try.prog 207 s207 := meets_of_run tiOk env34_ok mo Go.Proofs.Try.func207 (body := bodyOf Go.Proofs.Try.f207) (by kernel_rfl) (N := 20) (by kernel_rfl) (hs := []) (by
  intro k xs r h
  unfold s207 at h
  dsimp only at h
  split at h
  · exact ⟨Nat.le_of_ble_eq_true rfl, (v207 k _ _).trans h⟩
  · cases h)
theorem env35_ok : EnvOk Go.Proofs.Try.prog (envOf env35) := envOf_cons m207 Go.Proofs.Try.func207 (by kernel_rfl) (by kernel_rfl) env34_ok

-- impl.compareTerms
def f200 (k : Nat) (a_C : Int) (a_X : Int) (a_Y : Int) (a_Z : Int) (b_C : Int) (b_X : Int) (b_Y : Int) (b_Z : Int) : Option (Int) :=
  (f207 k a_X b_X).bind fun r0 =>
  (f207 k a_Y b_Y).bind fun r1 =>
  (f207 k a_Z b_Z).bind fun r2 =>
  (f203 k [r0, r1, r2]).bind fun r3 =>
  some r3
def s200 : Spec := ⟨false, [(.int .i64, false)], true, .int .i64, fun k xs => match xs with | [.agg [.int .i64 a_C, .int .i64 a_X, .int .i64 a_Y, .int .i64 a_Z], .agg [.int .i64 b_C, .int .i64 b_X, .int .i64 b_Y, .int .i64 b_Z]] => f200 k a_C a_X a_Y a_Z b_C b_X b_Y b_Z | _ => none⟩
def env36 : List (FuncId × Spec) := (200, s200) :: env35
theorem v200 (k : Nat) (a_C : Int) (a_X : Int) (a_Y : Int) (a_Z : Int) (b_C : Int) (b_X : Int) (b_Y : Int) (b_Z : Int) : runFn ti (envOf env35) 22 [] (finT ti true Go.Proofs.Try.f200.results.toList [(.int .i64, false)] (.int .i64)) k (bodyOf Go.Proofs.Try.f200) (initS 0 [.agg [.int .i64 a_C, .int .i64 a_X, .int .i64 a_Y, .int .i64 a_Z], .agg [.int .i64 b_C, .int .i64 b_X, .int .i64 b_Y, .int .i64 b_Z]]) = f200 k a_C a_X a_Y a_Z b_C b_X b_Y b_Z := by kernel_rfl
theorem m200 : Meets Go.Proofs.Try.prog 200 s200 := meets_of_run tiOk env35_ok mo Go.Proofs.Try.func200 (body := bodyOf Go.Proofs.Try.f200) (by kernel_rfl) (N := 22) (by kernel_rfl) (hs := []) (by
  intro k xs r h
  unfold s200 at h
  dsimp only at h
  split at h
  · exact ⟨Nat.le_of_ble_eq_true rfl, (v200 k _ _ _ _ _ _ _ _).trans h⟩
  · cases h)
theorem env36_ok : EnvOk Go.Proofs.Try.prog (envOf env36) := envOf_cons m200 Go.Proofs.Try.func200 (by kernel_rfl) (by kernel_rfl) env35_ok

-- impl.isPoly
def h186 : Hints := [(1002, .lab [(0, .one (.frz 136 (Ty.pair (Ty.int IntKind.i64) (Ty.pair (Ty.int IntKind.i64) (Ty.pair (Ty.int IntKind.i64) (Ty.int IntKind.i64)))))), (5, .one (.frz 136 (Ty.pair (Ty.int IntKind.i64) (Ty.pair (Ty.int IntKind.i64) (Ty.pair (Ty.int IntKind.i64) (Ty.int IntKind.i64)))))), (6, .one (.v)), (7, .one (.v))])]
def F186_1002 (k : Nat) (rec1002 : List (Int × Int × Int × Int) → List (Int × Int × Int × Int) → Int → Int → Option (Bool)) (p : List (Int × Int × Int × Int)) (t5 : List (Int × Int × Int × Int)) (t6 : Int) (t7 : Int) : Option (Bool) :=
  bif decide (t7 < t6) then
    bif boundA t7 (List.length t5) then
      bif decide ((List.getD t5 (Int.toNat t7) (0, 0, 0, 0)).fst = 0) then
        some false
      else
        (f74 k (List.getD t5 (Int.toNat t7) (0, 0, 0, 0)).fst (-1000) 1000).bind fun r0 =>
        bif !r0 then
          some false
        else
          (f199 k (List.getD t5 (Int.toNat t7) (0, 0, 0, 0)).fst (List.getD t5 (Int.toNat t7) (0, 0, 0, 0)).snd.fst (List.getD t5 (Int.toNat t7) (0, 0, 0, 0)).snd.snd.fst (List.getD t5 (Int.toNat t7) (0, 0, 0, 0)).snd.snd.snd).bind fun r1 =>
          bif !r1 then
            some false
          else
            bif decide (0 < t7) then
              bif boundA (IntKind.wrap IntKind.i64 (t7 - 1)) (List.length p) then
                (f200 k (List.getD p (Int.toNat (IntKind.wrap IntKind.i64 (t7 - 1))) (0, 0, 0, 0)).fst (List.getD p (Int.toNat (IntKind.wrap IntKind.i64 (t7 - 1))) (0, 0, 0, 0)).snd.fst (List.getD p (Int.toNat (IntKind.wrap IntKind.i64 (t7 - 1))) (0, 0, 0, 0)).snd.snd.fst (List.getD p (Int.toNat (IntKind.wrap IntKind.i64 (t7 - 1))) (0, 0, 0, 0)).snd.snd.snd (List.getD t5 (Int.toNat t7) (0, 0, 0, 0)).fst (List.getD t5 (Int.toNat t7) (0, 0, 0, 0)).snd.fst (List.getD t5 (Int.toNat t7) (0, 0, 0, 0)).snd.snd.fst (List.getD t5 (Int.toNat t7) (0, 0, 0, 0)).snd.snd.snd).bind fun r2 =>
                bif decide (0 ≤ r2) then
                  some false
                else
                  rec1002 p t5 t6 (IntKind.wrap IntKind.i64 (t7 + 1))
              else
                none
            else
              rec1002 p t5 t6 (IntKind.wrap IntKind.i64 (t7 + 1))
    else
      none
  else
    some (decide ((↑(List.length p) : Int) ≤ 20))
def F186 (k : Nat) (rec1002 : List (Int × Int × Int × Int) → List (Int × Int × Int × Int) → Int → Int → Option (Bool)) (p : List (Int × Int × Int × Int)) : Option (Bool) :=
  rec1002 p p ((↑(List.length p) : Int)) (0)
def l186 : Nat → (List (Int × Int × Int × Int) → List (Int × Int × Int × Int) → Int → Int → Option (Bool))
  | 0 => fun _ _ _ _ => none
  | k + 1 => F186_1002 k (l186 k)
def f186 (k : Nat) (p : List (Int × Int × Int × Int)) : Option (Bool) := F186 k (l186 k) p
def s186 : Spec := ⟨false, [(.bool, false)], true, .bool, fun k xs => match xs with | [.slc 136 (.pair (.int .i64) (.pair (.int .i64) (.pair (.int .i64) (.int .i64)))) p] => f186 k p | _ => none⟩
def env37 : List (FuncId × Spec) := (186, s186) :: env36
noncomputable abbrev x186 := exec ti (envOf env36) 44 h186 (finT ti true Go.Proofs.Try.f186.results.toList [(.bool, false)] (.bool))
noncomputable def k186_1002 : List It := stackAt [.r, .l, .r, .b, .lb none] (bodyOf Go.Proofs.Try.f186) []
def t186_1002 (p : List (Int × Int × Int × Int)) (t5 : List (Int × Int × Int × Int)) (t6 : Int) (t7 : Int) : St := [(0, Cell.val (AVal.slc 136 (Ty.pair (Ty.int IntKind.i64) (Ty.pair (Ty.int IntKind.i64) (Ty.pair (Ty.int IntKind.i64) (Ty.int IntKind.i64)))) p)), (10, Cell.val (AVal.slc 136 (Ty.pair (Ty.int IntKind.i64) (Ty.pair (Ty.int IntKind.i64) (Ty.pair (Ty.int IntKind.i64) (Ty.int IntKind.i64)))) t5)), (12, Cell.val (AVal.int IntKind.i64 t6)), (14, Cell.val (AVal.int IntKind.i64 t7))]
theorem e186_1002 (k : Nat) (p : List (Int × Int × Int × Int)) (t5 : List (Int × Int × Int × Int)) (t6 : Int) (t7 : Int) : x186 (k + 1) k186_1002 (t186_1002 p t5 t6 t7) = F186_1002 k (fun (p : List (Int × Int × Int × Int)) (t5 : List (Int × Int × Int × Int)) (t6 : Int) (t7 : Int) => x186 k k186_1002 (t186_1002 p t5 t6 t7)) p t5 t6 t7 := by kernel_rfl
theorem q186 : ∀ k : Nat, (fun (p : List (Int × Int × Int × Int)) (t5 : List (Int × Int × Int × Int)) (t6 : Int) (t7 : Int) => x186 k k186_1002 (t186_1002 p t5 t6 t7)) = l186 k
  | 0 => rfl
  | k + 1 => by
    have h := q186 k
    show _ = F186_1002 k (l186 k)
    rw [← h]
    exact (funext fun p => funext fun t5 => funext fun t6 => funext fun t7 => e186_1002 k p t5 t6 t7)
theorem w186 (k : Nat) (p : List (Int × Int × Int × Int)) : runFn ti (envOf env36) 44 h186 (finT ti true Go.Proofs.Try.f186.results.toList [(.bool, false)] (.bool)) k (bodyOf Go.Proofs.Try.f186) (initS 0 [.slc 136 (.pair (.int .i64) (.pair (.int .i64) (.pair (.int .i64) (.int .i64)))) p]) = F186 k (fun (p : List (Int × Int × Int × Int)) (t5 : List (Int × Int × Int × Int)) (t6 : Int) (t7 : Int) => x186 k k186_1002 (t186_1002 p t5 t6 t7)) p := by kernel_rfl
theorem v186 (k : Nat) (p : List (Int × Int × Int × Int)) : runFn ti (envOf env36) 44 h186 (finT ti true Go.Proofs.Try.f186.results.toList [(.bool, false)] (.bool)) k (bodyOf Go.Proofs.Try.f186) (initS 0 [.slc 136 (.pair (.int .i64) (.pair (.int .i64) (.pair (.int .i64) (.int .i64)))) p]) = f186 k p := by
  rw [w186]
  have h := q186 k
  unfold f186
  rw [← h]
theorem m186 : Meets Go.Proofs.Try.prog 186 s186 := meets_of_run tiOk env36_ok mo Go.Proofs.Try.func186 (body := bodyOf Go.Proofs.Try.f186) (by kernel_rfl) (N := 44) (by kernel_rfl) (hs := h186) (by
  intro k xs r h
  unfold s186 at h
  dsimp only at h
  split at h
  · exact ⟨Nat.le_of_ble_eq_true rfl, (v186 k _).trans h⟩
  · cases h)
theorem env37_ok : EnvOk Go.Proofs.Try.prog (envOf env37) := envOf_cons m186 Go.Proofs.Try.func186 (by kernel_rfl) (by kernel_rfl) env36_ok

-- impl.Term).exponents
def f201 (k : Nat) (t_C : Int) (t_X : Int) (t_Y : Int) (t_Z : Int) : Option (Int × Int × Int) :=
  some ((t_X, t_Y, t_Z))
def s201 : Spec := ⟨false, [(.pair (.int .i64) (.pair (.int .i64) (.int .i64)), true)], true, .pair (.int .i64) (.pair (.int .i64) (.int .i64)), fun k xs => match xs with | [.agg [.int .i64 t_C, .int .i64 t_X, .int .i64 t_Y, .int .i64 t_Z]] => f201 k t_C t_X t_Y t_Z | _ => none⟩
def env38 : List (FuncId × Spec) := (201, s201) :: env37
theorem v201 (k : Nat) (t_C : Int) (t_X : Int) (t_Y : Int) (t_Z : Int) : runFn ti (envOf env37) 10 [] (finT ti true Go.Proofs.Try.f201.results.toList [(.pair (.int .i64) (.pair (.int .i64) (.int .i64)), true)] (.pair (.int .i64) (.pair (.int .i64) (.int .i64)))) k (bodyOf Go.Proofs.Try.f201) (initS 0 [.agg [.int .i64 t_C, .int .i64 t_X, .int .i64 t_Y, .int .i64 t_Z]]) = f201 k t_C t_X t_Y t_Z := by kernel_rfl
theorem m201 : Meets Go.Proofs.Try.prog 201 s201 := meets_of_run tiOk env37_ok mo Go.Proofs.Try.func201 (body := bodyOf Go.Proofs.Try.f201) (by kernel_rfl) (N := 10) (by kernel_rfl) (hs := []) (by
  intro k xs r h
  unfold s201 at h
  dsimp only at h
  split at h
  · exact ⟨Nat.le_of_ble_eq_true rfl, (v201 k _ _ _ _).trans h⟩
  · cases h)
theorem env38_ok : EnvOk Go.Proofs.Try.prog (envOf env38) := envOf_cons m201 Go.Proofs.Try.func201 (by kernel_rfl) (by kernel_rfl) env37_ok

-- impl.needsAtMost
def h187 : Hints := [(1002, .lab [(1, .one (.v)), (9, .one (.frz 136 (Ty.pair (Ty.int IntKind.i64) (Ty.pair (Ty.int IntKind.i64) (Ty.pair (Ty.int IntKind.i64) (Ty.int IntKind.i64)))))), (10, .one (.v)), (11, .one (.v))]), (1005, .lab [(1, .one (.v)), (9, .one (.frz 136 (Ty.pair (Ty.int IntKind.i64) (Ty.pair (Ty.int IntKind.i64) (Ty.pair (Ty.int IntKind.i64) (Ty.int IntKind.i64)))))), (10, .one (.v)), (11, .one (.v)), (16, .agg [.v, .v, .v]), (17, .one (.v))])]
def F187_1002 (k : Nat) (rec1002 : Int → List (Int × Int × Int × Int) → Int → Int → Option (Bool)) (rec1005 : Int → List (Int × Int × Int × Int) → Int → Int → Int → Int → Int → Int → Option (Bool)) (n : Int) (t9 : List (Int × Int × Int × Int)) (t10 : Int) (t11 : Int) : Option (Bool) :=
  bif decide (t11 < t10) then
    bif boundA t11 (List.length t9) then
      rec1005 n t9 t10 t11 ((List.getD t9 (Int.toNat t11) (0, 0, 0, 0)).snd.fst) ((List.getD t9 (Int.toNat t11) (0, 0, 0, 0)).snd.snd.fst) ((List.getD t9 (Int.toNat t11) (0, 0, 0, 0)).snd.snd.snd) (0)
    else
      none
  else
    some true
def F187_1005 (k : Nat) (rec1002 : Int → List (Int × Int × Int × Int) → Int → Int → Option (Bool)) (rec1005 : Int → List (Int × Int × Int × Int) → Int → Int → Int → Int → Int → Int → Option (Bool)) (n : Int) (t9 : List (Int × Int × Int × Int)) (t10 : Int) (t11 : Int) (t16_0 : Int) (t16_1 : Int) (t16_2 : Int) (t17 : Int) : Option (Bool) :=
  bif decide (t17 < 3) then
    bif boundA t17 (List.length [t16_0, t16_1, t16_2]) then
      bif decide (n ≤ t17) then
        bif decide (0 < List.getD [t16_0, t16_1, t16_2] (Int.toNat t17) 0) then
          some false
        else
          rec1005 n t9 t10 t11 t16_0 t16_1 t16_2 (IntKind.wrap IntKind.i64 (t17 + 1))
      else
        rec1005 n t9 t10 t11 t16_0 t16_1 t16_2 (IntKind.wrap IntKind.i64 (t17 + 1))
    else
      none
  else
    rec1002 n t9 t10 (IntKind.wrap IntKind.i64 (t11 + 1))
def F187 (k : Nat) (rec1002 : Int → List (Int × Int × Int × Int) → Int → Int → Option (Bool)) (rec1005 : Int → List (Int × Int × Int × Int) → Int → Int → Int → Int → Int → Int → Option (Bool)) (p : List (Int × Int × Int × Int)) (n : Int) : Option (Bool) :=
  rec1002 n p ((↑(List.length p) : Int)) (0)
def l187 : Nat → (Int → List (Int × Int × Int × Int) → Int → Int → Option (Bool)) × (Int → List (Int × Int × Int × Int) → Int → Int → Int → Int → Int → Int → Option (Bool))
  | 0 => (fun _ _ _ _ => none, fun _ _ _ _ _ _ _ _ => none)
  | k + 1 => (F187_1002 k ((l187 k).1) ((l187 k).2), F187_1005 k ((l187 k).1) ((l187 k).2))
def f187 (k : Nat) (p : List (Int × Int × Int × Int)) (n : Int) : Option (Bool) := F187 k ((l187 k).1) ((l187 k).2) p n
def s187 : Spec := ⟨false, [(.bool, false)], true, .bool, fun k xs => match xs with | [.slc 136 (.pair (.int .i64) (.pair (.int .i64) (.pair (.int .i64) (.int .i64)))) p, .int .i64 n] => f187 k p n | _ => none⟩
def env39 : List (FuncId × Spec) := (187, s187) :: env38
noncomputable abbrev x187 := exec ti (envOf env38) 30 h187 (finT ti true Go.Proofs.Try.f187.results.toList [(.bool, false)] (.bool))
noncomputable def k187_1002 : List It := stackAt [.r, .l, .r, .b, .lb none] (bodyOf Go.Proofs.Try.f187) []
def t187_1002 (n : Int) (t9 : List (Int × Int × Int × Int)) (t10 : Int) (t11 : Int) : St := [(2, Cell.val (AVal.int IntKind.i64 n)), (18, Cell.val (AVal.slc 136 (Ty.pair (Ty.int IntKind.i64) (Ty.pair (Ty.int IntKind.i64) (Ty.pair (Ty.int IntKind.i64) (Ty.int IntKind.i64)))) t9)), (20, Cell.val (AVal.int IntKind.i64 t10)), (22, Cell.val (AVal.int IntKind.i64 t11))]
noncomputable def k187_1005 : List It := stackAt [.r, .l, .r, .b, .lb none, .r, .r, .l, .b, .r, .r, .b, .lb none] (bodyOf Go.Proofs.Try.f187) []
def t187_1005 (n : Int) (t9 : List (Int × Int × Int × Int)) (t10 : Int) (t11 : Int) (t16_0 : Int) (t16_1 : Int) (t16_2 : Int) (t17 : Int) : St := [(2, Cell.val (AVal.int IntKind.i64 n)), (18, Cell.val (AVal.slc 136 (Ty.pair (Ty.int IntKind.i64) (Ty.pair (Ty.int IntKind.i64) (Ty.pair (Ty.int IntKind.i64) (Ty.int IntKind.i64)))) t9)), (20, Cell.val (AVal.int IntKind.i64 t10)), (22, Cell.val (AVal.int IntKind.i64 t11)), (32, Cell.val (AVal.agg [AVal.int IntKind.i64 t16_0, AVal.int IntKind.i64 t16_1, AVal.int IntKind.i64 t16_2])), (34, Cell.val (AVal.int IntKind.i64 t17))]
theorem e187_1002 (k : Nat) (n : Int) (t9 : List (Int × Int × Int × Int)) (t10 : Int) (t11 : Int) : x187 (k + 1) k187_1002 (t187_1002 n t9 t10 t11) = F187_1002 k (fun (n : Int) (t9 : List (Int × Int × Int × Int)) (t10 : Int) (t11 : Int) => x187 k k187_1002 (t187_1002 n t9 t10 t11)) (fun (n : Int) (t9 : List (Int × Int × Int × Int)) (t10 : Int) (t11 : Int) (t16_0 : Int) (t16_1 : Int) (t16_2 : Int) (t17 : Int) => x187 k k187_1005 (t187_1005 n t9 t10 t11 t16_0 t16_1 t16_2 t17)) n t9 t10 t11 := by kernel_rfl
theorem e187_1005 (k : Nat) (n : Int) (t9 : List (Int × Int × Int × Int)) (t10 : Int) (t11 : Int) (t16_0 : Int) (t16_1 : Int) (t16_2 : Int) (t17 : Int) : x187 (k + 1) k187_1005 (t187_1005 n t9 t10 t11 t16_0 t16_1 t16_2 t17) = F187_1005 k (fun (n : Int) (t9 : List (Int × Int × Int × Int)) (t10 : Int) (t11 : Int) => x187 k k187_1002 (t187_1002 n t9 t10 t11)) (fun (n : Int) (t9 : List (Int × Int × Int × Int)) (t10 : Int) (t11 : Int) (t16_0 : Int) (t16_1 : Int) (t16_2 : Int) (t17 : Int) => x187 k k187_1005 (t187_1005 n t9 t10 t11 t16_0 t16_1 t16_2 t17)) n t9 t10 t11 t16_0 t16_1 t16_2 t17 := by kernel_rfl
theorem q187 : ∀ k : Nat, ((fun (n : Int) (t9 : List (Int × Int × Int × Int)) (t10 : Int) (t11 : Int) => x187 k k187_1002 (t187_1002 n t9 t10 t11)), (fun (n : Int) (t9 : List (Int × Int × Int × Int)) (t10 : Int) (t11 : Int) (t16_0 : Int) (t16_1 : Int) (t16_2 : Int) (t17 : Int) => x187 k k187_1005 (t187_1005 n t9 t10 t11 t16_0 t16_1 t16_2 t17))) = l187 k
  | 0 => rfl
  | k + 1 => by
    have h := q187 k
    show _ = (F187_1002 k ((l187 k).1) ((l187 k).2), F187_1005 k ((l187 k).1) ((l187 k).2))
    rw [← h]
    exact (Prod.ext (funext fun n => funext fun t9 => funext fun t10 => funext fun t11 => e187_1002 k n t9 t10 t11) (funext fun n => funext fun t9 => funext fun t10 => funext fun t11 => funext fun t16_0 => funext fun t16_1 => funext fun t16_2 => funext fun t17 => e187_1005 k n t9 t10 t11 t16_0 t16_1 t16_2 t17))
theorem w187 (k : Nat) (p : List (Int × Int × Int × Int)) (n : Int) : runFn ti (envOf env38) 30 h187 (finT ti true Go.Proofs.Try.f187.results.toList [(.bool, false)] (.bool)) k (bodyOf Go.Proofs.Try.f187) (initS 0 [.slc 136 (.pair (.int .i64) (.pair (.int .i64) (.pair (.int .i64) (.int .i64)))) p, .int .i64 n]) = F187 k (fun (n : Int) (t9 : List (Int × Int × Int × Int)) (t10 : Int) (t11 : Int) => x187 k k187_1002 (t187_1002 n t9 t10 t11)) (fun (n : Int) (t9 : List (Int × Int × Int × Int)) (t10 : Int) (t11 : Int) (t16_0 : Int) (t16_1 : Int) (t16_2 : Int) (t17 : Int) => x187 k k187_1005 (t187_1005 n t9 t10 t11 t16_0 t16_1 t16_2 t17)) p n := by kernel_rfl
theorem v187 (k : Nat) (p : List (Int × Int × Int × Int)) (n : Int) : runFn ti (envOf env38) 30 h187 (finT ti true Go.Proofs.Try.f187.results.toList [(.bool, false)] (.bool)) k (bodyOf Go.Proofs.Try.f187) (initS 0 [.slc 136 (.pair (.int .i64) (.pair (.int .i64) (.pair (.int .i64) (.int .i64)))) p, .int .i64 n]) = f187 k p n := by
  rw [w187]
  have h := q187 k
  unfold f187
  rw [← h]
theorem m187 : Meets Go.Proofs.Try.prog 187 s187 := meets_of_run tiOk env38_ok mo Go.Proofs.Try.func187 (body := bodyOf Go.Proofs.Try.f187) (by kernel_rfl) (N := 30) (by kernel_rfl) (hs := h187) (by
  intro k xs r h
  unfold s187 at h
  dsimp only at h
  split at h
  · exact ⟨Nat.le_of_ble_eq_true rfl, (v187 k _ _).trans h⟩
  · cases h)
theorem env39_ok : EnvOk Go.Proofs.Try.prog (envOf env39) := envOf_cons m187 Go.Proofs.Try.func187 (by kernel_rfl) (by kernel_rfl) env38_ok

-- impl.isSystem
def h160 : Hints := [(1002, .lab [(0, .one (.frz 133 (Ty.slice 136 (Ty.pair (Ty.int IntKind.i64) (Ty.pair (Ty.int IntKind.i64) (Ty.pair (Ty.int IntKind.i64) (Ty.int IntKind.i64))))))), (5, .one (.frz 133 (Ty.slice 136 (Ty.pair (Ty.int IntKind.i64) (Ty.pair (Ty.int IntKind.i64) (Ty.pair (Ty.int IntKind.i64) (Ty.int IntKind.i64))))))), (6, .one (.v)), (7, .one (.v))])]
def F160_1002 (k : Nat) (rec1002 : List (List (Int × Int × Int × Int)) → List (List (Int × Int × Int × Int)) → Int → Int → Option (Bool)) (s : List (List (Int × Int × Int × Int))) (t5 : List (List (Int × Int × Int × Int))) (t6 : Int) (t7 : Int) : Option (Bool) :=
  bif decide (t7 < t6) then
    bif boundA t7 (List.length t5) then
      (f186 k (List.getD t5 (Int.toNat t7) [])).bind fun r0 =>
      bif !r0 then
        some false
      else
        (f187 k (List.getD t5 (Int.toNat t7) []) (↑(List.length s) : Int)).bind fun r1 =>
        bif !r1 then
          some false
        else
          rec1002 s t5 t6 (IntKind.wrap IntKind.i64 (t7 + 1))
    else
      none
  else
    (f74 k (↑(List.length s) : Int) 1 3).bind fun r2 =>
    some r2
def F160 (k : Nat) (rec1002 : List (List (Int × Int × Int × Int)) → List (List (Int × Int × Int × Int)) → Int → Int → Option (Bool)) (s : List (List (Int × Int × Int × Int))) : Option (Bool) :=
  rec1002 s s ((↑(List.length s) : Int)) (0)
def l160 : Nat → (List (List (Int × Int × Int × Int)) → List (List (Int × Int × Int × Int)) → Int → Int → Option (Bool))
  | 0 => fun _ _ _ _ => none
  | k + 1 => F160_1002 k (l160 k)
def f160 (k : Nat) (s : List (List (Int × Int × Int × Int))) : Option (Bool) := F160 k (l160 k) s
def s160 : Spec := ⟨false, [(.bool, false)], true, .bool, fun k xs => match xs with | [.slc 133 (.slice 136 (.pair (.int .i64) (.pair (.int .i64) (.pair (.int .i64) (.int .i64))))) s] => f160 k s | _ => none⟩
def env40 : List (FuncId × Spec) := (160, s160) :: env39
noncomputable abbrev x160 := exec ti (envOf env39) 25 h160 (finT ti true Go.Proofs.Try.f160.results.toList [(.bool, false)] (.bool))
noncomputable def k160_1002 : List It := stackAt [.r, .l, .r, .b, .lb none] (bodyOf Go.Proofs.Try.f160) []
def t160_1002 (s : List (List (Int × Int × Int × Int))) (t5 : List (List (Int × Int × Int × Int))) (t6 : Int) (t7 : Int) : St := [(0, Cell.val (AVal.slc 133 (Ty.slice 136 (Ty.pair (Ty.int IntKind.i64) (Ty.pair (Ty.int IntKind.i64) (Ty.pair (Ty.int IntKind.i64) (Ty.int IntKind.i64))))) s)), (10, Cell.val (AVal.slc 133 (Ty.slice 136 (Ty.pair (Ty.int IntKind.i64) (Ty.pair (Ty.int IntKind.i64) (Ty.pair (Ty.int IntKind.i64) (Ty.int IntKind.i64))))) t5)), (12, Cell.val (AVal.int IntKind.i64 t6)), (14, Cell.val (AVal.int IntKind.i64 t7))]
theorem e160_1002 (k : Nat) (s : List (List (Int × Int × Int × Int))) (t5 : List (List (Int × Int × Int × Int))) (t6 : Int) (t7 : Int) : x160 (k + 1) k160_1002 (t160_1002 s t5 t6 t7) = F160_1002 k (fun (s : List (List (Int × Int × Int × Int))) (t5 : List (List (Int × Int × Int × Int))) (t6 : Int) (t7 : Int) => x160 k k160_1002 (t160_1002 s t5 t6 t7)) s t5 t6 t7 := by kernel_rfl
theorem q160 : ∀ k : Nat, (fun (s : List (List (Int × Int × Int × Int))) (t5 : List (List (Int × Int × Int × Int))) (t6 : Int) (t7 : Int) => x160 k k160_1002 (t160_1002 s t5 t6 t7)) = l160 k
  | 0 => rfl
  | k + 1 => by
    have h := q160 k
    show _ = F160_1002 k (l160 k)
    rw [← h]
    exact (funext fun s => funext fun t5 => funext fun t6 => funext fun t7 => e160_1002 k s t5 t6 t7)
theorem w160 (k : Nat) (s : List (List (Int × Int × Int × Int))) : runFn ti (envOf env39) 25 h160 (finT ti true Go.Proofs.Try.f160.results.toList [(.bool, false)] (.bool)) k (bodyOf Go.Proofs.Try.f160) (initS 0 [.slc 133 (.slice 136 (.pair (.int .i64) (.pair (.int .i64) (.pair (.int .i64) (.int .i64))))) s]) = F160 k (fun (s : List (List (Int × Int × Int × Int))) (t5 : List (List (Int × Int × Int × Int))) (t6 : Int) (t7 : Int) => x160 k k160_1002 (t160_1002 s t5 t6 t7)) s := by kernel_rfl
theorem v160 (k : Nat) (s : List (List (Int × Int × Int × Int))) : runFn ti (envOf env39) 25 h160 (finT ti true Go.Proofs.Try.f160.results.toList [(.bool, false)] (.bool)) k (bodyOf Go.Proofs.Try.f160) (initS 0 [.slc 133 (.slice 136 (.pair (.int .i64) (.pair (.int .i64) (.pair (.int .i64) (.int .i64))))) s]) = f160 k s := by
  rw [w160]
  have h := q160 k
  unfold f160
  rw [← h]
theorem m160 : Meets Go.Proofs.Try.prog 160 s160 := meets_of_run tiOk env39_ok mo Go.Proofs.Try.func160 (body := bodyOf Go.Proofs.Try.f160) (by kernel_rfl) (N := 25) (by kernel_rfl) (hs := h160) (by
  intro k xs r h
  unfold s160 at h
  dsimp only at h
  split at h
  · exact ⟨Nat.le_of_ble_eq_true rfl, (v160 k _).trans h⟩
  · cases h)
theorem env40_ok : EnvOk Go.Proofs.Try.prog (envOf env40) := envOf_cons m160 Go.Proofs.Try.func160 (by kernel_rfl) (by kernel_rfl) env39_ok

end Go.Proofs.YtnndolcjljhhcaaE
