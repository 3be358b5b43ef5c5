/- Functions, by the engine; printed. -/
import Derived.Test.YtnndolcjljhhcaaG1
set_option maxRecDepth 100000
set_option maxHeartbeats 4000000
set_option linter.unusedVariables false
namespace Go.Proofs.YtnndolcjljhhcaaE
-- spec.l1Sign
def f148 (k : Nat) (n : Int) : Option (Int) :=
  bif decide (0 < n) then
    some (1)
  else
    bif decide (n < 0) then
      some (-1)
    else
      some (0)
def s148 : Spec := ⟨false, [(.int .i64, false)], true, .int .i64, fun k xs => match xs with | [.int .i64 n] => f148 k n | _ => none⟩
def env11 : List (FuncId × Spec) := (148, s148) :: env10
theorem v148 (k : Nat) (n : Int) : runFn ti (envOf env10) 9 [] (finT ti true Go.Proofs.Try.f148.results.toList [(.int .i64, false)] (.int .i64)) k (bodyOf Go.Proofs.Try.f148) (initS 0 [.int .i64 n]) = f148 k n := by kernel_rfl
theorem m148 : Meets Go.Proofs.Try.prog 148 s148 := meets_of_run tiOk env10_ok mo Go.Proofs.Try.func148 (body := bodyOf Go.Proofs.Try.f148) (by kernel_rfl) (N := 9) (by kernel_rfl) (hs := []) (by
  intro k xs r h
  unfold s148 at h
  dsimp only at h
  split at h
  · exact ⟨Nat.le_of_ble_eq_true rfl, (v148 k _).trans h⟩
  · cases h)
theorem env11_ok : EnvOk Go.Proofs.Try.prog (envOf env11) := envOf_cons m148 Go.Proofs.Try.func148 (by kernel_rfl) (by kernel_rfl) env10_ok

-- spec.poOrder
def f197 (k : Nat) (a_C : Int) (a_X : Int) (a_Y : Int) (a_Z : Int) (b_C : Int) (b_X : Int) (b_Y : Int) (b_Z : Int) : Option (Int) :=
  bif !decide (a_X = b_X) then
    (f148 k (IntKind.wrap IntKind.i64 (a_X - b_X))).bind fun r0 =>
    some r0
  else
    bif !decide (a_Y = b_Y) then
      (f148 k (IntKind.wrap IntKind.i64 (a_Y - b_Y))).bind fun r1 =>
      some r1
    else
      (f148 k (IntKind.wrap IntKind.i64 (a_Z - b_Z))).bind fun r2 =>
      some r2
def s197 : Spec := ⟨false, [(.int .i64, false)], true, .int .i64, fun k xs => match xs with | [.agg [.int .i64 a_C, .int .i64 a_X, .int .i64 a_Y, .int .i64 a_Z], .agg [.int .i64 b_C, .int .i64 b_X, .int .i64 b_Y, .int .i64 b_Z]] => f197 k a_C a_X a_Y a_Z b_C b_X b_Y b_Z | _ => none⟩
def env12 : List (FuncId × Spec) := (197, s197) :: env11
theorem v197 (k : Nat) (a_C : Int) (a_X : Int) (a_Y : Int) (a_Z : Int) (b_C : Int) (b_X : Int) (b_Y : Int) (b_Z : Int) : runFn ti (envOf env11) 35 [] (finT ti true Go.Proofs.Try.f197.results.toList [(.int .i64, false)] (.int .i64)) k (bodyOf Go.Proofs.Try.f197) (initS 0 [.agg [.int .i64 a_C, .int .i64 a_X, .int .i64 a_Y, .int .i64 a_Z], .agg [.int .i64 b_C, .int .i64 b_X, .int .i64 b_Y, .int .i64 b_Z]]) = f197 k a_C a_X a_Y a_Z b_C b_X b_Y b_Z := by kernel_rfl
theorem m197 : Meets Go.Proofs.Try.prog 197 s197 := meets_of_run tiOk env11_ok mo Go.Proofs.Try.func197 (body := bodyOf Go.Proofs.Try.f197) (by kernel_rfl) (N := 35) (by kernel_rfl) (hs := []) (by
  intro k xs r h
  unfold s197 at h
  dsimp only at h
  split at h
  · exact ⟨Nat.le_of_ble_eq_true rfl, (v197 k _ _ _ _ _ _ _ _).trans h⟩
  · cases h)
theorem env12_ok : EnvOk Go.Proofs.Try.prog (envOf env12) := envOf_cons m197 Go.Proofs.Try.func197 (by kernel_rfl) (by kernel_rfl) env11_ok

-- spec.poGood
def h184 : Hints := [(1002, .lab [(0, .one (.frz 136 (Ty.pair (Ty.int IntKind.i64) (Ty.pair (Ty.int IntKind.i64) (Ty.pair (Ty.int IntKind.i64) (Ty.int IntKind.i64)))))), (5, .one (.frz 136 (Ty.pair (Ty.int IntKind.i64) (Ty.pair (Ty.int IntKind.i64) (Ty.pair (Ty.int IntKind.i64) (Ty.int IntKind.i64)))))), (6, .one (.v)), (7, .one (.v))])]
def F184_1002 (k : Nat) (rec1002 : List (Int × Int × Int × Int) → List (Int × Int × Int × Int) → Int → Int → Option (Bool)) (p : List (Int × Int × Int × Int)) (t5 : List (Int × Int × Int × Int)) (t6 : Int) (t7 : Int) : Option (Bool) :=
  bif decide (t7 < t6) then
    bif boundA t7 (List.length t5) then
      (f196 k (List.getD t5 (Int.toNat t7) (0, 0, 0, 0)).fst (List.getD t5 (Int.toNat t7) (0, 0, 0, 0)).snd.fst (List.getD t5 (Int.toNat t7) (0, 0, 0, 0)).snd.snd.fst (List.getD t5 (Int.toNat t7) (0, 0, 0, 0)).snd.snd.snd).bind fun r0 =>
      bif !r0 then
        some false
      else
        bif decide ((List.getD t5 (Int.toNat t7) (0, 0, 0, 0)).fst = 0) then
          some false
        else
          bif decide (0 < t7) then
            bif boundA (IntKind.wrap IntKind.i64 (t7 - 1)) (List.length p) then
              (f197 k (List.getD p (Int.toNat (IntKind.wrap IntKind.i64 (t7 - 1))) (0, 0, 0, 0)).fst (List.getD p (Int.toNat (IntKind.wrap IntKind.i64 (t7 - 1))) (0, 0, 0, 0)).snd.fst (List.getD p (Int.toNat (IntKind.wrap IntKind.i64 (t7 - 1))) (0, 0, 0, 0)).snd.snd.fst (List.getD p (Int.toNat (IntKind.wrap IntKind.i64 (t7 - 1))) (0, 0, 0, 0)).snd.snd.snd (List.getD t5 (Int.toNat t7) (0, 0, 0, 0)).fst (List.getD t5 (Int.toNat t7) (0, 0, 0, 0)).snd.fst (List.getD t5 (Int.toNat t7) (0, 0, 0, 0)).snd.snd.fst (List.getD t5 (Int.toNat t7) (0, 0, 0, 0)).snd.snd.snd).bind fun r1 =>
              bif decide (0 ≤ r1) then
                some false
              else
                rec1002 p t5 t6 (IntKind.wrap IntKind.i64 (t7 + 1))
            else
              none
          else
            rec1002 p t5 t6 (IntKind.wrap IntKind.i64 (t7 + 1))
    else
      none
  else
    some (decide ((↑(List.length p) : Int) ≤ 20))
def F184 (k : Nat) (rec1002 : List (Int × Int × Int × Int) → List (Int × Int × Int × Int) → Int → Int → Option (Bool)) (p : List (Int × Int × Int × Int)) : Option (Bool) :=
  rec1002 p p ((↑(List.length p) : Int)) (0)
def l184 : Nat → (List (Int × Int × Int × Int) → List (Int × Int × Int × Int) → Int → Int → Option (Bool))
  | 0 => fun _ _ _ _ => none
  | k + 1 => F184_1002 k (l184 k)
def f184 (k : Nat) (p : List (Int × Int × Int × Int)) : Option (Bool) := F184 k (l184 k) p
def s184 : Spec := ⟨false, [(.bool, false)], true, .bool, fun k xs => match xs with | [.slc 136 (.pair (.int .i64) (.pair (.int .i64) (.pair (.int .i64) (.int .i64)))) p] => f184 k p | _ => none⟩
def env13 : List (FuncId × Spec) := (184, s184) :: env12
noncomputable abbrev x184 := exec ti (envOf env12) 38 h184 (finT ti true Go.Proofs.Try.f184.results.toList [(.bool, false)] (.bool))
noncomputable def k184_1002 : List It := stackAt [.r, .l, .r, .b, .lb none] (bodyOf Go.Proofs.Try.f184) []
def t184_1002 (p : List (Int × Int × Int × Int)) (t5 : List (Int × Int × Int × Int)) (t6 : Int) (t7 : Int) : St := [(0, Cell.val (AVal.slc 136 (Ty.pair (Ty.int IntKind.i64) (Ty.pair (Ty.int IntKind.i64) (Ty.pair (Ty.int IntKind.i64) (Ty.int IntKind.i64)))) p)), (10, Cell.val (AVal.slc 136 (Ty.pair (Ty.int IntKind.i64) (Ty.pair (Ty.int IntKind.i64) (Ty.pair (Ty.int IntKind.i64) (Ty.int IntKind.i64)))) t5)), (12, Cell.val (AVal.int IntKind.i64 t6)), (14, Cell.val (AVal.int IntKind.i64 t7))]
theorem e184_1002 (k : Nat) (p : List (Int × Int × Int × Int)) (t5 : List (Int × Int × Int × Int)) (t6 : Int) (t7 : Int) : x184 (k + 1) k184_1002 (t184_1002 p t5 t6 t7) = F184_1002 k (fun (p : List (Int × Int × Int × Int)) (t5 : List (Int × Int × Int × Int)) (t6 : Int) (t7 : Int) => x184 k k184_1002 (t184_1002 p t5 t6 t7)) p t5 t6 t7 := by kernel_rfl
theorem q184 : ∀ k : Nat, (fun (p : List (Int × Int × Int × Int)) (t5 : List (Int × Int × Int × Int)) (t6 : Int) (t7 : Int) => x184 k k184_1002 (t184_1002 p t5 t6 t7)) = l184 k
  | 0 => rfl
  | k + 1 => by
    have h := q184 k
    show _ = F184_1002 k (l184 k)
    rw [← h]
    exact (funext fun p => funext fun t5 => funext fun t6 => funext fun t7 => e184_1002 k p t5 t6 t7)
theorem w184 (k : Nat) (p : List (Int × Int × Int × Int)) : runFn ti (envOf env12) 38 h184 (finT ti true Go.Proofs.Try.f184.results.toList [(.bool, false)] (.bool)) k (bodyOf Go.Proofs.Try.f184) (initS 0 [.slc 136 (.pair (.int .i64) (.pair (.int .i64) (.pair (.int .i64) (.int .i64)))) p]) = F184 k (fun (p : List (Int × Int × Int × Int)) (t5 : List (Int × Int × Int × Int)) (t6 : Int) (t7 : Int) => x184 k k184_1002 (t184_1002 p t5 t6 t7)) p := by kernel_rfl
theorem v184 (k : Nat) (p : List (Int × Int × Int × Int)) : runFn ti (envOf env12) 38 h184 (finT ti true Go.Proofs.Try.f184.results.toList [(.bool, false)] (.bool)) k (bodyOf Go.Proofs.Try.f184) (initS 0 [.slc 136 (.pair (.int .i64) (.pair (.int .i64) (.pair (.int .i64) (.int .i64)))) p]) = f184 k p := by
  rw [w184]
  have h := q184 k
  unfold f184
  rw [← h]
theorem m184 : Meets Go.Proofs.Try.prog 184 s184 := meets_of_run tiOk env12_ok mo Go.Proofs.Try.func184 (body := bodyOf Go.Proofs.Try.f184) (by kernel_rfl) (N := 38) (by kernel_rfl) (hs := h184) (by
  intro k xs r h
  unfold s184 at h
  dsimp only at h
  split at h
  · exact ⟨Nat.le_of_ble_eq_true rfl, (v184 k _).trans h⟩
  · cases h)
theorem env13_ok : EnvOk Go.Proofs.Try.prog (envOf env13) := envOf_cons m184 Go.Proofs.Try.func184 (by kernel_rfl) (by kernel_rfl) env12_ok

-- spec.l1Most
def f162 (k : Nat) (a : Int) (b : Int) : Option (Int) :=
  bif decide (b < a) then
    some a
  else
    some b
def s162 : Spec := ⟨false, [(.int .i64, false)], true, .int .i64, fun k xs => match xs with | [.int .i64 a, .int .i64 b] => f162 k a b | _ => none⟩
def env14 : List (FuncId × Spec) := (162, s162) :: env13
theorem v162 (k : Nat) (a : Int) (b : Int) : runFn ti (envOf env13) 10 [] (finT ti true Go.Proofs.Try.f162.results.toList [(.int .i64, false)] (.int .i64)) k (bodyOf Go.Proofs.Try.f162) (initS 0 [.int .i64 a, .int .i64 b]) = f162 k a b := by kernel_rfl
theorem m162 : Meets Go.Proofs.Try.prog 162 s162 := meets_of_run tiOk env13_ok mo Go.Proofs.Try.func162 (body := bodyOf Go.Proofs.Try.f162) (by kernel_rfl) (N := 10) (by kernel_rfl) (hs := []) (by
  intro k xs r h
  unfold s162 at h
  dsimp only at h
  split at h
  · exact ⟨Nat.le_of_ble_eq_true rfl, (v162 k _ _).trans h⟩
  · cases h)
theorem env14_ok : EnvOk Go.Proofs.Try.prog (envOf env14) := envOf_cons m162 Go.Proofs.Try.func162 (by kernel_rfl) (by kernel_rfl) env13_ok

-- spec.poPower
def f198 (k : Nat) (t_C : Int) (t_X : Int) (t_Y : Int) (t_Z : Int) (k_ : Int) : Option (Int) :=
  bif decide (k_ = 0) then
    some t_X
  else
    bif decide (k_ = 1) then
      some t_Y
    else
      some t_Z
def s198 : Spec := ⟨false, [(.int .i64, false)], true, .int .i64, fun k xs => match xs with | [.agg [.int .i64 t_C, .int .i64 t_X, .int .i64 t_Y, .int .i64 t_Z], .int .i64 k_] => f198 k t_C t_X t_Y t_Z k_ | _ => none⟩
def env15 : List (FuncId × Spec) := (198, s198) :: env14
theorem v198 (k : Nat) (t_C : Int) (t_X : Int) (t_Y : Int) (t_Z : Int) (k_ : Int) : runFn ti (envOf env14) 16 [] (finT ti true Go.Proofs.Try.f198.results.toList [(.int .i64, false)] (.int .i64)) k (bodyOf Go.Proofs.Try.f198) (initS 0 [.agg [.int .i64 t_C, .int .i64 t_X, .int .i64 t_Y, .int .i64 t_Z], .int .i64 k_]) = f198 k t_C t_X t_Y t_Z k_ := by kernel_rfl
theorem m198 : Meets Go.Proofs.Try.prog 198 s198 := meets_of_run tiOk env14_ok mo Go.Proofs.Try.func198 (body := bodyOf Go.Proofs.Try.f198) (by kernel_rfl) (N := 16) (by kernel_rfl) (hs := []) (by
  intro k xs r h
  unfold s198 at h
  dsimp only at h
  split at h
  · exact ⟨Nat.le_of_ble_eq_true rfl, (v198 k _ _ _ _ _).trans h⟩
  · cases h)
theorem env15_ok : EnvOk Go.Proofs.Try.prog (envOf env15) := envOf_cons m198 Go.Proofs.Try.func198 (by kernel_rfl) (by kernel_rfl) env14_ok

-- spec.poDegreeIn
def h185 : Hints := [(1003, .lab [(1, .one (.v)), (5, .one (.v)), (8, .one (.frz 136 (Ty.pair (Ty.int IntKind.i64) (Ty.pair (Ty.int IntKind.i64) (Ty.pair (Ty.int IntKind.i64) (Ty.int IntKind.i64)))))), (9, .one (.v)), (10, .one (.v))])]
def F185_1003 (k : Nat) (rec1003 : Int → Int → List (Int × Int × Int × Int) → Int → Int → Option (Int)) (k_ : Int) (most : Int) (t8 : List (Int × Int × Int × Int)) (t9 : Int) (t10 : Int) : Option (Int) :=
  bif decide (t10 < t9) then
    bif boundA t10 (List.length t8) then
      (f198 k (List.getD t8 (Int.toNat t10) (0, 0, 0, 0)).fst (List.getD t8 (Int.toNat t10) (0, 0, 0, 0)).snd.fst (List.getD t8 (Int.toNat t10) (0, 0, 0, 0)).snd.snd.fst (List.getD t8 (Int.toNat t10) (0, 0, 0, 0)).snd.snd.snd k_).bind fun r0 =>
      (f162 k most r0).bind fun r1 =>
      rec1003 k_ r1 t8 t9 (IntKind.wrap IntKind.i64 (t10 + 1))
    else
      none
  else
    some most
def F185 (k : Nat) (rec1003 : Int → Int → List (Int × Int × Int × Int) → Int → Int → Option (Int)) (p : List (Int × Int × Int × Int)) (k_ : Int) : Option (Int) :=
  rec1003 k_ (-1) p ((↑(List.length p) : Int)) (0)
def l185 : Nat → (Int → Int → List (Int × Int × Int × Int) → Int → Int → Option (Int))
  | 0 => fun _ _ _ _ _ => none
  | k + 1 => F185_1003 k (l185 k)
def f185 (k : Nat) (p : List (Int × Int × Int × Int)) (k_ : Int) : Option (Int) := F185 k (l185 k) p k_
def s185 : Spec := ⟨false, [(.int .i64, false)], true, .int .i64, fun k xs => match xs with | [.slc 136 (.pair (.int .i64) (.pair (.int .i64) (.pair (.int .i64) (.int .i64)))) p, .int .i64 k_] => f185 k p k_ | _ => none⟩
def env16 : List (FuncId × Spec) := (185, s185) :: env15
noncomputable abbrev x185 := exec ti (envOf env15) 21 h185 (finT ti true Go.Proofs.Try.f185.results.toList [(.int .i64, false)] (.int .i64))
noncomputable def k185_1003 : List It := stackAt [.r, .r, .l, .r, .b, .lb none] (bodyOf Go.Proofs.Try.f185) []
def t185_1003 (k_ : Int) (most : Int) (t8 : List (Int × Int × Int × Int)) (t9 : Int) (t10 : Int) : St := [(2, Cell.val (AVal.int IntKind.i64 k_)), (10, Cell.val (AVal.int IntKind.i64 most)), (16, Cell.val (AVal.slc 136 (Ty.pair (Ty.int IntKind.i64) (Ty.pair (Ty.int IntKind.i64) (Ty.pair (Ty.int IntKind.i64) (Ty.int IntKind.i64)))) t8)), (18, Cell.val (AVal.int IntKind.i64 t9)), (20, Cell.val (AVal.int IntKind.i64 t10))]
theorem e185_1003 (k : Nat) (k_ : Int) (most : Int) (t8 : List (Int × Int × Int × Int)) (t9 : Int) (t10 : Int) : x185 (k + 1) k185_1003 (t185_1003 k_ most t8 t9 t10) = F185_1003 k (fun (k_ : Int) (most : Int) (t8 : List (Int × Int × Int × Int)) (t9 : Int) (t10 : Int) => x185 k k185_1003 (t185_1003 k_ most t8 t9 t10)) k_ most t8 t9 t10 := by kernel_rfl
theorem q185 : ∀ k : Nat, (fun (k_ : Int) (most : Int) (t8 : List (Int × Int × Int × Int)) (t9 : Int) (t10 : Int) => x185 k k185_1003 (t185_1003 k_ most t8 t9 t10)) = l185 k
  | 0 => rfl
  | k + 1 => by
    have h := q185 k
    show _ = F185_1003 k (l185 k)
    rw [← h]
    exact (funext fun k_ => funext fun most => funext fun t8 => funext fun t9 => funext fun t10 => e185_1003 k k_ most t8 t9 t10)
theorem w185 (k : Nat) (p : List (Int × Int × Int × Int)) (k_ : Int) : runFn ti (envOf env15) 21 h185 (finT ti true Go.Proofs.Try.f185.results.toList [(.int .i64, false)] (.int .i64)) k (bodyOf Go.Proofs.Try.f185) (initS 0 [.slc 136 (.pair (.int .i64) (.pair (.int .i64) (.pair (.int .i64) (.int .i64)))) p, .int .i64 k_]) = F185 k (fun (k_ : Int) (most : Int) (t8 : List (Int × Int × Int × Int)) (t9 : Int) (t10 : Int) => x185 k k185_1003 (t185_1003 k_ most t8 t9 t10)) p k_ := by kernel_rfl
theorem v185 (k : Nat) (p : List (Int × Int × Int × Int)) (k_ : Int) : runFn ti (envOf env15) 21 h185 (finT ti true Go.Proofs.Try.f185.results.toList [(.int .i64, false)] (.int .i64)) k (bodyOf Go.Proofs.Try.f185) (initS 0 [.slc 136 (.pair (.int .i64) (.pair (.int .i64) (.pair (.int .i64) (.int .i64)))) p, .int .i64 k_]) = f185 k p k_ := by
  rw [w185]
  have h := q185 k
  unfold f185
  rw [← h]
theorem m185 : Meets Go.Proofs.Try.prog 185 s185 := meets_of_run tiOk env15_ok mo Go.Proofs.Try.func185 (body := bodyOf Go.Proofs.Try.f185) (by kernel_rfl) (N := 21) (by kernel_rfl) (hs := h185) (by
  intro k xs r h
  unfold s185 at h
  dsimp only at h
  split at h
  · exact ⟨Nat.le_of_ble_eq_true rfl, (v185 k _ _).trans h⟩
  · cases h)
theorem env16_ok : EnvOk Go.Proofs.Try.prog (envOf env16) := envOf_cons m185 Go.Proofs.Try.func185 (by kernel_rfl) (by kernel_rfl) env15_ok

-- spec.poSystem
def h158 : Hints := [(1002, .lab [(0, .one (.frz 133 (Ty.slice 136 (Ty.pair (Ty.int IntKind.i64) (Ty.pair (Ty.int IntKind.i64) (Ty.pair (Ty.int IntKind.i64) (Ty.int IntKind.i64))))))), (6, .one (.frz 133 (Ty.slice 136 (Ty.pair (Ty.int IntKind.i64) (Ty.pair (Ty.int IntKind.i64) (Ty.pair (Ty.int IntKind.i64) (Ty.int IntKind.i64))))))), (7, .one (.v)), (8, .one (.v))]), (1007, .lab [(0, .one (.frz 133 (Ty.slice 136 (Ty.pair (Ty.int IntKind.i64) (Ty.pair (Ty.int IntKind.i64) (Ty.pair (Ty.int IntKind.i64) (Ty.int IntKind.i64))))))), (4, .one (.frz 136 (Ty.pair (Ty.int IntKind.i64) (Ty.pair (Ty.int IntKind.i64) (Ty.pair (Ty.int IntKind.i64) (Ty.int IntKind.i64)))))), (5, .one (.v)), (6, .one (.frz 133 (Ty.slice 136 (Ty.pair (Ty.int IntKind.i64) (Ty.pair (Ty.int IntKind.i64) (Ty.pair (Ty.int IntKind.i64) (Ty.int IntKind.i64))))))), (7, .one (.v)), (8, .one (.v))])]
def F158_1002 (k : Nat) (rec1002 : List (List (Int × Int × Int × Int)) → List (List (Int × Int × Int × Int)) → Int → Int → Option (Bool)) (rec1007 : List (List (Int × Int × Int × Int)) → List (Int × Int × Int × Int) → Int → List (List (Int × Int × Int × Int)) → Int → Int → Option (Bool)) (s : List (List (Int × Int × Int × Int))) (t6 : List (List (Int × Int × Int × Int))) (t7 : Int) (t8 : Int) : Option (Bool) :=
  bif decide (t8 < t7) then
    bif boundA t8 (List.length t6) then
      (f184 k (List.getD t6 (Int.toNat t8) [])).bind fun r0 =>
      bif !r0 then
        some false
      else
        rec1007 s (List.getD t6 (Int.toNat t8) []) ((↑(List.length s) : Int)) t6 t7 t8
    else
      none
  else
    (f85 k (↑(List.length s) : Int) 1 3).bind fun r1 =>
    some r1
def F158_1007 (k : Nat) (rec1002 : List (List (Int × Int × Int × Int)) → List (List (Int × Int × Int × Int)) → Int → Int → Option (Bool)) (rec1007 : List (List (Int × Int × Int × Int)) → List (Int × Int × Int × Int) → Int → List (List (Int × Int × Int × Int)) → Int → Int → Option (Bool)) (s : List (List (Int × Int × Int × Int))) (p : List (Int × Int × Int × Int)) (k_ : Int) (t6 : List (List (Int × Int × Int × Int))) (t7 : Int) (t8 : Int) : Option (Bool) :=
  bif decide (k_ < 3) then
    (f185 k p k_).bind fun r0 =>
    bif decide (0 < r0) then
      some false
    else
      rec1007 s p (IntKind.wrap IntKind.i64 (k_ + 1)) t6 t7 t8
  else
    rec1002 s t6 t7 (IntKind.wrap IntKind.i64 (t8 + 1))
def F158 (k : Nat) (rec1002 : List (List (Int × Int × Int × Int)) → List (List (Int × Int × Int × Int)) → Int → Int → Option (Bool)) (rec1007 : List (List (Int × Int × Int × Int)) → List (Int × Int × Int × Int) → Int → List (List (Int × Int × Int × Int)) → Int → Int → Option (Bool)) (s : List (List (Int × Int × Int × Int))) : Option (Bool) :=
  rec1002 s s ((↑(List.length s) : Int)) (0)
def l158 : Nat → (List (List (Int × Int × Int × Int)) → List (List (Int × Int × Int × Int)) → Int → Int → Option (Bool)) × (List (List (Int × Int × Int × Int)) → List (Int × Int × Int × Int) → Int → List (List (Int × Int × Int × Int)) → Int → Int → Option (Bool))
  | 0 => (fun _ _ _ _ => none, fun _ _ _ _ _ _ => none)
  | k + 1 => (F158_1002 k ((l158 k).1) ((l158 k).2), F158_1007 k ((l158 k).1) ((l158 k).2))
def f158 (k : Nat) (s : List (List (Int × Int × Int × Int))) : Option (Bool) := F158 k ((l158 k).1) ((l158 k).2) s
def s158 : Spec := ⟨false, [(.bool, false)], true, .bool, fun k xs => match xs with | [.slc 133 (.slice 136 (.pair (.int .i64) (.pair (.int .i64) (.pair (.int .i64) (.int .i64))))) s] => f158 k s | _ => none⟩
def env17 : List (FuncId × Spec) := (158, s158) :: env16
noncomputable abbrev x158 := exec ti (envOf env16) 29 h158 (finT ti true Go.Proofs.Try.f158.results.toList [(.bool, false)] (.bool))
noncomputable def k158_1002 : List It := stackAt [.r, .l, .r, .b, .lb none] (bodyOf Go.Proofs.Try.f158) []
def t158_1002 (s : List (List (Int × Int × Int × Int))) (t6 : List (List (Int × Int × Int × Int))) (t7 : Int) (t8 : Int) : St := [(0, Cell.val (AVal.slc 133 (Ty.slice 136 (Ty.pair (Ty.int IntKind.i64) (Ty.pair (Ty.int IntKind.i64) (Ty.pair (Ty.int IntKind.i64) (Ty.int IntKind.i64))))) s)), (12, Cell.val (AVal.slc 133 (Ty.slice 136 (Ty.pair (Ty.int IntKind.i64) (Ty.pair (Ty.int IntKind.i64) (Ty.pair (Ty.int IntKind.i64) (Ty.int IntKind.i64))))) t6)), (14, Cell.val (AVal.int IntKind.i64 t7)), (16, Cell.val (AVal.int IntKind.i64 t8))]
noncomputable def k158_1007 : List It := stackAt [.r, .l, .r, .b, .lb none, .r, .r, .l, .b, .r, .r, .r, .b, .lb none] (bodyOf Go.Proofs.Try.f158) []
def t158_1007 (s : List (List (Int × Int × Int × Int))) (p : List (Int × Int × Int × Int)) (k_ : Int) (t6 : List (List (Int × Int × Int × Int))) (t7 : Int) (t8 : Int) : St := [(0, Cell.val (AVal.slc 133 (Ty.slice 136 (Ty.pair (Ty.int IntKind.i64) (Ty.pair (Ty.int IntKind.i64) (Ty.pair (Ty.int IntKind.i64) (Ty.int IntKind.i64))))) s)), (8, Cell.val (AVal.slc 136 (Ty.pair (Ty.int IntKind.i64) (Ty.pair (Ty.int IntKind.i64) (Ty.pair (Ty.int IntKind.i64) (Ty.int IntKind.i64)))) p)), (10, Cell.val (AVal.int IntKind.i64 k_)), (12, Cell.val (AVal.slc 133 (Ty.slice 136 (Ty.pair (Ty.int IntKind.i64) (Ty.pair (Ty.int IntKind.i64) (Ty.pair (Ty.int IntKind.i64) (Ty.int IntKind.i64))))) t6)), (14, Cell.val (AVal.int IntKind.i64 t7)), (16, Cell.val (AVal.int IntKind.i64 t8))]
theorem e158_1002 (k : Nat) (s : List (List (Int × Int × Int × Int))) (t6 : List (List (Int × Int × Int × Int))) (t7 : Int) (t8 : Int) : x158 (k + 1) k158_1002 (t158_1002 s t6 t7 t8) = F158_1002 k (fun (s : List (List (Int × Int × Int × Int))) (t6 : List (List (Int × Int × Int × Int))) (t7 : Int) (t8 : Int) => x158 k k158_1002 (t158_1002 s t6 t7 t8)) (fun (s : List (List (Int × Int × Int × Int))) (p : List (Int × Int × Int × Int)) (k_ : Int) (t6 : List (List (Int × Int × Int × Int))) (t7 : Int) (t8 : Int) => x158 k k158_1007 (t158_1007 s p k_ t6 t7 t8)) s t6 t7 t8 := by kernel_rfl
theorem e158_1007 (k : Nat) (s : List (List (Int × Int × Int × Int))) (p : List (Int × Int × Int × Int)) (k_ : Int) (t6 : List (List (Int × Int × Int × Int))) (t7 : Int) (t8 : Int) : x158 (k + 1) k158_1007 (t158_1007 s p k_ t6 t7 t8) = F158_1007 k (fun (s : List (List (Int × Int × Int × Int))) (t6 : List (List (Int × Int × Int × Int))) (t7 : Int) (t8 : Int) => x158 k k158_1002 (t158_1002 s t6 t7 t8)) (fun (s : List (List (Int × Int × Int × Int))) (p : List (Int × Int × Int × Int)) (k_ : Int) (t6 : List (List (Int × Int × Int × Int))) (t7 : Int) (t8 : Int) => x158 k k158_1007 (t158_1007 s p k_ t6 t7 t8)) s p k_ t6 t7 t8 := by kernel_rfl
theorem q158 : ∀ k : Nat, ((fun (s : List (List (Int × Int × Int × Int))) (t6 : List (List (Int × Int × Int × Int))) (t7 : Int) (t8 : Int) => x158 k k158_1002 (t158_1002 s t6 t7 t8)), (fun (s : List (List (Int × Int × Int × Int))) (p : List (Int × Int × Int × Int)) (k_ : Int) (t6 : List (List (Int × Int × Int × Int))) (t7 : Int) (t8 : Int) => x158 k k158_1007 (t158_1007 s p k_ t6 t7 t8))) = l158 k
  | 0 => rfl
  | k + 1 => by
    have h := q158 k
    show _ = (F158_1002 k ((l158 k).1) ((l158 k).2), F158_1007 k ((l158 k).1) ((l158 k).2))
    rw [← h]
    exact (Prod.ext (funext fun s => funext fun t6 => funext fun t7 => funext fun t8 => e158_1002 k s t6 t7 t8) (funext fun s => funext fun p => funext fun k_ => funext fun t6 => funext fun t7 => funext fun t8 => e158_1007 k s p k_ t6 t7 t8))
theorem w158 (k : Nat) (s : List (List (Int × Int × Int × Int))) : runFn ti (envOf env16) 29 h158 (finT ti true Go.Proofs.Try.f158.results.toList [(.bool, false)] (.bool)) k (bodyOf Go.Proofs.Try.f158) (initS 0 [.slc 133 (.slice 136 (.pair (.int .i64) (.pair (.int .i64) (.pair (.int .i64) (.int .i64))))) s]) = F158 k (fun (s : List (List (Int × Int × Int × Int))) (t6 : List (List (Int × Int × Int × Int))) (t7 : Int) (t8 : Int) => x158 k k158_1002 (t158_1002 s t6 t7 t8)) (fun (s : List (List (Int × Int × Int × Int))) (p : List (Int × Int × Int × Int)) (k_ : Int) (t6 : List (List (Int × Int × Int × Int))) (t7 : Int) (t8 : Int) => x158 k k158_1007 (t158_1007 s p k_ t6 t7 t8)) s := by kernel_rfl
theorem v158 (k : Nat) (s : List (List (Int × Int × Int × Int))) : runFn ti (envOf env16) 29 h158 (finT ti true Go.Proofs.Try.f158.results.toList [(.bool, false)] (.bool)) k (bodyOf Go.Proofs.Try.f158) (initS 0 [.slc 133 (.slice 136 (.pair (.int .i64) (.pair (.int .i64) (.pair (.int .i64) (.int .i64))))) s]) = f158 k s := by
  rw [w158]
  have h := q158 k
  unfold f158
  rw [← h]
theorem m158 : Meets Go.Proofs.Try.prog 158 s158 := meets_of_run tiOk env16_ok mo Go.Proofs.Try.func158 (body := bodyOf Go.Proofs.Try.f158) (by kernel_rfl) (N := 29) (by kernel_rfl) (hs := h158) (by
  intro k xs r h
  unfold s158 at h
  dsimp only at h
  split at h
  · exact ⟨Nat.le_of_ble_eq_true rfl, (v158 k _).trans h⟩
  · cases h)
theorem env17_ok : EnvOk Go.Proofs.Try.prog (envOf env17) := envOf_cons m158 Go.Proofs.Try.func158 (by kernel_rfl) (by kernel_rfl) env16_ok

-- spec.vaBoth
def f125 (k : Nat) (s : List (List (Int × Int × Int × Int))) (b_K : Int) (b_Low : List (Int)) (b_High : List (Int)) : Option (Bool) :=
  (f158 k s).bind fun r0 =>
  bif r0 then
    (f101 k b_K b_Low b_High).bind fun r1 =>
    bif r1 then
      some (decide ((↑(List.length s) : Int) = (↑(List.length b_Low) : Int)))
    else
      some false
  else
    some false
def s125 : Spec := ⟨false, [(.bool, false)], true, .bool, fun k xs => match xs with | [.slc 133 (.slice 136 (.pair (.int .i64) (.pair (.int .i64) (.pair (.int .i64) (.int .i64))))) s, .agg [.int .i64 b_K, .slc 3 (.int .i64) b_Low, .slc 3 (.int .i64) b_High]] => f125 k s b_K b_Low b_High | _ => none⟩
def env18 : List (FuncId × Spec) := (125, s125) :: env17
theorem v125 (k : Nat) (s : List (List (Int × Int × Int × Int))) (b_K : Int) (b_Low : List (Int)) (b_High : List (Int)) : runFn ti (envOf env17) 19 [] (finT ti true Go.Proofs.Try.f125.results.toList [(.bool, false)] (.bool)) k (bodyOf Go.Proofs.Try.f125) (initS 0 [.slc 133 (.slice 136 (.pair (.int .i64) (.pair (.int .i64) (.pair (.int .i64) (.int .i64))))) s, .agg [.int .i64 b_K, .slc 3 (.int .i64) b_Low, .slc 3 (.int .i64) b_High]]) = f125 k s b_K b_Low b_High := by kernel_rfl
theorem m125 : Meets Go.Proofs.Try.prog 125 s125 := meets_of_run tiOk env17_ok mo Go.Proofs.Try.func125 (body := bodyOf Go.Proofs.Try.f125) (by kernel_rfl) (N := 19) (by kernel_rfl) (hs := []) (by
  intro k xs r h
  unfold s125 at h
  dsimp only at h
  split at h
  · exact ⟨Nat.le_of_ble_eq_true rfl, (v125 k _ _ _ _).trans h⟩
  · cases h)
theorem env18_ok : EnvOk Go.Proofs.Try.prog (envOf env18) := envOf_cons m125 Go.Proofs.Try.func125 (by kernel_rfl) (by kernel_rfl) env17_ok

-- spec.caEntry
def f91 (k : Nat) (e_Name : ByteArray) (e_System : List (List (Int × Int × Int × Int))) (e_Box_K : Int) (e_Box_Low : List (Int)) (e_Box_High : List (Int)) (e_Least : Int) (e_Most : Int) (e_Version : Int) : Option (Bool) :=
  (f124 k e_Name).bind fun r0 =>
  bif r0 then
    (f125 k e_System e_Box_K e_Box_Low e_Box_High).bind fun r1 =>
    bif r1 then
      (f85 k e_Most 0 64).bind fun r2 =>
      bif r2 then
        (f85 k e_Least 0 e_Most).bind fun r3 =>
        bif r3 then
          (f85 k e_Version 1 999).bind fun r4 =>
          some r4
        else
          some false
      else
        some false
    else
      some false
  else
    some false
def s91 : Spec := ⟨false, [(.bool, false)], true, .bool, fun k xs => match xs with | [.agg [.str e_Name, .slc 133 (.slice 136 (.pair (.int .i64) (.pair (.int .i64) (.pair (.int .i64) (.int .i64))))) e_System, .int .i64 e_Box_K, .slc 3 (.int .i64) e_Box_Low, .slc 3 (.int .i64) e_Box_High, .int .i64 e_Least, .int .i64 e_Most, .int .i64 e_Version]] => f91 k e_Name e_System e_Box_K e_Box_Low e_Box_High e_Least e_Most e_Version | _ => none⟩
def env19 : List (FuncId × Spec) := (91, s91) :: env18
theorem v91 (k : Nat) (e_Name : ByteArray) (e_System : List (List (Int × Int × Int × Int))) (e_Box_K : Int) (e_Box_Low : List (Int)) (e_Box_High : List (Int)) (e_Least : Int) (e_Most : Int) (e_Version : Int) : runFn ti (envOf env18) 30 [] (finT ti true Go.Proofs.Try.f91.results.toList [(.bool, false)] (.bool)) k (bodyOf Go.Proofs.Try.f91) (initS 0 [.agg [.str e_Name, .slc 133 (.slice 136 (.pair (.int .i64) (.pair (.int .i64) (.pair (.int .i64) (.int .i64))))) e_System, .int .i64 e_Box_K, .slc 3 (.int .i64) e_Box_Low, .slc 3 (.int .i64) e_Box_High, .int .i64 e_Least, .int .i64 e_Most, .int .i64 e_Version]]) = f91 k e_Name e_System e_Box_K e_Box_Low e_Box_High e_Least e_Most e_Version := by kernel_rfl
theorem m91 : Meets Go.Proofs.Try.prog 91 s91 := meets_of_run tiOk env18_ok mo Go.Proofs.Try.func91 (body := bodyOf Go.Proofs.Try.f91) (by kernel_rfl) (N := 30) (by kernel_rfl) (hs := []) (by
  intro k xs r h
  unfold s91 at h
  dsimp only at h
  split at h
  · exact ⟨Nat.le_of_ble_eq_true rfl, (v91 k _ _ _ _ _ _ _ _).trans h⟩
  · cases h)
theorem env19_ok : EnvOk Go.Proofs.Try.prog (envOf env19) := envOf_cons m91 Go.Proofs.Try.func91 (by kernel_rfl) (by kernel_rfl) env18_ok

-- spec.IsEntry
def f46 (k : Nat) (e_Name : ByteArray) (e_System : List (List (Int × Int × Int × Int))) (e_Box_K : Int) (e_Box_Low : List (Int)) (e_Box_High : List (Int)) (e_Least : Int) (e_Most : Int) (e_Version : Int) : Option (Bool) :=
  (f91 k e_Name e_System e_Box_K e_Box_Low e_Box_High e_Least e_Most e_Version).bind fun r0 =>
  some r0
def s46 : Spec := ⟨false, [(.bool, false)], true, .bool, fun k xs => match xs with | [.agg [.str e_Name, .slc 133 (.slice 136 (.pair (.int .i64) (.pair (.int .i64) (.pair (.int .i64) (.int .i64))))) e_System, .int .i64 e_Box_K, .slc 3 (.int .i64) e_Box_Low, .slc 3 (.int .i64) e_Box_High, .int .i64 e_Least, .int .i64 e_Most, .int .i64 e_Version]] => f46 k e_Name e_System e_Box_K e_Box_Low e_Box_High e_Least e_Most e_Version | _ => none⟩
def env20 : List (FuncId × Spec) := (46, s46) :: env19
theorem v46 (k : Nat) (e_Name : ByteArray) (e_System : List (List (Int × Int × Int × Int))) (e_Box_K : Int) (e_Box_Low : List (Int)) (e_Box_High : List (Int)) (e_Least : Int) (e_Most : Int) (e_Version : Int) : runFn ti (envOf env19) 5 [] (finT ti true Go.Proofs.Try.f46.results.toList [(.bool, false)] (.bool)) k (bodyOf Go.Proofs.Try.f46) (initS 0 [.agg [.str e_Name, .slc 133 (.slice 136 (.pair (.int .i64) (.pair (.int .i64) (.pair (.int .i64) (.int .i64))))) e_System, .int .i64 e_Box_K, .slc 3 (.int .i64) e_Box_Low, .slc 3 (.int .i64) e_Box_High, .int .i64 e_Least, .int .i64 e_Most, .int .i64 e_Version]]) = f46 k e_Name e_System e_Box_K e_Box_Low e_Box_High e_Least e_Most e_Version := by kernel_rfl
theorem m46 : Meets Go.Proofs.Try.prog 46 s46 := meets_of_run tiOk env19_ok mo Go.Proofs.Try.func46 (body := bodyOf Go.Proofs.Try.f46) (by kernel_rfl) (N := 5) (by kernel_rfl) (hs := []) (by
  intro k xs r h
  unfold s46 at h
  dsimp only at h
  split at h
  · exact ⟨Nat.le_of_ble_eq_true rfl, (v46 k _ _ _ _ _ _ _ _).trans h⟩
  · cases h)
theorem env20_ok : EnvOk Go.Proofs.Try.prog (envOf env20) := envOf_cons m46 Go.Proofs.Try.func46 (by kernel_rfl) (by kernel_rfl) env19_ok

end Go.Proofs.YtnndolcjljhhcaaE
