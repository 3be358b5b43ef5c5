/- Functions, by the engine; printed. -/
import Derived.Test.YtbaeikcfchiiaaaFD3
set_option maxRecDepth 100000
set_option maxHeartbeats 4000000
set_option linter.unusedVariables false
namespace Go.Proofs.YtbaeikcfchiiaaaE
-- spec.poOrder
def f289 (k : Nat) (a_C : Int) (a_X : Int) (a_Y : Int) (a_Z : Int) (b_C : Int) (b_X : Int) (b_Y : Int) (b_Z : Int) : Option (Int) :=
  bif !decide (a_X = b_X) then
    (f185 k (IntKind.wrap IntKind.i64 (a_X - b_X))).bind fun r0 =>
    some r0
  else
    bif !decide (a_Y = b_Y) then
      (f185 k (IntKind.wrap IntKind.i64 (a_Y - b_Y))).bind fun r1 =>
      some r1
    else
      (f185 k (IntKind.wrap IntKind.i64 (a_Z - b_Z))).bind fun r2 =>
      some r2
def s289 : Spec := ⟨false, [(.int .i64, false)], true, .int .i64, fun k xs => match xs with | [.agg [.int .i64 a_C, .int .i64 a_X, .int .i64 a_Y, .int .i64 a_Z], .agg [.int .i64 b_C, .int .i64 b_X, .int .i64 b_Y, .int .i64 b_Z]] => f289 k a_C a_X a_Y a_Z b_C b_X b_Y b_Z | _ => none⟩
def env37 : List (FuncId × Spec) := (289, s289) :: env36
theorem v289 (k : Nat) (a_C : Int) (a_X : Int) (a_Y : Int) (a_Z : Int) (b_C : Int) (b_X : Int) (b_Y : Int) (b_Z : Int) : runFn ti (envOf env36) 35 [] (finT ti true Go.Proofs.Try.f289.results.toList [(.int .i64, false)] (.int .i64)) k (bodyOf Go.Proofs.Try.f289) (initS 0 [.agg [.int .i64 a_C, .int .i64 a_X, .int .i64 a_Y, .int .i64 a_Z], .agg [.int .i64 b_C, .int .i64 b_X, .int .i64 b_Y, .int .i64 b_Z]]) = f289 k a_C a_X a_Y a_Z b_C b_X b_Y b_Z := by kernel_rfl
theorem m289 : Meets Go.Proofs.Try.prog 289 s289 := meets_of_run tiOk env36_ok mo Go.Proofs.Try.func289 (body := bodyOf Go.Proofs.Try.f289) (by kernel_rfl) (N := 35) (by kernel_rfl) (hs := []) (by
  intro k xs r h
  unfold s289 at h
  dsimp only at h
  split at h
  · exact ⟨Nat.le_of_ble_eq_true rfl, (v289 k _ _ _ _ _ _ _ _).trans h⟩
  · cases h)
theorem env37_ok : EnvOk Go.Proofs.Try.prog (envOf env37) := envOf_cons m289 Go.Proofs.Try.func289 (by kernel_rfl) (by kernel_rfl) env36_ok

-- spec.poGood
def h277 : Hints := [(1002, .lab [(0, .one (.frz 150 (Ty.pair (Ty.int IntKind.i64) (Ty.pair (Ty.int IntKind.i64) (Ty.pair (Ty.int IntKind.i64) (Ty.int IntKind.i64)))))), (5, .one (.frz 150 (Ty.pair (Ty.int IntKind.i64) (Ty.pair (Ty.int IntKind.i64) (Ty.pair (Ty.int IntKind.i64) (Ty.int IntKind.i64)))))), (6, .one (.v)), (7, .one (.v))])]
def F277_1002 (k : Nat) (rec1002 : List (Int × Int × Int × Int) → List (Int × Int × Int × Int) → Int → Int → Option (Bool)) (p : List (Int × Int × Int × Int)) (t5 : List (Int × Int × Int × Int)) (t6 : Int) (t7 : Int) : Option (Bool) :=
  bif decide (t7 < t6) then
    bif boundA t7 (List.length t5) then
      (f288 k (List.getD t5 (Int.toNat t7) (0, 0, 0, 0)).fst (List.getD t5 (Int.toNat t7) (0, 0, 0, 0)).snd.fst (List.getD t5 (Int.toNat t7) (0, 0, 0, 0)).snd.snd.fst (List.getD t5 (Int.toNat t7) (0, 0, 0, 0)).snd.snd.snd).bind fun r0 =>
      bif !r0 then
        some false
      else
        bif decide ((List.getD t5 (Int.toNat t7) (0, 0, 0, 0)).fst = 0) then
          some false
        else
          bif decide (0 < t7) then
            bif boundA (IntKind.wrap IntKind.i64 (t7 - 1)) (List.length p) then
              (f289 k (List.getD p (Int.toNat (IntKind.wrap IntKind.i64 (t7 - 1))) (0, 0, 0, 0)).fst (List.getD p (Int.toNat (IntKind.wrap IntKind.i64 (t7 - 1))) (0, 0, 0, 0)).snd.fst (List.getD p (Int.toNat (IntKind.wrap IntKind.i64 (t7 - 1))) (0, 0, 0, 0)).snd.snd.fst (List.getD p (Int.toNat (IntKind.wrap IntKind.i64 (t7 - 1))) (0, 0, 0, 0)).snd.snd.snd (List.getD t5 (Int.toNat t7) (0, 0, 0, 0)).fst (List.getD t5 (Int.toNat t7) (0, 0, 0, 0)).snd.fst (List.getD t5 (Int.toNat t7) (0, 0, 0, 0)).snd.snd.fst (List.getD t5 (Int.toNat t7) (0, 0, 0, 0)).snd.snd.snd).bind fun r1 =>
              bif decide (0 ≤ r1) then
                some false
              else
                rec1002 p t5 t6 (IntKind.wrap IntKind.i64 (t7 + 1))
            else
              none
          else
            rec1002 p t5 t6 (IntKind.wrap IntKind.i64 (t7 + 1))
    else
      none
  else
    some (decide ((↑(List.length p) : Int) ≤ 20))
def F277 (k : Nat) (rec1002 : List (Int × Int × Int × Int) → List (Int × Int × Int × Int) → Int → Int → Option (Bool)) (p : List (Int × Int × Int × Int)) : Option (Bool) :=
  rec1002 p p ((↑(List.length p) : Int)) (0)
def l277 : Nat → (List (Int × Int × Int × Int) → List (Int × Int × Int × Int) → Int → Int → Option (Bool))
  | 0 => fun _ _ _ _ => none
  | k + 1 => F277_1002 k (l277 k)
def f277 (k : Nat) (p : List (Int × Int × Int × Int)) : Option (Bool) := F277 k (l277 k) p
def s277 : Spec := ⟨false, [(.bool, false)], true, .bool, fun k xs => match xs with | [.slc 150 (.pair (.int .i64) (.pair (.int .i64) (.pair (.int .i64) (.int .i64)))) p] => f277 k p | _ => none⟩
def env38 : List (FuncId × Spec) := (277, s277) :: env37
noncomputable abbrev x277 := exec ti (envOf env37) 38 h277 (finT ti true Go.Proofs.Try.f277.results.toList [(.bool, false)] (.bool))
noncomputable def k277_1002 : List It := stackAt [.r, .l, .r, .b, .lb none] (bodyOf Go.Proofs.Try.f277) []
def t277_1002 (p : List (Int × Int × Int × Int)) (t5 : List (Int × Int × Int × Int)) (t6 : Int) (t7 : Int) : St := [(0, Cell.val (AVal.slc 150 (Ty.pair (Ty.int IntKind.i64) (Ty.pair (Ty.int IntKind.i64) (Ty.pair (Ty.int IntKind.i64) (Ty.int IntKind.i64)))) p)), (10, Cell.val (AVal.slc 150 (Ty.pair (Ty.int IntKind.i64) (Ty.pair (Ty.int IntKind.i64) (Ty.pair (Ty.int IntKind.i64) (Ty.int IntKind.i64)))) t5)), (12, Cell.val (AVal.int IntKind.i64 t6)), (14, Cell.val (AVal.int IntKind.i64 t7))]
theorem e277_1002 (k : Nat) (p : List (Int × Int × Int × Int)) (t5 : List (Int × Int × Int × Int)) (t6 : Int) (t7 : Int) : x277 (k + 1) k277_1002 (t277_1002 p t5 t6 t7) = F277_1002 k (fun (p : List (Int × Int × Int × Int)) (t5 : List (Int × Int × Int × Int)) (t6 : Int) (t7 : Int) => x277 k k277_1002 (t277_1002 p t5 t6 t7)) p t5 t6 t7 := by kernel_rfl
theorem q277 : ∀ k : Nat, (fun (p : List (Int × Int × Int × Int)) (t5 : List (Int × Int × Int × Int)) (t6 : Int) (t7 : Int) => x277 k k277_1002 (t277_1002 p t5 t6 t7)) = l277 k
  | 0 => rfl
  | k + 1 => by
    have h := q277 k
    show _ = F277_1002 k (l277 k)
    rw [← h]
    exact (funext fun p => funext fun t5 => funext fun t6 => funext fun t7 => e277_1002 k p t5 t6 t7)
theorem w277 (k : Nat) (p : List (Int × Int × Int × Int)) : runFn ti (envOf env37) 38 h277 (finT ti true Go.Proofs.Try.f277.results.toList [(.bool, false)] (.bool)) k (bodyOf Go.Proofs.Try.f277) (initS 0 [.slc 150 (.pair (.int .i64) (.pair (.int .i64) (.pair (.int .i64) (.int .i64)))) p]) = F277 k (fun (p : List (Int × Int × Int × Int)) (t5 : List (Int × Int × Int × Int)) (t6 : Int) (t7 : Int) => x277 k k277_1002 (t277_1002 p t5 t6 t7)) p := by kernel_rfl
theorem v277 (k : Nat) (p : List (Int × Int × Int × Int)) : runFn ti (envOf env37) 38 h277 (finT ti true Go.Proofs.Try.f277.results.toList [(.bool, false)] (.bool)) k (bodyOf Go.Proofs.Try.f277) (initS 0 [.slc 150 (.pair (.int .i64) (.pair (.int .i64) (.pair (.int .i64) (.int .i64)))) p]) = f277 k p := by
  rw [w277]
  have h := q277 k
  unfold f277
  rw [← h]
theorem m277 : Meets Go.Proofs.Try.prog 277 s277 := meets_of_run tiOk env37_ok mo Go.Proofs.Try.func277 (body := bodyOf Go.Proofs.Try.f277) (by kernel_rfl) (N := 38) (by kernel_rfl) (hs := h277) (by
  intro k xs r h
  unfold s277 at h
  dsimp only at h
  split at h
  · exact ⟨Nat.le_of_ble_eq_true rfl, (v277 k _).trans h⟩
  · cases h)
theorem env38_ok : EnvOk Go.Proofs.Try.prog (envOf env38) := envOf_cons m277 Go.Proofs.Try.func277 (by kernel_rfl) (by kernel_rfl) env37_ok

-- spec.l1Most
def f165 (k : Nat) (a : Int) (b : Int) : Option (Int) :=
  bif decide (b < a) then
    some a
  else
    some b
def s165 : Spec := ⟨false, [(.int .i64, false)], true, .int .i64, fun k xs => match xs with | [.int .i64 a, .int .i64 b] => f165 k a b | _ => none⟩
def env39 : List (FuncId × Spec) := (165, s165) :: env38
theorem v165 (k : Nat) (a : Int) (b : Int) : runFn ti (envOf env38) 10 [] (finT ti true Go.Proofs.Try.f165.results.toList [(.int .i64, false)] (.int .i64)) k (bodyOf Go.Proofs.Try.f165) (initS 0 [.int .i64 a, .int .i64 b]) = f165 k a b := by kernel_rfl
theorem m165 : Meets Go.Proofs.Try.prog 165 s165 := meets_of_run tiOk env38_ok mo Go.Proofs.Try.func165 (body := bodyOf Go.Proofs.Try.f165) (by kernel_rfl) (N := 10) (by kernel_rfl) (hs := []) (by
  intro k xs r h
  unfold s165 at h
  dsimp only at h
  split at h
  · exact ⟨Nat.le_of_ble_eq_true rfl, (v165 k _ _).trans h⟩
  · cases h)
theorem env39_ok : EnvOk Go.Proofs.Try.prog (envOf env39) := envOf_cons m165 Go.Proofs.Try.func165 (by kernel_rfl) (by kernel_rfl) env38_ok

-- spec.poPower
def f290 (k : Nat) (t_C : Int) (t_X : Int) (t_Y : Int) (t_Z : Int) (k_ : Int) : Option (Int) :=
  bif decide (k_ = 0) then
    some t_X
  else
    bif decide (k_ = 1) then
      some t_Y
    else
      some t_Z
def s290 : Spec := ⟨false, [(.int .i64, false)], true, .int .i64, fun k xs => match xs with | [.agg [.int .i64 t_C, .int .i64 t_X, .int .i64 t_Y, .int .i64 t_Z], .int .i64 k_] => f290 k t_C t_X t_Y t_Z k_ | _ => none⟩
def env40 : List (FuncId × Spec) := (290, s290) :: env39
theorem v290 (k : Nat) (t_C : Int) (t_X : Int) (t_Y : Int) (t_Z : Int) (k_ : Int) : runFn ti (envOf env39) 16 [] (finT ti true Go.Proofs.Try.f290.results.toList [(.int .i64, false)] (.int .i64)) k (bodyOf Go.Proofs.Try.f290) (initS 0 [.agg [.int .i64 t_C, .int .i64 t_X, .int .i64 t_Y, .int .i64 t_Z], .int .i64 k_]) = f290 k t_C t_X t_Y t_Z k_ := by kernel_rfl
theorem m290 : Meets Go.Proofs.Try.prog 290 s290 := meets_of_run tiOk env39_ok mo Go.Proofs.Try.func290 (body := bodyOf Go.Proofs.Try.f290) (by kernel_rfl) (N := 16) (by kernel_rfl) (hs := []) (by
  intro k xs r h
  unfold s290 at h
  dsimp only at h
  split at h
  · exact ⟨Nat.le_of_ble_eq_true rfl, (v290 k _ _ _ _ _).trans h⟩
  · cases h)
theorem env40_ok : EnvOk Go.Proofs.Try.prog (envOf env40) := envOf_cons m290 Go.Proofs.Try.func290 (by kernel_rfl) (by kernel_rfl) env39_ok

-- spec.poDegreeIn
def h278 : Hints := [(1003, .lab [(1, .one (.v)), (5, .one (.v)), (8, .one (.frz 150 (Ty.pair (Ty.int IntKind.i64) (Ty.pair (Ty.int IntKind.i64) (Ty.pair (Ty.int IntKind.i64) (Ty.int IntKind.i64)))))), (9, .one (.v)), (10, .one (.v))])]
def F278_1003 (k : Nat) (rec1003 : Int → Int → List (Int × Int × Int × Int) → Int → Int → Option (Int)) (k_ : Int) (most : Int) (t8 : List (Int × Int × Int × Int)) (t9 : Int) (t10 : Int) : Option (Int) :=
  bif decide (t10 < t9) then
    bif boundA t10 (List.length t8) then
      (f290 k (List.getD t8 (Int.toNat t10) (0, 0, 0, 0)).fst (List.getD t8 (Int.toNat t10) (0, 0, 0, 0)).snd.fst (List.getD t8 (Int.toNat t10) (0, 0, 0, 0)).snd.snd.fst (List.getD t8 (Int.toNat t10) (0, 0, 0, 0)).snd.snd.snd k_).bind fun r0 =>
      (f165 k most r0).bind fun r1 =>
      rec1003 k_ r1 t8 t9 (IntKind.wrap IntKind.i64 (t10 + 1))
    else
      none
  else
    some most
def F278 (k : Nat) (rec1003 : Int → Int → List (Int × Int × Int × Int) → Int → Int → Option (Int)) (p : List (Int × Int × Int × Int)) (k_ : Int) : Option (Int) :=
  rec1003 k_ (-1) p ((↑(List.length p) : Int)) (0)
def l278 : Nat → (Int → Int → List (Int × Int × Int × Int) → Int → Int → Option (Int))
  | 0 => fun _ _ _ _ _ => none
  | k + 1 => F278_1003 k (l278 k)
def f278 (k : Nat) (p : List (Int × Int × Int × Int)) (k_ : Int) : Option (Int) := F278 k (l278 k) p k_
def s278 : Spec := ⟨false, [(.int .i64, false)], true, .int .i64, fun k xs => match xs with | [.slc 150 (.pair (.int .i64) (.pair (.int .i64) (.pair (.int .i64) (.int .i64)))) p, .int .i64 k_] => f278 k p k_ | _ => none⟩
def env41 : List (FuncId × Spec) := (278, s278) :: env40
noncomputable abbrev x278 := exec ti (envOf env40) 21 h278 (finT ti true Go.Proofs.Try.f278.results.toList [(.int .i64, false)] (.int .i64))
noncomputable def k278_1003 : List It := stackAt [.r, .r, .l, .r, .b, .lb none] (bodyOf Go.Proofs.Try.f278) []
def t278_1003 (k_ : Int) (most : Int) (t8 : List (Int × Int × Int × Int)) (t9 : Int) (t10 : Int) : St := [(2, Cell.val (AVal.int IntKind.i64 k_)), (10, Cell.val (AVal.int IntKind.i64 most)), (16, Cell.val (AVal.slc 150 (Ty.pair (Ty.int IntKind.i64) (Ty.pair (Ty.int IntKind.i64) (Ty.pair (Ty.int IntKind.i64) (Ty.int IntKind.i64)))) t8)), (18, Cell.val (AVal.int IntKind.i64 t9)), (20, Cell.val (AVal.int IntKind.i64 t10))]
theorem e278_1003 (k : Nat) (k_ : Int) (most : Int) (t8 : List (Int × Int × Int × Int)) (t9 : Int) (t10 : Int) : x278 (k + 1) k278_1003 (t278_1003 k_ most t8 t9 t10) = F278_1003 k (fun (k_ : Int) (most : Int) (t8 : List (Int × Int × Int × Int)) (t9 : Int) (t10 : Int) => x278 k k278_1003 (t278_1003 k_ most t8 t9 t10)) k_ most t8 t9 t10 := by kernel_rfl
theorem q278 : ∀ k : Nat, (fun (k_ : Int) (most : Int) (t8 : List (Int × Int × Int × Int)) (t9 : Int) (t10 : Int) => x278 k k278_1003 (t278_1003 k_ most t8 t9 t10)) = l278 k
  | 0 => rfl
  | k + 1 => by
    have h := q278 k
    show _ = F278_1003 k (l278 k)
    rw [← h]
    exact (funext fun k_ => funext fun most => funext fun t8 => funext fun t9 => funext fun t10 => e278_1003 k k_ most t8 t9 t10)
theorem w278 (k : Nat) (p : List (Int × Int × Int × Int)) (k_ : Int) : runFn ti (envOf env40) 21 h278 (finT ti true Go.Proofs.Try.f278.results.toList [(.int .i64, false)] (.int .i64)) k (bodyOf Go.Proofs.Try.f278) (initS 0 [.slc 150 (.pair (.int .i64) (.pair (.int .i64) (.pair (.int .i64) (.int .i64)))) p, .int .i64 k_]) = F278 k (fun (k_ : Int) (most : Int) (t8 : List (Int × Int × Int × Int)) (t9 : Int) (t10 : Int) => x278 k k278_1003 (t278_1003 k_ most t8 t9 t10)) p k_ := by kernel_rfl
theorem v278 (k : Nat) (p : List (Int × Int × Int × Int)) (k_ : Int) : runFn ti (envOf env40) 21 h278 (finT ti true Go.Proofs.Try.f278.results.toList [(.int .i64, false)] (.int .i64)) k (bodyOf Go.Proofs.Try.f278) (initS 0 [.slc 150 (.pair (.int .i64) (.pair (.int .i64) (.pair (.int .i64) (.int .i64)))) p, .int .i64 k_]) = f278 k p k_ := by
  rw [w278]
  have h := q278 k
  unfold f278
  rw [← h]
theorem m278 : Meets Go.Proofs.Try.prog 278 s278 := meets_of_run tiOk env40_ok mo Go.Proofs.Try.func278 (body := bodyOf Go.Proofs.Try.f278) (by kernel_rfl) (N := 21) (by kernel_rfl) (hs := h278) (by
  intro k xs r h
  unfold s278 at h
  dsimp only at h
  split at h
  · exact ⟨Nat.le_of_ble_eq_true rfl, (v278 k _ _).trans h⟩
  · cases h)
theorem env41_ok : EnvOk Go.Proofs.Try.prog (envOf env41) := envOf_cons m278 Go.Proofs.Try.func278 (by kernel_rfl) (by kernel_rfl) env40_ok

-- spec.poSystem
def h252 : Hints := [(1002, .lab [(0, .one (.frz 152 (Ty.slice 150 (Ty.pair (Ty.int IntKind.i64) (Ty.pair (Ty.int IntKind.i64) (Ty.pair (Ty.int IntKind.i64) (Ty.int IntKind.i64))))))), (6, .one (.frz 152 (Ty.slice 150 (Ty.pair (Ty.int IntKind.i64) (Ty.pair (Ty.int IntKind.i64) (Ty.pair (Ty.int IntKind.i64) (Ty.int IntKind.i64))))))), (7, .one (.v)), (8, .one (.v))]), (1007, .lab [(0, .one (.frz 152 (Ty.slice 150 (Ty.pair (Ty.int IntKind.i64) (Ty.pair (Ty.int IntKind.i64) (Ty.pair (Ty.int IntKind.i64) (Ty.int IntKind.i64))))))), (4, .one (.frz 150 (Ty.pair (Ty.int IntKind.i64) (Ty.pair (Ty.int IntKind.i64) (Ty.pair (Ty.int IntKind.i64) (Ty.int IntKind.i64)))))), (5, .one (.v)), (6, .one (.frz 152 (Ty.slice 150 (Ty.pair (Ty.int IntKind.i64) (Ty.pair (Ty.int IntKind.i64) (Ty.pair (Ty.int IntKind.i64) (Ty.int IntKind.i64))))))), (7, .one (.v)), (8, .one (.v))])]
def F252_1002 (k : Nat) (rec1002 : List (List (Int × Int × Int × Int)) → List (List (Int × Int × Int × Int)) → Int → Int → Option (Bool)) (rec1007 : List (List (Int × Int × Int × Int)) → List (Int × Int × Int × Int) → Int → List (List (Int × Int × Int × Int)) → Int → Int → Option (Bool)) (s : List (List (Int × Int × Int × Int))) (t6 : List (List (Int × Int × Int × Int))) (t7 : Int) (t8 : Int) : Option (Bool) :=
  bif decide (t8 < t7) then
    bif boundA t8 (List.length t6) then
      (f277 k (List.getD t6 (Int.toNat t8) [])).bind fun r0 =>
      bif !r0 then
        some false
      else
        rec1007 s (List.getD t6 (Int.toNat t8) []) ((↑(List.length s) : Int)) t6 t7 t8
    else
      none
  else
    (f121 k (↑(List.length s) : Int) 1 3).bind fun r1 =>
    some r1
def F252_1007 (k : Nat) (rec1002 : List (List (Int × Int × Int × Int)) → List (List (Int × Int × Int × Int)) → Int → Int → Option (Bool)) (rec1007 : List (List (Int × Int × Int × Int)) → List (Int × Int × Int × Int) → Int → List (List (Int × Int × Int × Int)) → Int → Int → Option (Bool)) (s : List (List (Int × Int × Int × Int))) (p : List (Int × Int × Int × Int)) (k_ : Int) (t6 : List (List (Int × Int × Int × Int))) (t7 : Int) (t8 : Int) : Option (Bool) :=
  bif decide (k_ < 3) then
    (f278 k p k_).bind fun r0 =>
    bif decide (0 < r0) then
      some false
    else
      rec1007 s p (IntKind.wrap IntKind.i64 (k_ + 1)) t6 t7 t8
  else
    rec1002 s t6 t7 (IntKind.wrap IntKind.i64 (t8 + 1))
def F252 (k : Nat) (rec1002 : List (List (Int × Int × Int × Int)) → List (List (Int × Int × Int × Int)) → Int → Int → Option (Bool)) (rec1007 : List (List (Int × Int × Int × Int)) → List (Int × Int × Int × Int) → Int → List (List (Int × Int × Int × Int)) → Int → Int → Option (Bool)) (s : List (List (Int × Int × Int × Int))) : Option (Bool) :=
  rec1002 s s ((↑(List.length s) : Int)) (0)
def l252 : Nat → (List (List (Int × Int × Int × Int)) → List (List (Int × Int × Int × Int)) → Int → Int → Option (Bool)) × (List (List (Int × Int × Int × Int)) → List (Int × Int × Int × Int) → Int → List (List (Int × Int × Int × Int)) → Int → Int → Option (Bool))
  | 0 => (fun _ _ _ _ => none, fun _ _ _ _ _ _ => none)
  | k + 1 => (F252_1002 k ((l252 k).1) ((l252 k).2), F252_1007 k ((l252 k).1) ((l252 k).2))
def f252 (k : Nat) (s : List (List (Int × Int × Int × Int))) : Option (Bool) := F252 k ((l252 k).1) ((l252 k).2) s
def s252 : Spec := ⟨false, [(.bool, false)], true, .bool, fun k xs => match xs with | [.slc 152 (.slice 150 (.pair (.int .i64) (.pair (.int .i64) (.pair (.int .i64) (.int .i64))))) s] => f252 k s | _ => none⟩
def env42 : List (FuncId × Spec) := (252, s252) :: env41
noncomputable abbrev x252 := exec ti (envOf env41) 29 h252 (finT ti true Go.Proofs.Try.f252.results.toList [(.bool, false)] (.bool))
noncomputable def k252_1002 : List It := stackAt [.r, .l, .r, .b, .lb none] (bodyOf Go.Proofs.Try.f252) []
def t252_1002 (s : List (List (Int × Int × Int × Int))) (t6 : List (List (Int × Int × Int × Int))) (t7 : Int) (t8 : Int) : St := [(0, Cell.val (AVal.slc 152 (Ty.slice 150 (Ty.pair (Ty.int IntKind.i64) (Ty.pair (Ty.int IntKind.i64) (Ty.pair (Ty.int IntKind.i64) (Ty.int IntKind.i64))))) s)), (12, Cell.val (AVal.slc 152 (Ty.slice 150 (Ty.pair (Ty.int IntKind.i64) (Ty.pair (Ty.int IntKind.i64) (Ty.pair (Ty.int IntKind.i64) (Ty.int IntKind.i64))))) t6)), (14, Cell.val (AVal.int IntKind.i64 t7)), (16, Cell.val (AVal.int IntKind.i64 t8))]
noncomputable def k252_1007 : List It := stackAt [.r, .l, .r, .b, .lb none, .r, .r, .l, .b, .r, .r, .r, .b, .lb none] (bodyOf Go.Proofs.Try.f252) []
def t252_1007 (s : List (List (Int × Int × Int × Int))) (p : List (Int × Int × Int × Int)) (k_ : Int) (t6 : List (List (Int × Int × Int × Int))) (t7 : Int) (t8 : Int) : St := [(0, Cell.val (AVal.slc 152 (Ty.slice 150 (Ty.pair (Ty.int IntKind.i64) (Ty.pair (Ty.int IntKind.i64) (Ty.pair (Ty.int IntKind.i64) (Ty.int IntKind.i64))))) s)), (8, Cell.val (AVal.slc 150 (Ty.pair (Ty.int IntKind.i64) (Ty.pair (Ty.int IntKind.i64) (Ty.pair (Ty.int IntKind.i64) (Ty.int IntKind.i64)))) p)), (10, Cell.val (AVal.int IntKind.i64 k_)), (12, Cell.val (AVal.slc 152 (Ty.slice 150 (Ty.pair (Ty.int IntKind.i64) (Ty.pair (Ty.int IntKind.i64) (Ty.pair (Ty.int IntKind.i64) (Ty.int IntKind.i64))))) t6)), (14, Cell.val (AVal.int IntKind.i64 t7)), (16, Cell.val (AVal.int IntKind.i64 t8))]
theorem e252_1002 (k : Nat) (s : List (List (Int × Int × Int × Int))) (t6 : List (List (Int × Int × Int × Int))) (t7 : Int) (t8 : Int) : x252 (k + 1) k252_1002 (t252_1002 s t6 t7 t8) = F252_1002 k (fun (s : List (List (Int × Int × Int × Int))) (t6 : List (List (Int × Int × Int × Int))) (t7 : Int) (t8 : Int) => x252 k k252_1002 (t252_1002 s t6 t7 t8)) (fun (s : List (List (Int × Int × Int × Int))) (p : List (Int × Int × Int × Int)) (k_ : Int) (t6 : List (List (Int × Int × Int × Int))) (t7 : Int) (t8 : Int) => x252 k k252_1007 (t252_1007 s p k_ t6 t7 t8)) s t6 t7 t8 := by kernel_rfl
theorem e252_1007 (k : Nat) (s : List (List (Int × Int × Int × Int))) (p : List (Int × Int × Int × Int)) (k_ : Int) (t6 : List (List (Int × Int × Int × Int))) (t7 : Int) (t8 : Int) : x252 (k + 1) k252_1007 (t252_1007 s p k_ t6 t7 t8) = F252_1007 k (fun (s : List (List (Int × Int × Int × Int))) (t6 : List (List (Int × Int × Int × Int))) (t7 : Int) (t8 : Int) => x252 k k252_1002 (t252_1002 s t6 t7 t8)) (fun (s : List (List (Int × Int × Int × Int))) (p : List (Int × Int × Int × Int)) (k_ : Int) (t6 : List (List (Int × Int × Int × Int))) (t7 : Int) (t8 : Int) => x252 k k252_1007 (t252_1007 s p k_ t6 t7 t8)) s p k_ t6 t7 t8 := by kernel_rfl
theorem q252 : ∀ k : Nat, ((fun (s : List (List (Int × Int × Int × Int))) (t6 : List (List (Int × Int × Int × Int))) (t7 : Int) (t8 : Int) => x252 k k252_1002 (t252_1002 s t6 t7 t8)), (fun (s : List (List (Int × Int × Int × Int))) (p : List (Int × Int × Int × Int)) (k_ : Int) (t6 : List (List (Int × Int × Int × Int))) (t7 : Int) (t8 : Int) => x252 k k252_1007 (t252_1007 s p k_ t6 t7 t8))) = l252 k
  | 0 => rfl
  | k + 1 => by
    have h := q252 k
    show _ = (F252_1002 k ((l252 k).1) ((l252 k).2), F252_1007 k ((l252 k).1) ((l252 k).2))
    rw [← h]
    exact (Prod.ext (funext fun s => funext fun t6 => funext fun t7 => funext fun t8 => e252_1002 k s t6 t7 t8) (funext fun s => funext fun p => funext fun k_ => funext fun t6 => funext fun t7 => funext fun t8 => e252_1007 k s p k_ t6 t7 t8))
theorem w252 (k : Nat) (s : List (List (Int × Int × Int × Int))) : runFn ti (envOf env41) 29 h252 (finT ti true Go.Proofs.Try.f252.results.toList [(.bool, false)] (.bool)) k (bodyOf Go.Proofs.Try.f252) (initS 0 [.slc 152 (.slice 150 (.pair (.int .i64) (.pair (.int .i64) (.pair (.int .i64) (.int .i64))))) s]) = F252 k (fun (s : List (List (Int × Int × Int × Int))) (t6 : List (List (Int × Int × Int × Int))) (t7 : Int) (t8 : Int) => x252 k k252_1002 (t252_1002 s t6 t7 t8)) (fun (s : List (List (Int × Int × Int × Int))) (p : List (Int × Int × Int × Int)) (k_ : Int) (t6 : List (List (Int × Int × Int × Int))) (t7 : Int) (t8 : Int) => x252 k k252_1007 (t252_1007 s p k_ t6 t7 t8)) s := by kernel_rfl
theorem v252 (k : Nat) (s : List (List (Int × Int × Int × Int))) : runFn ti (envOf env41) 29 h252 (finT ti true Go.Proofs.Try.f252.results.toList [(.bool, false)] (.bool)) k (bodyOf Go.Proofs.Try.f252) (initS 0 [.slc 152 (.slice 150 (.pair (.int .i64) (.pair (.int .i64) (.pair (.int .i64) (.int .i64))))) s]) = f252 k s := by
  rw [w252]
  have h := q252 k
  unfold f252
  rw [← h]
theorem m252 : Meets Go.Proofs.Try.prog 252 s252 := meets_of_run tiOk env41_ok mo Go.Proofs.Try.func252 (body := bodyOf Go.Proofs.Try.f252) (by kernel_rfl) (N := 29) (by kernel_rfl) (hs := h252) (by
  intro k xs r h
  unfold s252 at h
  dsimp only at h
  split at h
  · exact ⟨Nat.le_of_ble_eq_true rfl, (v252 k _).trans h⟩
  · cases h)
theorem env42_ok : EnvOk Go.Proofs.Try.prog (envOf env42) := envOf_cons m252 Go.Proofs.Try.func252 (by kernel_rfl) (by kernel_rfl) env41_ok

-- spec.vaBoth
def f207 (k : Nat) (s : List (List (Int × Int × Int × Int))) (b_K : Int) (b_Low : List (Int)) (b_High : List (Int)) : Option (Bool) :=
  (f252 k s).bind fun r0 =>
  bif r0 then
    (f155 k b_K b_Low b_High).bind fun r1 =>
    bif r1 then
      some (decide ((↑(List.length s) : Int) = (↑(List.length b_Low) : Int)))
    else
      some false
  else
    some false
def s207 : Spec := ⟨false, [(.bool, false)], true, .bool, fun k xs => match xs with | [.slc 152 (.slice 150 (.pair (.int .i64) (.pair (.int .i64) (.pair (.int .i64) (.int .i64))))) s, .agg [.int .i64 b_K, .slc 3 (.int .i64) b_Low, .slc 3 (.int .i64) b_High]] => f207 k s b_K b_Low b_High | _ => none⟩
def env43 : List (FuncId × Spec) := (207, s207) :: env42
theorem v207 (k : Nat) (s : List (List (Int × Int × Int × Int))) (b_K : Int) (b_Low : List (Int)) (b_High : List (Int)) : runFn ti (envOf env42) 19 [] (finT ti true Go.Proofs.Try.f207.results.toList [(.bool, false)] (.bool)) k (bodyOf Go.Proofs.Try.f207) (initS 0 [.slc 152 (.slice 150 (.pair (.int .i64) (.pair (.int .i64) (.pair (.int .i64) (.int .i64))))) s, .agg [.int .i64 b_K, .slc 3 (.int .i64) b_Low, .slc 3 (.int .i64) b_High]]) = f207 k s b_K b_Low b_High := by kernel_rfl
theorem m207 : Meets Go.Proofs.Try.prog 207 s207 := meets_of_run tiOk env42_ok mo Go.Proofs.Try.func207 (body := bodyOf Go.Proofs.Try.f207) (by kernel_rfl) (N := 19) (by kernel_rfl) (hs := []) (by
  intro k xs r h
  unfold s207 at h
  dsimp only at h
  split at h
  · exact ⟨Nat.le_of_ble_eq_true rfl, (v207 k _ _ _ _).trans h⟩
  · cases h)
theorem env43_ok : EnvOk Go.Proofs.Try.prog (envOf env43) := envOf_cons m207 Go.Proofs.Try.func207 (by kernel_rfl) (by kernel_rfl) env42_ok

-- spec.caEntry
def f140 (k : Nat) (e_Name : ByteArray) (e_System : List (List (Int × Int × Int × Int))) (e_Box_K : Int) (e_Box_Low : List (Int)) (e_Box_High : List (Int)) (e_Least : Int) (e_Most : Int) (e_Version : Int) : Option (Bool) :=
  (f206 k e_Name).bind fun r0 =>
  bif r0 then
    (f207 k e_System e_Box_K e_Box_Low e_Box_High).bind fun r1 =>
    bif r1 then
      (f121 k e_Most 0 64).bind fun r2 =>
      bif r2 then
        (f121 k e_Least 0 e_Most).bind fun r3 =>
        bif r3 then
          (f121 k e_Version 1 999).bind fun r4 =>
          some r4
        else
          some false
      else
        some false
    else
      some false
  else
    some false
def s140 : Spec := ⟨false, [(.bool, false)], true, .bool, fun k xs => match xs with | [.agg [.str e_Name, .slc 152 (.slice 150 (.pair (.int .i64) (.pair (.int .i64) (.pair (.int .i64) (.int .i64))))) e_System, .int .i64 e_Box_K, .slc 3 (.int .i64) e_Box_Low, .slc 3 (.int .i64) e_Box_High, .int .i64 e_Least, .int .i64 e_Most, .int .i64 e_Version]] => f140 k e_Name e_System e_Box_K e_Box_Low e_Box_High e_Least e_Most e_Version | _ => none⟩
def env44 : List (FuncId × Spec) := (140, s140) :: env43
theorem v140 (k : Nat) (e_Name : ByteArray) (e_System : List (List (Int × Int × Int × Int))) (e_Box_K : Int) (e_Box_Low : List (Int)) (e_Box_High : List (Int)) (e_Least : Int) (e_Most : Int) (e_Version : Int) : runFn ti (envOf env43) 30 [] (finT ti true Go.Proofs.Try.f140.results.toList [(.bool, false)] (.bool)) k (bodyOf Go.Proofs.Try.f140) (initS 0 [.agg [.str e_Name, .slc 152 (.slice 150 (.pair (.int .i64) (.pair (.int .i64) (.pair (.int .i64) (.int .i64))))) e_System, .int .i64 e_Box_K, .slc 3 (.int .i64) e_Box_Low, .slc 3 (.int .i64) e_Box_High, .int .i64 e_Least, .int .i64 e_Most, .int .i64 e_Version]]) = f140 k e_Name e_System e_Box_K e_Box_Low e_Box_High e_Least e_Most e_Version := by kernel_rfl
theorem m140 : Meets Go.Proofs.Try.prog 140 s140 := meets_of_run tiOk env43_ok mo Go.Proofs.Try.func140 (body := bodyOf Go.Proofs.Try.f140) (by kernel_rfl) (N := 30) (by kernel_rfl) (hs := []) (by
  intro k xs r h
  unfold s140 at h
  dsimp only at h
  split at h
  · exact ⟨Nat.le_of_ble_eq_true rfl, (v140 k _ _ _ _ _ _ _ _).trans h⟩
  · cases h)
theorem env44_ok : EnvOk Go.Proofs.Try.prog (envOf env44) := envOf_cons m140 Go.Proofs.Try.func140 (by kernel_rfl) (by kernel_rfl) env43_ok

-- spec.caGood
def h83 : Hints := [(1002, .lab [(0, .one (.frz 108 (Ty.pair Ty.str (Ty.pair (Ty.slice 152 (Ty.slice 150 (Ty.pair (Ty.int IntKind.i64) (Ty.pair (Ty.int IntKind.i64) (Ty.pair (Ty.int IntKind.i64) (Ty.int IntKind.i64)))))) (Ty.pair (Ty.pair (Ty.int IntKind.i64) (Ty.pair (Ty.slice 3 (Ty.int IntKind.i64)) (Ty.slice 3 (Ty.int IntKind.i64)))) (Ty.pair (Ty.int IntKind.i64) (Ty.pair (Ty.int IntKind.i64) (Ty.int IntKind.i64)))))))), (5, .one (.frz 108 (Ty.pair Ty.str (Ty.pair (Ty.slice 152 (Ty.slice 150 (Ty.pair (Ty.int IntKind.i64) (Ty.pair (Ty.int IntKind.i64) (Ty.pair (Ty.int IntKind.i64) (Ty.int IntKind.i64)))))) (Ty.pair (Ty.pair (Ty.int IntKind.i64) (Ty.pair (Ty.slice 3 (Ty.int IntKind.i64)) (Ty.slice 3 (Ty.int IntKind.i64)))) (Ty.pair (Ty.int IntKind.i64) (Ty.pair (Ty.int IntKind.i64) (Ty.int IntKind.i64)))))))), (6, .one (.v)), (7, .one (.v))])]
def F83_1002 (k : Nat) (rec1002 : List (ByteArray × List (List (Int × Int × Int × Int)) × (Int × List Int × List Int) × Int × Int × Int) → List (ByteArray × List (List (Int × Int × Int × Int)) × (Int × List Int × List Int) × Int × Int × Int) → Int → Int → Option (Bool)) (l : List (ByteArray × List (List (Int × Int × Int × Int)) × (Int × List Int × List Int) × Int × Int × Int)) (t5 : List (ByteArray × List (List (Int × Int × Int × Int)) × (Int × List Int × List Int) × Int × Int × Int)) (t6 : Int) (t7 : Int) : Option (Bool) :=
  bif decide (t7 < t6) then
    bif boundA t7 (List.length t5) then
      (f140 k (List.getD t5 (Int.toNat t7) (ByteArray.empty, [], (0, [], []), 0, 0, 0)).fst (List.getD t5 (Int.toNat t7) (ByteArray.empty, [], (0, [], []), 0, 0, 0)).snd.fst (List.getD t5 (Int.toNat t7) (ByteArray.empty, [], (0, [], []), 0, 0, 0)).snd.snd.fst.fst (List.getD t5 (Int.toNat t7) (ByteArray.empty, [], (0, [], []), 0, 0, 0)).snd.snd.fst.snd.fst (List.getD t5 (Int.toNat t7) (ByteArray.empty, [], (0, [], []), 0, 0, 0)).snd.snd.fst.snd.snd (List.getD t5 (Int.toNat t7) (ByteArray.empty, [], (0, [], []), 0, 0, 0)).snd.snd.snd.fst (List.getD t5 (Int.toNat t7) (ByteArray.empty, [], (0, [], []), 0, 0, 0)).snd.snd.snd.snd.fst (List.getD t5 (Int.toNat t7) (ByteArray.empty, [], (0, [], []), 0, 0, 0)).snd.snd.snd.snd.snd).bind fun r0 =>
      bif !r0 then
        some false
      else
        bif decide (0 < t7) then
          bif boundA (IntKind.wrap IntKind.i64 (t7 - 1)) (List.length l) then
            bif !Op.bytesLess (ByteArray.toList (List.getD l (Int.toNat (IntKind.wrap IntKind.i64 (t7 - 1))) (ByteArray.empty, [], (0, [], []), 0, 0, 0)).fst) (ByteArray.toList (List.getD t5 (Int.toNat t7) (ByteArray.empty, [], (0, [], []), 0, 0, 0)).fst) then
              some false
            else
              rec1002 l t5 t6 (IntKind.wrap IntKind.i64 (t7 + 1))
          else
            none
        else
          rec1002 l t5 t6 (IntKind.wrap IntKind.i64 (t7 + 1))
    else
      none
  else
    some (decide ((↑(List.length l) : Int) ≤ 10))
def F83 (k : Nat) (rec1002 : List (ByteArray × List (List (Int × Int × Int × Int)) × (Int × List Int × List Int) × Int × Int × Int) → List (ByteArray × List (List (Int × Int × Int × Int)) × (Int × List Int × List Int) × Int × Int × Int) → Int → Int → Option (Bool)) (l : List (ByteArray × (List (List (Int × Int × Int × Int))) × (Int × (List (Int)) × List (Int)) × Int × Int × Int)) : Option (Bool) :=
  rec1002 l l ((↑(List.length l) : Int)) (0)
def l83 : Nat → (List (ByteArray × List (List (Int × Int × Int × Int)) × (Int × List Int × List Int) × Int × Int × Int) → List (ByteArray × List (List (Int × Int × Int × Int)) × (Int × List Int × List Int) × Int × Int × Int) → Int → Int → Option (Bool))
  | 0 => fun _ _ _ _ => none
  | k + 1 => F83_1002 k (l83 k)
def f83 (k : Nat) (l : List (ByteArray × (List (List (Int × Int × Int × Int))) × (Int × (List (Int)) × List (Int)) × Int × Int × Int)) : Option (Bool) := F83 k (l83 k) l
def s83 : Spec := ⟨false, [(.bool, false)], true, .bool, fun k xs => match xs with | [.slc 108 (.pair (.str) (.pair (.slice 152 (.slice 150 (.pair (.int .i64) (.pair (.int .i64) (.pair (.int .i64) (.int .i64)))))) (.pair (.pair (.int .i64) (.pair (.slice 3 (.int .i64)) (.slice 3 (.int .i64)))) (.pair (.int .i64) (.pair (.int .i64) (.int .i64)))))) l] => f83 k l | _ => none⟩
def env45 : List (FuncId × Spec) := (83, s83) :: env44
noncomputable abbrev x83 := exec ti (envOf env44) 34 h83 (finT ti true Go.Proofs.Try.f83.results.toList [(.bool, false)] (.bool))
noncomputable def k83_1002 : List It := stackAt [.r, .l, .r, .b, .lb none] (bodyOf Go.Proofs.Try.f83) []
def t83_1002 (l : List (ByteArray × List (List (Int × Int × Int × Int)) × (Int × List Int × List Int) × Int × Int × Int)) (t5 : List (ByteArray × List (List (Int × Int × Int × Int)) × (Int × List Int × List Int) × Int × Int × Int)) (t6 : Int) (t7 : Int) : St := [(0, Cell.val (AVal.slc 108 (Ty.pair Ty.str (Ty.pair (Ty.slice 152 (Ty.slice 150 (Ty.pair (Ty.int IntKind.i64) (Ty.pair (Ty.int IntKind.i64) (Ty.pair (Ty.int IntKind.i64) (Ty.int IntKind.i64)))))) (Ty.pair (Ty.pair (Ty.int IntKind.i64) (Ty.pair (Ty.slice 3 (Ty.int IntKind.i64)) (Ty.slice 3 (Ty.int IntKind.i64)))) (Ty.pair (Ty.int IntKind.i64) (Ty.pair (Ty.int IntKind.i64) (Ty.int IntKind.i64)))))) l)), (10, Cell.val (AVal.slc 108 (Ty.pair Ty.str (Ty.pair (Ty.slice 152 (Ty.slice 150 (Ty.pair (Ty.int IntKind.i64) (Ty.pair (Ty.int IntKind.i64) (Ty.pair (Ty.int IntKind.i64) (Ty.int IntKind.i64)))))) (Ty.pair (Ty.pair (Ty.int IntKind.i64) (Ty.pair (Ty.slice 3 (Ty.int IntKind.i64)) (Ty.slice 3 (Ty.int IntKind.i64)))) (Ty.pair (Ty.int IntKind.i64) (Ty.pair (Ty.int IntKind.i64) (Ty.int IntKind.i64)))))) t5)), (12, Cell.val (AVal.int IntKind.i64 t6)), (14, Cell.val (AVal.int IntKind.i64 t7))]
theorem e83_1002 (k : Nat) (l : List (ByteArray × List (List (Int × Int × Int × Int)) × (Int × List Int × List Int) × Int × Int × Int)) (t5 : List (ByteArray × List (List (Int × Int × Int × Int)) × (Int × List Int × List Int) × Int × Int × Int)) (t6 : Int) (t7 : Int) : x83 (k + 1) k83_1002 (t83_1002 l t5 t6 t7) = F83_1002 k (fun (l : List (ByteArray × List (List (Int × Int × Int × Int)) × (Int × List Int × List Int) × Int × Int × Int)) (t5 : List (ByteArray × List (List (Int × Int × Int × Int)) × (Int × List Int × List Int) × Int × Int × Int)) (t6 : Int) (t7 : Int) => x83 k k83_1002 (t83_1002 l t5 t6 t7)) l t5 t6 t7 := by kernel_rfl
theorem q83 : ∀ k : Nat, (fun (l : List (ByteArray × List (List (Int × Int × Int × Int)) × (Int × List Int × List Int) × Int × Int × Int)) (t5 : List (ByteArray × List (List (Int × Int × Int × Int)) × (Int × List Int × List Int) × Int × Int × Int)) (t6 : Int) (t7 : Int) => x83 k k83_1002 (t83_1002 l t5 t6 t7)) = l83 k
  | 0 => rfl
  | k + 1 => by
    have h := q83 k
    show _ = F83_1002 k (l83 k)
    rw [← h]
    exact (funext fun l => funext fun t5 => funext fun t6 => funext fun t7 => e83_1002 k l t5 t6 t7)
theorem w83 (k : Nat) (l : List (ByteArray × (List (List (Int × Int × Int × Int))) × (Int × (List (Int)) × List (Int)) × Int × Int × Int)) : runFn ti (envOf env44) 34 h83 (finT ti true Go.Proofs.Try.f83.results.toList [(.bool, false)] (.bool)) k (bodyOf Go.Proofs.Try.f83) (initS 0 [.slc 108 (.pair (.str) (.pair (.slice 152 (.slice 150 (.pair (.int .i64) (.pair (.int .i64) (.pair (.int .i64) (.int .i64)))))) (.pair (.pair (.int .i64) (.pair (.slice 3 (.int .i64)) (.slice 3 (.int .i64)))) (.pair (.int .i64) (.pair (.int .i64) (.int .i64)))))) l]) = F83 k (fun (l : List (ByteArray × List (List (Int × Int × Int × Int)) × (Int × List Int × List Int) × Int × Int × Int)) (t5 : List (ByteArray × List (List (Int × Int × Int × Int)) × (Int × List Int × List Int) × Int × Int × Int)) (t6 : Int) (t7 : Int) => x83 k k83_1002 (t83_1002 l t5 t6 t7)) l := by kernel_rfl
theorem v83 (k : Nat) (l : List (ByteArray × (List (List (Int × Int × Int × Int))) × (Int × (List (Int)) × List (Int)) × Int × Int × Int)) : runFn ti (envOf env44) 34 h83 (finT ti true Go.Proofs.Try.f83.results.toList [(.bool, false)] (.bool)) k (bodyOf Go.Proofs.Try.f83) (initS 0 [.slc 108 (.pair (.str) (.pair (.slice 152 (.slice 150 (.pair (.int .i64) (.pair (.int .i64) (.pair (.int .i64) (.int .i64)))))) (.pair (.pair (.int .i64) (.pair (.slice 3 (.int .i64)) (.slice 3 (.int .i64)))) (.pair (.int .i64) (.pair (.int .i64) (.int .i64)))))) l]) = f83 k l := by
  rw [w83]
  have h := q83 k
  unfold f83
  rw [← h]
theorem m83 : Meets Go.Proofs.Try.prog 83 s83 := meets_of_run tiOk env44_ok mo Go.Proofs.Try.func83 (body := bodyOf Go.Proofs.Try.f83) (by kernel_rfl) (N := 34) (by kernel_rfl) (hs := h83) (by
  intro k xs r h
  unfold s83 at h
  dsimp only at h
  split at h
  · exact ⟨Nat.le_of_ble_eq_true rfl, (v83 k _).trans h⟩
  · cases h)
theorem env45_ok : EnvOk Go.Proofs.Try.prog (envOf env45) := envOf_cons m83 Go.Proofs.Try.func83 (by kernel_rfl) (by kernel_rfl) env44_ok

-- spec.caPlace
def h106 : Hints := [(1002, .lab [(0, .one (.frz 108 (Ty.pair Ty.str (Ty.pair (Ty.slice 152 (Ty.slice 150 (Ty.pair (Ty.int IntKind.i64) (Ty.pair (Ty.int IntKind.i64) (Ty.pair (Ty.int IntKind.i64) (Ty.int IntKind.i64)))))) (Ty.pair (Ty.pair (Ty.int IntKind.i64) (Ty.pair (Ty.slice 3 (Ty.int IntKind.i64)) (Ty.slice 3 (Ty.int IntKind.i64)))) (Ty.pair (Ty.int IntKind.i64) (Ty.pair (Ty.int IntKind.i64) (Ty.int IntKind.i64)))))))), (1, .one (.v)), (5, .one (.v))])]
def F106_1002 (k : Nat) (rec1002 : List (ByteArray × List (List (Int × Int × Int × Int)) × (Int × List Int × List Int) × Int × Int × Int) → ByteArray → Int → Option (Int)) (l : List (ByteArray × List (List (Int × Int × Int × Int)) × (Int × List Int × List Int) × Int × Int × Int)) (name : ByteArray) (k_ : Int) : Option (Int) :=
  bif decide (k_ < (↑(List.length l) : Int)) then
    bif boundA k_ (List.length l) then
      bif Op.bytesLess (ByteArray.toList (List.getD l (Int.toNat k_) (ByteArray.empty, [], (0, [], []), 0, 0, 0)).fst) (ByteArray.toList name) then
        rec1002 l name (IntKind.wrap IntKind.i64 (k_ + 1))
      else
        some k_
    else
      none
  else
    some k_
def F106 (k : Nat) (rec1002 : List (ByteArray × List (List (Int × Int × Int × Int)) × (Int × List Int × List Int) × Int × Int × Int) → ByteArray → Int → Option (Int)) (l : List (ByteArray × (List (List (Int × Int × Int × Int))) × (Int × (List (Int)) × List (Int)) × Int × Int × Int)) (name : ByteArray) : Option (Int) :=
  rec1002 l name (0)
def l106 : Nat → (List (ByteArray × List (List (Int × Int × Int × Int)) × (Int × List Int × List Int) × Int × Int × Int) → ByteArray → Int → Option (Int))
  | 0 => fun _ _ _ => none
  | k + 1 => F106_1002 k (l106 k)
def f106 (k : Nat) (l : List (ByteArray × (List (List (Int × Int × Int × Int))) × (Int × (List (Int)) × List (Int)) × Int × Int × Int)) (name : ByteArray) : Option (Int) := F106 k (l106 k) l name
def s106 : Spec := ⟨false, [(.int .i64, false)], true, .int .i64, fun k xs => match xs with | [.slc 108 (.pair (.str) (.pair (.slice 152 (.slice 150 (.pair (.int .i64) (.pair (.int .i64) (.pair (.int .i64) (.int .i64)))))) (.pair (.pair (.int .i64) (.pair (.slice 3 (.int .i64)) (.slice 3 (.int .i64)))) (.pair (.int .i64) (.pair (.int .i64) (.int .i64)))))) l, .str name] => f106 k l name | _ => none⟩
def env46 : List (FuncId × Spec) := (106, s106) :: env45
noncomputable abbrev x106 := exec ti (envOf env45) 22 h106 (finT ti true Go.Proofs.Try.f106.results.toList [(.int .i64, false)] (.int .i64))
noncomputable def k106_1002 : List It := stackAt [.r, .r, .l, .b, .lb none] (bodyOf Go.Proofs.Try.f106) []
def t106_1002 (l : List (ByteArray × List (List (Int × Int × Int × Int)) × (Int × List Int × List Int) × Int × Int × Int)) (name : ByteArray) (k_ : Int) : St := [(0, Cell.val (AVal.slc 108 (Ty.pair Ty.str (Ty.pair (Ty.slice 152 (Ty.slice 150 (Ty.pair (Ty.int IntKind.i64) (Ty.pair (Ty.int IntKind.i64) (Ty.pair (Ty.int IntKind.i64) (Ty.int IntKind.i64)))))) (Ty.pair (Ty.pair (Ty.int IntKind.i64) (Ty.pair (Ty.slice 3 (Ty.int IntKind.i64)) (Ty.slice 3 (Ty.int IntKind.i64)))) (Ty.pair (Ty.int IntKind.i64) (Ty.pair (Ty.int IntKind.i64) (Ty.int IntKind.i64)))))) l)), (2, Cell.val (AVal.str name)), (10, Cell.val (AVal.int IntKind.i64 k_))]
theorem e106_1002 (k : Nat) (l : List (ByteArray × List (List (Int × Int × Int × Int)) × (Int × List Int × List Int) × Int × Int × Int)) (name : ByteArray) (k_ : Int) : x106 (k + 1) k106_1002 (t106_1002 l name k_) = F106_1002 k (fun (l : List (ByteArray × List (List (Int × Int × Int × Int)) × (Int × List Int × List Int) × Int × Int × Int)) (name : ByteArray) (k_ : Int) => x106 k k106_1002 (t106_1002 l name k_)) l name k_ := by kernel_rfl
theorem q106 : ∀ k : Nat, (fun (l : List (ByteArray × List (List (Int × Int × Int × Int)) × (Int × List Int × List Int) × Int × Int × Int)) (name : ByteArray) (k_ : Int) => x106 k k106_1002 (t106_1002 l name k_)) = l106 k
  | 0 => rfl
  | k + 1 => by
    have h := q106 k
    show _ = F106_1002 k (l106 k)
    rw [← h]
    exact (funext fun l => funext fun name => funext fun k_ => e106_1002 k l name k_)
theorem w106 (k : Nat) (l : List (ByteArray × (List (List (Int × Int × Int × Int))) × (Int × (List (Int)) × List (Int)) × Int × Int × Int)) (name : ByteArray) : runFn ti (envOf env45) 22 h106 (finT ti true Go.Proofs.Try.f106.results.toList [(.int .i64, false)] (.int .i64)) k (bodyOf Go.Proofs.Try.f106) (initS 0 [.slc 108 (.pair (.str) (.pair (.slice 152 (.slice 150 (.pair (.int .i64) (.pair (.int .i64) (.pair (.int .i64) (.int .i64)))))) (.pair (.pair (.int .i64) (.pair (.slice 3 (.int .i64)) (.slice 3 (.int .i64)))) (.pair (.int .i64) (.pair (.int .i64) (.int .i64)))))) l, .str name]) = F106 k (fun (l : List (ByteArray × List (List (Int × Int × Int × Int)) × (Int × List Int × List Int) × Int × Int × Int)) (name : ByteArray) (k_ : Int) => x106 k k106_1002 (t106_1002 l name k_)) l name := by kernel_rfl
theorem v106 (k : Nat) (l : List (ByteArray × (List (List (Int × Int × Int × Int))) × (Int × (List (Int)) × List (Int)) × Int × Int × Int)) (name : ByteArray) : runFn ti (envOf env45) 22 h106 (finT ti true Go.Proofs.Try.f106.results.toList [(.int .i64, false)] (.int .i64)) k (bodyOf Go.Proofs.Try.f106) (initS 0 [.slc 108 (.pair (.str) (.pair (.slice 152 (.slice 150 (.pair (.int .i64) (.pair (.int .i64) (.pair (.int .i64) (.int .i64)))))) (.pair (.pair (.int .i64) (.pair (.slice 3 (.int .i64)) (.slice 3 (.int .i64)))) (.pair (.int .i64) (.pair (.int .i64) (.int .i64)))))) l, .str name]) = f106 k l name := by
  rw [w106]
  have h := q106 k
  unfold f106
  rw [← h]
theorem m106 : Meets Go.Proofs.Try.prog 106 s106 := meets_of_run tiOk env45_ok mo Go.Proofs.Try.func106 (body := bodyOf Go.Proofs.Try.f106) (by kernel_rfl) (N := 22) (by kernel_rfl) (hs := h106) (by
  intro k xs r h
  unfold s106 at h
  dsimp only at h
  split at h
  · exact ⟨Nat.le_of_ble_eq_true rfl, (v106 k _ _).trans h⟩
  · cases h)
theorem env46_ok : EnvOk Go.Proofs.Try.prog (envOf env46) := envOf_cons m106 Go.Proofs.Try.func106 (by kernel_rfl) (by kernel_rfl) env45_ok

-- spec.caAt
def f107 (k : Nat) (l : List (ByteArray × (List (List (Int × Int × Int × Int))) × (Int × (List (Int)) × List (Int)) × Int × Int × Int)) (k_ : Int) (name : ByteArray) : Option (Bool) :=
  bif decide (k_ < (↑(List.length l) : Int)) then
    bif boundA k_ (List.length l) then
      some (ByteArray.toList (List.getD l (Int.toNat k_) (ByteArray.empty, [], (0, [], []), 0, 0, 0)).fst == ByteArray.toList name)
    else
      none
  else
    some false
def s107 : Spec := ⟨false, [(.bool, false)], true, .bool, fun k xs => match xs with | [.slc 108 (.pair (.str) (.pair (.slice 152 (.slice 150 (.pair (.int .i64) (.pair (.int .i64) (.pair (.int .i64) (.int .i64)))))) (.pair (.pair (.int .i64) (.pair (.slice 3 (.int .i64)) (.slice 3 (.int .i64)))) (.pair (.int .i64) (.pair (.int .i64) (.int .i64)))))) l, .int .i64 k_, .str name] => f107 k l k_ name | _ => none⟩
def env47 : List (FuncId × Spec) := (107, s107) :: env46
theorem v107 (k : Nat) (l : List (ByteArray × (List (List (Int × Int × Int × Int))) × (Int × (List (Int)) × List (Int)) × Int × Int × Int)) (k_ : Int) (name : ByteArray) : runFn ti (envOf env46) 20 [] (finT ti true Go.Proofs.Try.f107.results.toList [(.bool, false)] (.bool)) k (bodyOf Go.Proofs.Try.f107) (initS 0 [.slc 108 (.pair (.str) (.pair (.slice 152 (.slice 150 (.pair (.int .i64) (.pair (.int .i64) (.pair (.int .i64) (.int .i64)))))) (.pair (.pair (.int .i64) (.pair (.slice 3 (.int .i64)) (.slice 3 (.int .i64)))) (.pair (.int .i64) (.pair (.int .i64) (.int .i64)))))) l, .int .i64 k_, .str name]) = f107 k l k_ name := by kernel_rfl
theorem m107 : Meets Go.Proofs.Try.prog 107 s107 := meets_of_run tiOk env46_ok mo Go.Proofs.Try.func107 (body := bodyOf Go.Proofs.Try.f107) (by kernel_rfl) (N := 20) (by kernel_rfl) (hs := []) (by
  intro k xs r h
  unfold s107 at h
  dsimp only at h
  split at h
  · exact ⟨Nat.le_of_ble_eq_true rfl, (v107 k _ _ _).trans h⟩
  · cases h)
theorem env47_ok : EnvOk Go.Proofs.Try.prog (envOf env47) := envOf_cons m107 Go.Proofs.Try.func107 (by kernel_rfl) (by kernel_rfl) env46_ok

-- spec.FindSystem
def f47 (k : Nat) (l : List (ByteArray × (List (List (Int × Int × Int × Int))) × (Int × (List (Int)) × List (Int)) × Int × Int × Int)) (name : ByteArray) : Option (Int × Bool) :=
  (f106 k l name).bind fun r0 =>
  (f83 k l).bind fun r1 =>
  bif !r1 then
    some ((0, false))
  else
    (f107 k l r0 name).bind fun r2 =>
    bif !r2 then
      some ((0, false))
    else
      some ((r0, true))
def s47 : Spec := ⟨false, [(.int .i64, false), (.bool, false)], true, .pair (.int .i64) (.bool), fun k xs => match xs with | [.slc 108 (.pair (.str) (.pair (.slice 152 (.slice 150 (.pair (.int .i64) (.pair (.int .i64) (.pair (.int .i64) (.int .i64)))))) (.pair (.pair (.int .i64) (.pair (.slice 3 (.int .i64)) (.slice 3 (.int .i64)))) (.pair (.int .i64) (.pair (.int .i64) (.int .i64)))))) l, .str name] => f47 k l name | _ => none⟩
def env48 : List (FuncId × Spec) := (47, s47) :: env47
theorem v47 (k : Nat) (l : List (ByteArray × (List (List (Int × Int × Int × Int))) × (Int × (List (Int)) × List (Int)) × Int × Int × Int)) (name : ByteArray) : runFn ti (envOf env47) 21 [] (finT ti true Go.Proofs.Try.f47.results.toList [(.int .i64, false), (.bool, false)] (.pair (.int .i64) (.bool))) k (bodyOf Go.Proofs.Try.f47) (initS 0 [.slc 108 (.pair (.str) (.pair (.slice 152 (.slice 150 (.pair (.int .i64) (.pair (.int .i64) (.pair (.int .i64) (.int .i64)))))) (.pair (.pair (.int .i64) (.pair (.slice 3 (.int .i64)) (.slice 3 (.int .i64)))) (.pair (.int .i64) (.pair (.int .i64) (.int .i64)))))) l, .str name]) = f47 k l name := by kernel_rfl
theorem m47 : Meets Go.Proofs.Try.prog 47 s47 := meets_of_run tiOk env47_ok mo Go.Proofs.Try.func47 (body := bodyOf Go.Proofs.Try.f47) (by kernel_rfl) (N := 21) (by kernel_rfl) (hs := []) (by
  intro k xs r h
  unfold s47 at h
  dsimp only at h
  split at h
  · exact ⟨Nat.le_of_ble_eq_true rfl, (v47 k _ _).trans h⟩
  · cases h)
theorem env48_ok : EnvOk Go.Proofs.Try.prog (envOf env48) := envOf_cons m47 Go.Proofs.Try.func47 (by kernel_rfl) (by kernel_rfl) env47_ok

end Go.Proofs.YtbaeikcfchiiaaaE
