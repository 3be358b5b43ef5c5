/- Functions, by the engine; printed. -/
import Derived.Test.YtkahcjnkmbbplaaLA3
set_option maxRecDepth 100000
set_option maxHeartbeats 4000000
set_option linter.unusedVariables false
namespace Go.Proofs.YtkahcjnkmbbplaaE
-- impl.scaled
def h104 : Hints := [(1003, .lab [(1, .one (.v)), (5, .one (.own 3 (Ty.int IntKind.i64))), (8, .one (.frz 3 (Ty.int IntKind.i64))), (9, .one (.v)), (10, .one (.v))])]
noncomputable def F104_1003 (k : Nat) (rec1003 : Int → List Int → List Int → Int → Int → Option (List (Int))) (k_ : Int) (outs : List Int) (t8 : List Int) (t9 : Int) (t10 : Int) : Option (List (Int)) :=
  bif decide (t10 < t9) then
    bif boundA t10 (List.length t8) then
      bif !decide (k_ < 0) then
        bif decide ((List.length outs + List.length [IntKind.wrap IntKind.i64 (List.getD t8 (Int.toNat t10) 0 * 2 ^ min (Int.toNat k_) (IntKind.bits IntKind.i64))]) * 8 ≤ 140737488355328) then
          rec1003 k_ (outs ++ [IntKind.wrap IntKind.i64 (List.getD t8 (Int.toNat t10) 0 * 2 ^ min (Int.toNat k_) (IntKind.bits IntKind.i64))]) t8 t9 (IntKind.wrap IntKind.i64 (t10 + 1))
        else
          none
      else
        none
    else
      none
  else
    some outs
noncomputable def F104 (k : Nat) (rec1003 : Int → List Int → List Int → Int → Int → Option (List (Int))) (list : List (Int)) (k_ : Int) : Option (List (Int)) :=
  rec1003 k_ ([]) list ((↑(List.length list) : Int)) (0)
noncomputable def l104 : Nat → (Int → List Int → List Int → Int → Int → Option (List (Int)))
  | 0 => fun _ _ _ _ _ => none
  | k + 1 => F104_1003 k (l104 k)
noncomputable def f104 (k : Nat) (list : List (Int)) (k_ : Int) : Option (List (Int)) := F104 k (l104 k) list k_
noncomputable def s104 : Spec := ⟨false, [(.slice 3 (.int .i64), false)], true, .slice 3 (.int .i64), fun k xs => match xs with | [.slc 3 (.int .i64) list, .int .i64 k_] => f104 k list k_ | _ => none, false⟩
noncomputable def env37 : List (FuncId × Spec) := (104, s104) :: env36
noncomputable abbrev x104 := exec ti (envOf env36) 22 h104 (finT ti true Go.Proofs.Try.f104.results.toList [(.slice 3 (.int .i64), false)] (.slice 3 (.int .i64)))
noncomputable def k104_1003 : List It := stackAt [.r, .r, .l, .r, .b, .lb none] (bodyOf Go.Proofs.Try.f104) []
def t104_1003 (k_ : Int) (outs : List Int) (t8 : List Int) (t9 : Int) (t10 : Int) : St := [(2, Cell.val (AVal.int IntKind.i64 k_)), (10, Cell.val (AVal.ref 3 none)), (3, Cell.row true 3 (Ty.int IntKind.i64) outs), (16, Cell.val (AVal.slc 3 (Ty.int IntKind.i64) t8)), (18, Cell.val (AVal.int IntKind.i64 t9)), (20, Cell.val (AVal.int IntKind.i64 t10))]
theorem e104_1003 (k : Nat) (k_ : Int) (outs : List Int) (t8 : List Int) (t9 : Int) (t10 : Int) : x104 (k + 1) k104_1003 (t104_1003 k_ outs t8 t9 t10) = F104_1003 k (fun (k_ : Int) (outs : List Int) (t8 : List Int) (t9 : Int) (t10 : Int) => x104 k k104_1003 (t104_1003 k_ outs t8 t9 t10)) k_ outs t8 t9 t10 := by kernel_rfl
theorem q104 : ∀ k : Nat, (fun (k_ : Int) (outs : List Int) (t8 : List Int) (t9 : Int) (t10 : Int) => x104 k k104_1003 (t104_1003 k_ outs t8 t9 t10)) = l104 k
  | 0 => rfl
  | k + 1 => by
    have h := q104 k
    show _ = F104_1003 k (l104 k)
    rw [← h]
    exact (funext fun k_ => funext fun outs => funext fun t8 => funext fun t9 => funext fun t10 => e104_1003 k k_ outs t8 t9 t10)
theorem w104 (k : Nat) (list : List (Int)) (k_ : Int) : runFn ti (envOf env36) 22 h104 (finT ti true Go.Proofs.Try.f104.results.toList [(.slice 3 (.int .i64), false)] (.slice 3 (.int .i64))) k (bodyOf Go.Proofs.Try.f104) (initS 0 [.slc 3 (.int .i64) list, .int .i64 k_]) = F104 k (fun (k_ : Int) (outs : List Int) (t8 : List Int) (t9 : Int) (t10 : Int) => x104 k k104_1003 (t104_1003 k_ outs t8 t9 t10)) list k_ := by kernel_rfl
theorem v104 (k : Nat) (list : List (Int)) (k_ : Int) : runFn ti (envOf env36) 22 h104 (finT ti true Go.Proofs.Try.f104.results.toList [(.slice 3 (.int .i64), false)] (.slice 3 (.int .i64))) k (bodyOf Go.Proofs.Try.f104) (initS 0 [.slc 3 (.int .i64) list, .int .i64 k_]) = f104 k list k_ := by
  rw [w104]
  have h := q104 k
  unfold f104
  rw [← h]
theorem m104 : Meets Go.Proofs.Try.prog 104 s104 := meets_of_run tiOk env36_ok mo Go.Proofs.Try.func104 (body := bodyOf Go.Proofs.Try.f104) (by kernel_rfl) (N := 22) (by kernel_rfl) (hs := h104) (by
  intro k xs r h
  unfold s104 at h
  dsimp only at h
  split at h
  · exact ⟨Nat.le_of_ble_eq_true rfl, (v104 k _ _).trans h⟩
  · cases h)
theorem env37_ok : EnvOk Go.Proofs.Try.prog (envOf env37) := envOf_cons m104 Go.Proofs.Try.func104 (by kernel_rfl) (by kernel_rfl) env36_ok

-- slices.Clone[[]int,int]
noncomputable def f105 (k : Nat) (s : List (Int)) : Option (List (Int)) :=
  bif decide ((0 + List.length s) * 8 ≤ 140737488355328) then
    some s
  else
    none
noncomputable def s105 : Spec := ⟨false, [(.slice 3 (.int .i64), false)], true, .slice 3 (.int .i64), fun k xs => match xs with | [.slc 3 (.int .i64) s] => f105 k s | _ => none, false⟩
noncomputable def env38 : List (FuncId × Spec) := (105, s105) :: env37
theorem m105 : Meets Go.Proofs.Try.prog 105 s105 := meets_clone (N := 8) tiOk env37_ok mo Go.Proofs.Try.func105 rfl rfl rfl rfl rfl rfl rfl rfl rfl rfl Go.Proofs.Try.underlying22 rfl (Nat.le_of_ble_eq_true rfl) (by
  intro k xs r h
  unfold s105 at h
  dsimp only at h
  split at h
  · rename_i s
    refine ⟨3, (.int .i64), s, rfl, fun hx => ?_, ?_⟩
    · subst hx
      refine Eq.trans ?_ h
      kernel_rfl
    · refine Eq.trans ?_ h
      kernel_rfl
  · cases h)
theorem env38_ok : EnvOk Go.Proofs.Try.prog (envOf env38) := envOf_cons m105 Go.Proofs.Try.func105 (by kernel_rfl) (by kernel_rfl) env37_ok

-- impl.inside
noncomputable def f91 (k : Nat) (n : Int) (low : Int) (high : Int) : Option (Bool) :=
  bif decide (low ≤ n) then
    some (decide (n ≤ high))
  else
    some false
noncomputable def s91 : Spec := ⟨false, [(.bool, false)], true, .bool, fun k xs => match xs with | [.int .i64 n, .int .i64 low, .int .i64 high] => f91 k n low high | _ => none, false⟩
noncomputable def env39 : List (FuncId × Spec) := (91, s91) :: env38
theorem v91 (k : Nat) (n : Int) (low : Int) (high : Int) : runFn ti (envOf env38) 15 [] (finT ti true Go.Proofs.Try.f91.results.toList [(.bool, false)] (.bool)) k (bodyOf Go.Proofs.Try.f91) (initS 0 [.int .i64 n, .int .i64 low, .int .i64 high]) = f91 k n low high := by kernel_rfl
theorem m91 : Meets Go.Proofs.Try.prog 91 s91 := meets_of_run tiOk env38_ok mo Go.Proofs.Try.func91 (body := bodyOf Go.Proofs.Try.f91) (by kernel_rfl) (N := 15) (by kernel_rfl) (hs := []) (by
  intro k xs r h
  unfold s91 at h
  dsimp only at h
  split at h
  · exact ⟨Nat.le_of_ble_eq_true rfl, (v91 k _ _ _).trans h⟩
  · cases h)
theorem env39_ok : EnvOk Go.Proofs.Try.prog (envOf env39) := envOf_cons m91 Go.Proofs.Try.func91 (by kernel_rfl) (by kernel_rfl) env38_ok

-- impl.isBox
def h60 : Hints := [(1005, .lab [(0, .one (.v)), (3, .one (.v)), (4, .one (.v)), (48, .one (.frz 3 (Ty.int IntKind.i64))), (49, .one (.v)), (50, .one (.v))])]
noncomputable def F60_1005 (k : Nat) (rec1005 : Int × List Int × List Int → Int → Bool → List Int → Int → Int → Option (Bool)) (L : Int × List Int × List Int) (t : Int) (t4 : Bool) (t48 : List Int) (t49 : Int) (t50 : Int) : Option (Bool) :=
  bif decide (t50 < t49) then
    bif boundA t50 (List.length t48) then
      (f91 k (List.getD t48 (Int.toNat t50) 0) (IntKind.wrap IntKind.i64 (0 - t)) t).bind fun r0 =>
      bif !r0 then
        some false
      else
        bif boundA t50 (List.length L.snd.snd) then
          (f91 k (List.getD L.snd.snd (Int.toNat t50) 0) (IntKind.wrap IntKind.i64 (List.getD t48 (Int.toNat t50) 0 + 1)) t).bind fun r1 =>
          bif !r1 then
            some false
          else
            bif t4 then
              rec1005 L t true t48 t49 (IntKind.wrap IntKind.i64 (t50 + 1))
            else
              bif !decide (Int.tmod (List.getD t48 (Int.toNat t50) 0) 2 = 0) then
                rec1005 L t true t48 t49 (IntKind.wrap IntKind.i64 (t50 + 1))
              else
                bif boundA t50 (List.length L.snd.snd) then
                  rec1005 L t (!decide (Int.tmod (List.getD L.snd.snd (Int.toNat t50) 0) 2 = 0)) t48 t49 (IntKind.wrap IntKind.i64 (t50 + 1))
                else
                  none
        else
          none
    else
      none
  else
    some t4
noncomputable def F60 (k : Nat) (rec1005 : Int × List Int × List Int → Int → Bool → List Int → Int → Int → Option (Bool)) (L : Int × (List (Int)) × List (Int)) : Option (Bool) :=
  (f91 k L.fst 0 8).bind fun r0 =>
  bif !r0 then
    some false
  else
    (f91 k (↑(List.length L.snd.fst) : Int) 1 3).bind fun r1 =>
    bif !r1 then
      some false
    else
      bif !decide ((↑(List.length L.snd.snd) : Int) = (↑(List.length L.snd.fst) : Int)) then
        some false
      else
        bif !decide (L.fst < 0) then
          rec1005 L (IntKind.wrap IntKind.i64 (8 * 2 ^ min (Int.toNat L.fst) (IntKind.bits IntKind.i64))) (decide (L.fst = 0)) (L.snd.fst) ((↑(List.length L.snd.fst) : Int)) (0)
        else
          none
noncomputable def l60 : Nat → (Int × List Int × List Int → Int → Bool → List Int → Int → Int → Option (Bool))
  | 0 => fun _ _ _ _ _ _ => none
  | k + 1 => F60_1005 k (l60 k)
noncomputable def f60 (k : Nat) (L : Int × (List (Int)) × List (Int)) : Option (Bool) := F60 k (l60 k) L
noncomputable def s60 : Spec := ⟨false, [(.bool, false)], true, .bool, fun k xs => match xs with | [.fptr (.pair (.int .i64) (.pair (.slice 3 (.int .i64)) (.slice 3 (.int .i64)))) L] => f60 k L | _ => none, false⟩
noncomputable def env40 : List (FuncId × Spec) := (60, s60) :: env39
noncomputable abbrev x60 := exec ti (envOf env39) 94 h60 (finT ti true Go.Proofs.Try.f60.results.toList [(.bool, false)] (.bool))
noncomputable def k60_1005 : List It := stackAt [.r, .r, .r, .l, .r, .b, .lb none] (bodyOf Go.Proofs.Try.f60) []
def t60_1005 (L : Int × List Int × List Int) (t : Int) (t4 : Bool) (t48 : List Int) (t49 : Int) (t50 : Int) : St := [(0, Cell.val (AVal.fptr (Ty.pair (Ty.int IntKind.i64) (Ty.pair (Ty.slice 3 (Ty.int IntKind.i64)) (Ty.slice 3 (Ty.int IntKind.i64)))) L)), (6, Cell.val (AVal.int IntKind.i64 t)), (8, Cell.val (AVal.bool t4)), (96, Cell.val (AVal.slc 3 (Ty.int IntKind.i64) t48)), (98, Cell.val (AVal.int IntKind.i64 t49)), (100, Cell.val (AVal.int IntKind.i64 t50))]
theorem e60_1005 (k : Nat) (L : Int × List Int × List Int) (t : Int) (t4 : Bool) (t48 : List Int) (t49 : Int) (t50 : Int) : x60 (k + 1) k60_1005 (t60_1005 L t t4 t48 t49 t50) = F60_1005 k (fun (L : Int × List Int × List Int) (t : Int) (t4 : Bool) (t48 : List Int) (t49 : Int) (t50 : Int) => x60 k k60_1005 (t60_1005 L t t4 t48 t49 t50)) L t t4 t48 t49 t50 := by kernel_rfl
theorem q60 : ∀ k : Nat, (fun (L : Int × List Int × List Int) (t : Int) (t4 : Bool) (t48 : List Int) (t49 : Int) (t50 : Int) => x60 k k60_1005 (t60_1005 L t t4 t48 t49 t50)) = l60 k
  | 0 => rfl
  | k + 1 => by
    have h := q60 k
    show _ = F60_1005 k (l60 k)
    rw [← h]
    exact (funext fun L => funext fun t => funext fun t4 => funext fun t48 => funext fun t49 => funext fun t50 => e60_1005 k L t t4 t48 t49 t50)
theorem w60 (k : Nat) (L : Int × (List (Int)) × List (Int)) : runFn ti (envOf env39) 94 h60 (finT ti true Go.Proofs.Try.f60.results.toList [(.bool, false)] (.bool)) k (bodyOf Go.Proofs.Try.f60) (initS 0 [.fptr (.pair (.int .i64) (.pair (.slice 3 (.int .i64)) (.slice 3 (.int .i64)))) L]) = F60 k (fun (L : Int × List Int × List Int) (t : Int) (t4 : Bool) (t48 : List Int) (t49 : Int) (t50 : Int) => x60 k k60_1005 (t60_1005 L t t4 t48 t49 t50)) L := by kernel_rfl
theorem v60 (k : Nat) (L : Int × (List (Int)) × List (Int)) : runFn ti (envOf env39) 94 h60 (finT ti true Go.Proofs.Try.f60.results.toList [(.bool, false)] (.bool)) k (bodyOf Go.Proofs.Try.f60) (initS 0 [.fptr (.pair (.int .i64) (.pair (.slice 3 (.int .i64)) (.slice 3 (.int .i64)))) L]) = f60 k L := by
  rw [w60]
  have h := q60 k
  unfold f60
  rw [← h]
theorem m60 : Meets Go.Proofs.Try.prog 60 s60 := meets_of_run tiOk env39_ok mo Go.Proofs.Try.func60 (body := bodyOf Go.Proofs.Try.f60) (by kernel_rfl) (N := 94) (by kernel_rfl) (hs := h60) (by
  intro k xs r h
  unfold s60 at h
  dsimp only at h
  split at h
  · exact ⟨Nat.le_of_ble_eq_true rfl, (v60 k _).trans h⟩
  · cases h)
theorem env40_ok : EnvOk Go.Proofs.Try.prog (envOf env40) := envOf_cons m60 Go.Proofs.Try.func60 (by kernel_rfl) (by kernel_rfl) env39_ok

-- impl.boxOf$1
noncomputable def f123 (k : Nat) (n : Int) : Option (Bool) :=
  some (!decide (Int.tmod n 2 = 0))
noncomputable def s123 : Spec := ⟨false, [(.bool, false)], true, .bool, fun k xs => match xs with | [.int .i64 n] => f123 k n | _ => none, false⟩
noncomputable def env41 : List (FuncId × Spec) := (123, s123) :: env40
theorem v123 (k : Nat) (n : Int) : runFn ti (envOf env40) 6 [] (finT ti true Go.Proofs.Try.f123.results.toList [(.bool, false)] (.bool)) k (bodyOf Go.Proofs.Try.f123) (initS 0 [.int .i64 n]) = f123 k n := by kernel_rfl
theorem m123 : Meets Go.Proofs.Try.prog 123 s123 := meets_of_run tiOk env40_ok mo Go.Proofs.Try.func123 (body := bodyOf Go.Proofs.Try.f123) (by kernel_rfl) (N := 6) (by kernel_rfl) (hs := []) (by
  intro k xs r h
  unfold s123 at h
  dsimp only at h
  split at h
  · exact ⟨Nat.le_of_ble_eq_true rfl, (v123 k _).trans h⟩
  · cases h)
theorem env41_ok : EnvOk Go.Proofs.Try.prog (envOf env41) := envOf_cons m123 Go.Proofs.Try.func123 (by kernel_rfl) (by kernel_rfl) env40_ok

-- slices.IndexFunc[[]int,int]
def h127_123 : Hints := [(1002, .lab [(0, .one (.frz 3 (Ty.int IntKind.i64))), (1, .one (.v)), (7, .one (.v)), (8, .one (.v))])]
noncomputable def F127_123_1002 (k : Nat) (rec1002 : List Int → Int → Int → Option (Int)) (s : List Int) (t7 : Int) (t8 : Int) : Option (Int) :=
  bif decide (t8 < t7) then
    bif boundA t8 (List.length s) then
      bif !decide (Int.tmod (List.getD s (Int.toNat t8) 0) 2 = 0) then
        some t8
      else
        rec1002 s t7 (IntKind.wrap IntKind.i64 (t8 + 1))
    else
      none
  else
    some (-1)
noncomputable def F127_123 (k : Nat) (rec1002 : List Int → Int → Int → Option (Int)) (s : List (Int)) : Option (Int) :=
  rec1002 s ((↑(List.length s) : Int)) (0)
noncomputable def l127_123 : Nat → (List Int → Int → Int → Option (Int))
  | 0 => fun _ _ _ => none
  | k + 1 => F127_123_1002 k (l127_123 k)
noncomputable def f127_123 (k : Nat) (s : List (Int)) : Option (Int) := F127_123 k (l127_123 k) s
noncomputable def s127 : Spec := ⟨false, [(.int .i64, false)], true, .int .i64, fun k xs => match xs with | [.slc 3 (.int .i64) s, .fn 123] => f127_123 k s | _ => none, false⟩
noncomputable def env42 : List (FuncId × Spec) := (127, s127) :: env41
noncomputable abbrev x127_123 := exec ti (envOf env41) 19 h127_123 (finT ti true Go.Proofs.Try.f127.results.toList [(.int .i64, false)] (.int .i64))
noncomputable def k127_123_1002 : List It := stackAt [.r, .l, .r, .b, .lb none] (bodyOf Go.Proofs.Try.f127) []
def t127_123_1002 (s : List Int) (t7 : Int) (t8 : Int) : St := [(0, Cell.val (AVal.slc 3 (Ty.int IntKind.i64) s)), (2, Cell.val (AVal.fn 123)), (14, Cell.val (AVal.int IntKind.i64 t7)), (16, Cell.val (AVal.int IntKind.i64 t8))]
theorem e127_123_1002 (k : Nat) (s : List Int) (t7 : Int) (t8 : Int) : x127_123 (k + 1) k127_123_1002 (t127_123_1002 s t7 t8) = F127_123_1002 k (fun (s : List Int) (t7 : Int) (t8 : Int) => x127_123 k k127_123_1002 (t127_123_1002 s t7 t8)) s t7 t8 := by kernel_rfl
theorem q127_123 : ∀ k : Nat, (fun (s : List Int) (t7 : Int) (t8 : Int) => x127_123 k k127_123_1002 (t127_123_1002 s t7 t8)) = l127_123 k
  | 0 => rfl
  | k + 1 => by
    have h := q127_123 k
    show _ = F127_123_1002 k (l127_123 k)
    rw [← h]
    exact (funext fun s => funext fun t7 => funext fun t8 => e127_123_1002 k s t7 t8)
theorem w127_123 (k : Nat) (s : List (Int)) : runFn ti (envOf env41) 19 h127_123 (finT ti true Go.Proofs.Try.f127.results.toList [(.int .i64, false)] (.int .i64)) k (bodyOf Go.Proofs.Try.f127) (initS 0 [.slc 3 (.int .i64) s, .fn 123]) = F127_123 k (fun (s : List Int) (t7 : Int) (t8 : Int) => x127_123 k k127_123_1002 (t127_123_1002 s t7 t8)) s := by kernel_rfl
theorem v127_123 (k : Nat) (s : List (Int)) : runFn ti (envOf env41) 19 h127_123 (finT ti true Go.Proofs.Try.f127.results.toList [(.int .i64, false)] (.int .i64)) k (bodyOf Go.Proofs.Try.f127) (initS 0 [.slc 3 (.int .i64) s, .fn 123]) = f127_123 k s := by
  rw [w127_123]
  have h := q127_123 k
  unfold f127_123
  rw [← h]
theorem m127 : Meets Go.Proofs.Try.prog 127 s127 := meets_of_run tiOk env41_ok mo Go.Proofs.Try.func127 (body := bodyOf Go.Proofs.Try.f127) (by kernel_rfl) (N := 19) (by kernel_rfl) (hs := h127_123) (by
  intro k xs r h
  unfold s127 at h
  dsimp only at h
  split at h
  · exact ⟨Nat.le_of_ble_eq_true rfl, (v127_123 k _).trans h⟩
  · cases h)
theorem env42_ok : EnvOk Go.Proofs.Try.prog (envOf env42) := envOf_cons m127 Go.Proofs.Try.func127 (by kernel_rfl) (by kernel_rfl) env41_ok

-- slices.ContainsFunc[[]int,int]
noncomputable def f121_123 (k : Nat) (s : List (Int)) : Option (Bool) :=
  (f127_123 k s).bind fun r0 =>
  some (decide (0 ≤ r0))
noncomputable def s121 : Spec := ⟨false, [(.bool, false)], true, .bool, fun k xs => match xs with | [.slc 3 (.int .i64) s, .fn 123] => f121_123 k s | _ => none, false⟩
noncomputable def env43 : List (FuncId × Spec) := (121, s121) :: env42
theorem v121_123 (k : Nat) (s : List (Int)) : runFn ti (envOf env42) 9 [] (finT ti true Go.Proofs.Try.f121.results.toList [(.bool, false)] (.bool)) k (bodyOf Go.Proofs.Try.f121) (initS 0 [.slc 3 (.int .i64) s, .fn 123]) = f121_123 k s := by kernel_rfl
theorem m121 : Meets Go.Proofs.Try.prog 121 s121 := meets_of_run tiOk env42_ok mo Go.Proofs.Try.func121 (body := bodyOf Go.Proofs.Try.f121) (by kernel_rfl) (N := 9) (by kernel_rfl) (hs := []) (by
  intro k xs r h
  unfold s121 at h
  dsimp only at h
  split at h
  · exact ⟨Nat.le_of_ble_eq_true rfl, (v121_123 k _).trans h⟩
  · cases h)
theorem env43_ok : EnvOk Go.Proofs.Try.prog (envOf env43) := envOf_cons m121 Go.Proofs.Try.func121 (by kernel_rfl) (by kernel_rfl) env42_ok

-- slices.Grow[[]int,int]
noncomputable def f128 (k : Nat) (n : Int) : Option (List (Int)) :=
  bif decide (n < 0) then
    none
  else
    bif decide (0 < IntKind.wrap IntKind.i64 (n - IntKind.wrap IntKind.i64 (0 - (↑0 : Int)))) then
      bif decide (0 < IntKind.wrap IntKind.i64 (n - IntKind.wrap IntKind.i64 (0 - (↑0 : Int)))) then
        bif decide (Int.toNat (IntKind.wrap IntKind.i64 (n - IntKind.wrap IntKind.i64 (0 - (↑0 : Int)))) * 8 ≤ 140737488355328) then
          some (List.take (Int.toNat (↑0 : Int)) (List.replicate (Int.toNat (IntKind.wrap IntKind.i64 (n - IntKind.wrap IntKind.i64 (0 - (↑0 : Int))))) (dflt (Ty.int IntKind.i64))))
        else
          none
      else
        none
    else
      some ([])
noncomputable def s128 : Spec := ⟨false, [(.slice 3 (.int .i64), false)], true, .slice 3 (.int .i64), fun k xs => match xs with | [.nilslc, .int .i64 n] => f128 k n | _ => none, true⟩
noncomputable def env44 : List (FuncId × Spec) := (128, s128) :: env43
theorem v128 (k : Nat) (n : Int) : runFn tiC (envOf env43) 27 [] (finT tiC true Go.Proofs.Try.f128.results.toList [(.slice 3 (.int .i64), false)] (.slice 3 (.int .i64))) k (bodyOf Go.Proofs.Try.f128) (initS 0 [.nilslc, .int .i64 n]) = f128 k n := by kernel_rfl
theorem m128 : Meets Go.Proofs.Try.prog 128 s128 := meets_of_run tiCOk env43_ok mo Go.Proofs.Try.func128 (body := bodyOf Go.Proofs.Try.f128) (by kernel_rfl) (N := 27) (by kernel_rfl) (hs := []) (by
  intro k xs r h
  unfold s128 at h
  dsimp only at h
  split at h
  · exact ⟨Nat.le_of_ble_eq_true rfl, (v128 k _).trans h⟩
  · cases h)
theorem env44_ok : EnvOk Go.Proofs.Try.prog (envOf env44) := envOf_cons m128 Go.Proofs.Try.func128 (by kernel_rfl) (by kernel_rfl) env43_ok

-- slices.Concat[[]int,int]
def h122 : Hints := [(1003, .lab [(0, .one (.frz 22 (Ty.slice 3 (Ty.int IntKind.i64)))), (3, .one (.v)), (9, .one (.frz 22 (Ty.slice 3 (Ty.int IntKind.i64)))), (10, .one (.v)), (11, .one (.v))]), (1011, .lab [(6, .one (.own 3 (Ty.int IntKind.i64))), (25, .one (.frz 22 (Ty.slice 3 (Ty.int IntKind.i64)))), (26, .one (.v)), (27, .one (.v))])]
noncomputable def F122_1003 (k : Nat) (rec1003 : List (List Int) → Int → List (List Int) → Int → Int → Option (List (Int))) (rec1011 : List Int → List (List Int) → Int → Int → Option (List (Int))) (slices : List (List Int)) (size : Int) (t9 : List (List Int)) (t10 : Int) (t11 : Int) : Option (List (Int)) :=
  bif decide (t11 < t10) then
    bif boundA t11 (List.length t9) then
      bif decide (IntKind.wrap IntKind.i64 (size + (↑(List.length (List.getD t9 (Int.toNat t11) [])) : Int)) < 0) then
        none
      else
        rec1003 slices (IntKind.wrap IntKind.i64 (size + (↑(List.length (List.getD t9 (Int.toNat t11) [])) : Int))) t9 t10 (IntKind.wrap IntKind.i64 (t11 + 1))
    else
      none
  else
    (f128 k size).bind fun r0 =>
    rec1011 r0 slices ((↑(List.length slices) : Int)) (0)
noncomputable def F122_1011 (k : Nat) (rec1003 : List (List Int) → Int → List (List Int) → Int → Int → Option (List (Int))) (rec1011 : List Int → List (List Int) → Int → Int → Option (List (Int))) (newslices : List Int) (t25 : List (List Int)) (t26 : Int) (t27 : Int) : Option (List (Int)) :=
  bif decide (t27 < t26) then
    bif boundA t27 (List.length t25) then
      bif decide ((List.length newslices + List.length (List.getD t25 (Int.toNat t27) [])) * 8 ≤ 140737488355328) then
        rec1011 (newslices ++ List.getD t25 (Int.toNat t27) []) t25 t26 (IntKind.wrap IntKind.i64 (t27 + 1))
      else
        none
    else
      none
  else
    some newslices
noncomputable def F122 (k : Nat) (rec1003 : List (List Int) → Int → List (List Int) → Int → Int → Option (List (Int))) (rec1011 : List Int → List (List Int) → Int → Int → Option (List (Int))) (slices : List (List (Int))) : Option (List (Int)) :=
  rec1003 slices (0) slices ((↑(List.length slices) : Int)) (0)
noncomputable def l122 : Nat → (List (List Int) → Int → List (List Int) → Int → Int → Option (List (Int))) × (List Int → List (List Int) → Int → Int → Option (List (Int)))
  | 0 => (fun _ _ _ _ _ => none, fun _ _ _ _ => none)
  | k + 1 => (F122_1003 k ((l122 k).1) ((l122 k).2), F122_1011 k ((l122 k).1) ((l122 k).2))
noncomputable def f122 (k : Nat) (slices : List (List (Int))) : Option (List (Int)) := F122 k ((l122 k).1) ((l122 k).2) slices
noncomputable def s122 : Spec := ⟨false, [(.slice 3 (.int .i64), false)], true, .slice 3 (.int .i64), fun k xs => match xs with | [.slc 22 (.slice 3 (.int .i64)) slices] => f122 k slices | _ => none, false⟩
noncomputable def env45 : List (FuncId × Spec) := (122, s122) :: env44
noncomputable abbrev x122 := exec ti (envOf env44) 36 h122 (finT ti true Go.Proofs.Try.f122.results.toList [(.slice 3 (.int .i64), false)] (.slice 3 (.int .i64)))
noncomputable def k122_1003 : List It := stackAt [.r, .r, .l, .r, .b, .lb none] (bodyOf Go.Proofs.Try.f122) []
def t122_1003 (slices : List (List Int)) (size : Int) (t9 : List (List Int)) (t10 : Int) (t11 : Int) : St := [(0, Cell.val (AVal.slc 22 (Ty.slice 3 (Ty.int IntKind.i64)) slices)), (6, Cell.val (AVal.int IntKind.i64 size)), (18, Cell.val (AVal.slc 22 (Ty.slice 3 (Ty.int IntKind.i64)) t9)), (20, Cell.val (AVal.int IntKind.i64 t10)), (22, Cell.val (AVal.int IntKind.i64 t11))]
noncomputable def k122_1011 : List It := stackAt [.r, .r, .r, .r, .l, .r, .b, .lb none] (bodyOf Go.Proofs.Try.f122) []
def t122_1011 (newslices : List Int) (t25 : List (List Int)) (t26 : Int) (t27 : Int) : St := [(12, Cell.val (AVal.ref 3 none)), (3, Cell.row true 3 (Ty.int IntKind.i64) newslices), (50, Cell.val (AVal.slc 22 (Ty.slice 3 (Ty.int IntKind.i64)) t25)), (52, Cell.val (AVal.int IntKind.i64 t26)), (54, Cell.val (AVal.int IntKind.i64 t27))]
theorem e122_1003 (k : Nat) (slices : List (List Int)) (size : Int) (t9 : List (List Int)) (t10 : Int) (t11 : Int) : x122 (k + 1) k122_1003 (t122_1003 slices size t9 t10 t11) = F122_1003 k (fun (slices : List (List Int)) (size : Int) (t9 : List (List Int)) (t10 : Int) (t11 : Int) => x122 k k122_1003 (t122_1003 slices size t9 t10 t11)) (fun (newslices : List Int) (t25 : List (List Int)) (t26 : Int) (t27 : Int) => x122 k k122_1011 (t122_1011 newslices t25 t26 t27)) slices size t9 t10 t11 := by kernel_rfl
theorem e122_1011 (k : Nat) (newslices : List Int) (t25 : List (List Int)) (t26 : Int) (t27 : Int) : x122 (k + 1) k122_1011 (t122_1011 newslices t25 t26 t27) = F122_1011 k (fun (slices : List (List Int)) (size : Int) (t9 : List (List Int)) (t10 : Int) (t11 : Int) => x122 k k122_1003 (t122_1003 slices size t9 t10 t11)) (fun (newslices : List Int) (t25 : List (List Int)) (t26 : Int) (t27 : Int) => x122 k k122_1011 (t122_1011 newslices t25 t26 t27)) newslices t25 t26 t27 := by kernel_rfl
theorem q122 : ∀ k : Nat, ((fun (slices : List (List Int)) (size : Int) (t9 : List (List Int)) (t10 : Int) (t11 : Int) => x122 k k122_1003 (t122_1003 slices size t9 t10 t11)), (fun (newslices : List Int) (t25 : List (List Int)) (t26 : Int) (t27 : Int) => x122 k k122_1011 (t122_1011 newslices t25 t26 t27))) = l122 k
  | 0 => rfl
  | k + 1 => by
    have h := q122 k
    show _ = (F122_1003 k ((l122 k).1) ((l122 k).2), F122_1011 k ((l122 k).1) ((l122 k).2))
    rw [← h]
    exact (Prod.ext (funext fun slices => funext fun size => funext fun t9 => funext fun t10 => funext fun t11 => e122_1003 k slices size t9 t10 t11) (funext fun newslices => funext fun t25 => funext fun t26 => funext fun t27 => e122_1011 k newslices t25 t26 t27))
theorem w122 (k : Nat) (slices : List (List (Int))) : runFn ti (envOf env44) 36 h122 (finT ti true Go.Proofs.Try.f122.results.toList [(.slice 3 (.int .i64), false)] (.slice 3 (.int .i64))) k (bodyOf Go.Proofs.Try.f122) (initS 0 [.slc 22 (.slice 3 (.int .i64)) slices]) = F122 k (fun (slices : List (List Int)) (size : Int) (t9 : List (List Int)) (t10 : Int) (t11 : Int) => x122 k k122_1003 (t122_1003 slices size t9 t10 t11)) (fun (newslices : List Int) (t25 : List (List Int)) (t26 : Int) (t27 : Int) => x122 k k122_1011 (t122_1011 newslices t25 t26 t27)) slices := by kernel_rfl
theorem v122 (k : Nat) (slices : List (List (Int))) : runFn ti (envOf env44) 36 h122 (finT ti true Go.Proofs.Try.f122.results.toList [(.slice 3 (.int .i64), false)] (.slice 3 (.int .i64))) k (bodyOf Go.Proofs.Try.f122) (initS 0 [.slc 22 (.slice 3 (.int .i64)) slices]) = f122 k slices := by
  rw [w122]
  have h := q122 k
  unfold f122
  rw [← h]
theorem m122 : Meets Go.Proofs.Try.prog 122 s122 := meets_of_run tiOk env44_ok mo Go.Proofs.Try.func122 (body := bodyOf Go.Proofs.Try.f122) (by kernel_rfl) (N := 36) (by kernel_rfl) (hs := h122) (by
  intro k xs r h
  unfold s122 at h
  dsimp only at h
  split at h
  · exact ⟨Nat.le_of_ble_eq_true rfl, (v122 k _).trans h⟩
  · cases h)
theorem env45_ok : EnvOk Go.Proofs.Try.prog (envOf env45) := envOf_cons m122 Go.Proofs.Try.func122 (by kernel_rfl) (by kernel_rfl) env44_ok

-- impl.boxOf
def h106 : Hints := [(1002, .lab [(6, .box 32 [.v, .v, .v]), (8, .box 32 [.v, .own 3 (Ty.int IntKind.i64), .own 3 (Ty.int IntKind.i64)])]), (1008, .lab [(6, .box 32 [.v, .v, .v]), (8, .box 32 [.v, .own 3 (Ty.int IntKind.i64), .own 3 (Ty.int IntKind.i64)]), (10, .one (.own 3 (Ty.int IntKind.i64))), (39, .rbox 22 [.own 3 (.int .i64), .own 3 (.int .i64)]), (40, .one (.v)), (41, .one (.v)), (46, .one (.v)), (47, .one (.v))]), (1005, .unr 3)]
noncomputable def F106_1002 (k : Nat) (rec1002 : Int → Int → List Int → List Int → Option ((Int × (List (Int)) × List (Int)) × Bool)) (rec11008 : Int → Int → List Int → List Int → Int → Int → Option ((Int × (List (Int)) × List (Int)) × Bool)) (rec21008 : Int → Int → List Int → List Int → Int → Int → Option ((Int × (List (Int)) × List (Int)) × Bool)) (t6s_0 : Int) (bs_0 : Int) (bs : List Int) (bs' : List Int) : Option ((Int × (List (Int)) × List (Int)) × Bool) :=
  bif decide (0 < bs_0) then
    (f122 k [bs, bs']).bind fun r0 =>
    (f121_123 k r0).bind fun r1 =>
    bif !r1 then
      rec11008 t6s_0 (IntKind.wrap IntKind.i64 (bs_0 - 1)) bs bs' ((↑(List.length bs) : Int)) (0)
    else
      (f60 k (bs_0, bs, bs')).bind fun r2 =>
      bif !r2 then
        some (((0, [], []), false))
      else
        some (((bs_0, bs, bs'), true))
  else
    (f60 k (bs_0, bs, bs')).bind fun r3 =>
    bif !r3 then
      some (((0, [], []), false))
    else
      some (((bs_0, bs, bs'), true))
noncomputable def F106_11008 (k : Nat) (rec1002 : Int → Int → List Int → List Int → Option ((Int × (List (Int)) × List (Int)) × Bool)) (rec11008 : Int → Int → List Int → List Int → Int → Int → Option ((Int × (List (Int)) × List (Int)) × Bool)) (rec21008 : Int → Int → List Int → List Int → Int → Int → Option ((Int × (List (Int)) × List (Int)) × Bool)) (t6s_0 : Int) (bs_0 : Int) (bs : List Int) (bs' : List Int) (t46 : Int) (t47 : Int) : Option ((Int × (List (Int)) × List (Int)) × Bool) :=
  bif decide (t47 < t46) then
    bif boundA t47 (List.length bs) then
      bif Nat.blt (Int.toNat t47) (List.length bs) then
        bif boundA t47 (List.length bs) then
          bif Nat.blt (Int.toNat t47) (List.length bs) then
            rec11008 t6s_0 bs_0 (List.set bs (Int.toNat t47) (IntKind.wrap IntKind.i64 (Int.tdiv (List.getD bs (Int.toNat t47) 0) 2))) bs' t46 (IntKind.wrap IntKind.i64 (t47 + 1))
          else
            none
        else
          none
      else
        none
    else
      none
  else
    rec21008 t6s_0 bs_0 bs bs' ((↑(List.length bs') : Int)) (0)
noncomputable def F106_21008 (k : Nat) (rec1002 : Int → Int → List Int → List Int → Option ((Int × (List (Int)) × List (Int)) × Bool)) (rec11008 : Int → Int → List Int → List Int → Int → Int → Option ((Int × (List (Int)) × List (Int)) × Bool)) (rec21008 : Int → Int → List Int → List Int → Int → Int → Option ((Int × (List (Int)) × List (Int)) × Bool)) (t6s_0 : Int) (bs_0 : Int) (bs : List Int) (bs' : List Int) (t46 : Int) (t47 : Int) : Option ((Int × (List (Int)) × List (Int)) × Bool) :=
  bif decide (t47 < t46) then
    bif boundA t47 (List.length bs') then
      bif Nat.blt (Int.toNat t47) (List.length bs') then
        bif boundA t47 (List.length bs') then
          bif Nat.blt (Int.toNat t47) (List.length bs') then
            rec21008 t6s_0 bs_0 bs (List.set bs' (Int.toNat t47) (IntKind.wrap IntKind.i64 (Int.tdiv (List.getD bs' (Int.toNat t47) 0) 2))) t46 (IntKind.wrap IntKind.i64 (t47 + 1))
          else
            none
        else
          none
      else
        none
    else
      none
  else
    rec1002 t6s_0 bs_0 bs bs'
noncomputable def F106 (k : Nat) (rec1002 : Int → Int → List Int → List Int → Option ((Int × (List (Int)) × List (Int)) × Bool)) (rec11008 : Int → Int → List Int → List Int → Int → Int → Option ((Int × (List (Int)) × List (Int)) × Bool)) (rec21008 : Int → Int → List Int → List Int → Int → Int → Option ((Int × (List (Int)) × List (Int)) × Bool)) (k_ : Int) (low : List (Int)) (high : List (Int)) : Option ((Int × (List (Int)) × List (Int)) × Bool) :=
  (f105 k low).bind fun r0 =>
  (f105 k high).bind fun r1 =>
  rec1002 (0) k_ r0 r1
noncomputable def l106 : Nat → (Int → Int → List Int → List Int → Option ((Int × (List (Int)) × List (Int)) × Bool)) × (Int → Int → List Int → List Int → Int → Int → Option ((Int × (List (Int)) × List (Int)) × Bool)) × (Int → Int → List Int → List Int → Int → Int → Option ((Int × (List (Int)) × List (Int)) × Bool))
  | 0 => (fun _ _ _ _ => none, fun _ _ _ _ _ _ => none, fun _ _ _ _ _ _ => none)
  | k + 1 => (F106_1002 k ((l106 k).1) ((l106 k).2.1) ((l106 k).2.2), F106_11008 k ((l106 k).1) ((l106 k).2.1) ((l106 k).2.2), F106_21008 k ((l106 k).1) ((l106 k).2.1) ((l106 k).2.2))
noncomputable def f106 (k : Nat) (k_ : Int) (low : List (Int)) (high : List (Int)) : Option ((Int × (List (Int)) × List (Int)) × Bool) := F106 k ((l106 k).1) ((l106 k).2.1) ((l106 k).2.2) k_ low high
noncomputable def s106 : Spec := ⟨false, [(.pair (.int .i64) (.pair (.slice 3 (.int .i64)) (.slice 3 (.int .i64))), true), (.bool, false)], true, .pair (.pair (.int .i64) (.pair (.slice 3 (.int .i64)) (.slice 3 (.int .i64)))) (.bool), fun k xs => match xs with | [.int .i64 k_, .slc 3 (.int .i64) low, .slc 3 (.int .i64) high] => f106 k k_ low high | _ => none, false⟩
noncomputable def env46 : List (FuncId × Spec) := (106, s106) :: env45
noncomputable abbrev x106 := exec ti (envOf env45) 62 h106 (finT ti true Go.Proofs.Try.f106.results.toList [(.pair (.int .i64) (.pair (.slice 3 (.int .i64)) (.slice 3 (.int .i64))), true), (.bool, false)] (.pair (.pair (.int .i64) (.pair (.slice 3 (.int .i64)) (.slice 3 (.int .i64)))) (.bool)))
noncomputable def k106_1002 : List It := stackAt [.r, .r, .l, .b, .lb none] (bodyOf Go.Proofs.Try.f106) []
def t106_1002 (t6s_0 : Int) (bs_0 : Int) (bs : List Int) (bs' : List Int) : St := [(12, Cell.val (AVal.ptr 3 0)), (3, Cell.mem true 32 [AVal.int IntKind.i64 t6s_0, AVal.nilslc, AVal.nilslc]), (16, Cell.val (AVal.ptr 5 0)), (5, Cell.mem true 32 [AVal.int IntKind.i64 bs_0, AVal.ref 7 none, AVal.ref 9 none]), (7, Cell.row true 3 (Ty.int IntKind.i64) bs), (9, Cell.row true 3 (Ty.int IntKind.i64) bs')]
noncomputable def k106_11008 : List It := stackAt [.r, .r, .l, .b, .lb none, .r, .b, .r, .r, .b, .lb (some 2), .r, .r, .l, .b, .r, .r, .b, .lb none] (bodyOf Go.Proofs.Try.f106) []
def t106_11008 (t6s_0 : Int) (bs_0 : Int) (bs : List Int) (bs' : List Int) (t46 : Int) (t47 : Int) : St := [(12, Cell.val (AVal.ptr 3 0)), (3, Cell.mem true 32 [AVal.int IntKind.i64 t6s_0, AVal.nilslc, AVal.nilslc]), (16, Cell.val (AVal.ptr 5 0)), (5, Cell.mem true 32 [AVal.int IntKind.i64 bs_0, AVal.ref 7 none, AVal.ref 9 none]), (7, Cell.row true 3 (Ty.int IntKind.i64) bs), (9, Cell.row true 3 (Ty.int IntKind.i64) bs'), (20, Cell.val (AVal.ref 7 none)), (78, Cell.val (AVal.ref 11 none)), (11, Cell.mem true 22 [AVal.ref 7 none, AVal.ref 9 none]), (80, Cell.val (AVal.int IntKind.i64 (Int.ofNat 2))), (82, Cell.val (AVal.int IntKind.i64 (Int.ofNat 0))), (92, Cell.val (AVal.int IntKind.i64 t46)), (94, Cell.val (AVal.int IntKind.i64 t47))]
noncomputable def k106_21008 : List It := stackAt [.r, .r, .l, .b, .lb none, .r, .b, .r, .r, .b, .lb (some 1), .r, .r, .l, .b, .r, .r, .b, .lb none] (bodyOf Go.Proofs.Try.f106) []
def t106_21008 (t6s_0 : Int) (bs_0 : Int) (bs : List Int) (bs' : List Int) (t46 : Int) (t47 : Int) : St := [(12, Cell.val (AVal.ptr 3 0)), (3, Cell.mem true 32 [AVal.int IntKind.i64 t6s_0, AVal.nilslc, AVal.nilslc]), (16, Cell.val (AVal.ptr 5 0)), (5, Cell.mem true 32 [AVal.int IntKind.i64 bs_0, AVal.ref 7 none, AVal.ref 9 none]), (7, Cell.row true 3 (Ty.int IntKind.i64) bs), (9, Cell.row true 3 (Ty.int IntKind.i64) bs'), (20, Cell.val (AVal.ref 9 none)), (78, Cell.val (AVal.ref 11 none)), (11, Cell.mem true 22 [AVal.ref 7 none, AVal.ref 9 none]), (80, Cell.val (AVal.int IntKind.i64 (Int.ofNat 2))), (82, Cell.val (AVal.int IntKind.i64 (Int.ofNat 1))), (92, Cell.val (AVal.int IntKind.i64 t46)), (94, Cell.val (AVal.int IntKind.i64 t47))]
theorem e106_1002 (k : Nat) (t6s_0 : Int) (bs_0 : Int) (bs : List Int) (bs' : List Int) : x106 (k + 1) k106_1002 (t106_1002 t6s_0 bs_0 bs bs') = F106_1002 k (fun (t6s_0 : Int) (bs_0 : Int) (bs : List Int) (bs' : List Int) => x106 k k106_1002 (t106_1002 t6s_0 bs_0 bs bs')) (fun (t6s_0 : Int) (bs_0 : Int) (bs : List Int) (bs' : List Int) (t46 : Int) (t47 : Int) => x106 k k106_11008 (t106_11008 t6s_0 bs_0 bs bs' t46 t47)) (fun (t6s_0 : Int) (bs_0 : Int) (bs : List Int) (bs' : List Int) (t46 : Int) (t47 : Int) => x106 k k106_21008 (t106_21008 t6s_0 bs_0 bs bs' t46 t47)) t6s_0 bs_0 bs bs' := by kernel_rfl
theorem e106_11008 (k : Nat) (t6s_0 : Int) (bs_0 : Int) (bs : List Int) (bs' : List Int) (t46 : Int) (t47 : Int) : x106 (k + 1) k106_11008 (t106_11008 t6s_0 bs_0 bs bs' t46 t47) = F106_11008 k (fun (t6s_0 : Int) (bs_0 : Int) (bs : List Int) (bs' : List Int) => x106 k k106_1002 (t106_1002 t6s_0 bs_0 bs bs')) (fun (t6s_0 : Int) (bs_0 : Int) (bs : List Int) (bs' : List Int) (t46 : Int) (t47 : Int) => x106 k k106_11008 (t106_11008 t6s_0 bs_0 bs bs' t46 t47)) (fun (t6s_0 : Int) (bs_0 : Int) (bs : List Int) (bs' : List Int) (t46 : Int) (t47 : Int) => x106 k k106_21008 (t106_21008 t6s_0 bs_0 bs bs' t46 t47)) t6s_0 bs_0 bs bs' t46 t47 := by kernel_rfl
theorem e106_21008 (k : Nat) (t6s_0 : Int) (bs_0 : Int) (bs : List Int) (bs' : List Int) (t46 : Int) (t47 : Int) : x106 (k + 1) k106_21008 (t106_21008 t6s_0 bs_0 bs bs' t46 t47) = F106_21008 k (fun (t6s_0 : Int) (bs_0 : Int) (bs : List Int) (bs' : List Int) => x106 k k106_1002 (t106_1002 t6s_0 bs_0 bs bs')) (fun (t6s_0 : Int) (bs_0 : Int) (bs : List Int) (bs' : List Int) (t46 : Int) (t47 : Int) => x106 k k106_11008 (t106_11008 t6s_0 bs_0 bs bs' t46 t47)) (fun (t6s_0 : Int) (bs_0 : Int) (bs : List Int) (bs' : List Int) (t46 : Int) (t47 : Int) => x106 k k106_21008 (t106_21008 t6s_0 bs_0 bs bs' t46 t47)) t6s_0 bs_0 bs bs' t46 t47 := by kernel_rfl
theorem q106 : ∀ k : Nat, ((fun (t6s_0 : Int) (bs_0 : Int) (bs : List Int) (bs' : List Int) => x106 k k106_1002 (t106_1002 t6s_0 bs_0 bs bs')), (fun (t6s_0 : Int) (bs_0 : Int) (bs : List Int) (bs' : List Int) (t46 : Int) (t47 : Int) => x106 k k106_11008 (t106_11008 t6s_0 bs_0 bs bs' t46 t47)), (fun (t6s_0 : Int) (bs_0 : Int) (bs : List Int) (bs' : List Int) (t46 : Int) (t47 : Int) => x106 k k106_21008 (t106_21008 t6s_0 bs_0 bs bs' t46 t47))) = l106 k
  | 0 => rfl
  | k + 1 => by
    have h := q106 k
    show _ = (F106_1002 k ((l106 k).1) ((l106 k).2.1) ((l106 k).2.2), F106_11008 k ((l106 k).1) ((l106 k).2.1) ((l106 k).2.2), F106_21008 k ((l106 k).1) ((l106 k).2.1) ((l106 k).2.2))
    rw [← h]
    exact (Prod.ext (funext fun t6s_0 => funext fun bs_0 => funext fun bs => funext fun bs' => e106_1002 k t6s_0 bs_0 bs bs') (Prod.ext (funext fun t6s_0 => funext fun bs_0 => funext fun bs => funext fun bs' => funext fun t46 => funext fun t47 => e106_11008 k t6s_0 bs_0 bs bs' t46 t47) (funext fun t6s_0 => funext fun bs_0 => funext fun bs => funext fun bs' => funext fun t46 => funext fun t47 => e106_21008 k t6s_0 bs_0 bs bs' t46 t47)))
theorem w106 (k : Nat) (k_ : Int) (low : List (Int)) (high : List (Int)) : runFn ti (envOf env45) 62 h106 (finT ti true Go.Proofs.Try.f106.results.toList [(.pair (.int .i64) (.pair (.slice 3 (.int .i64)) (.slice 3 (.int .i64))), true), (.bool, false)] (.pair (.pair (.int .i64) (.pair (.slice 3 (.int .i64)) (.slice 3 (.int .i64)))) (.bool))) k (bodyOf Go.Proofs.Try.f106) (initS 0 [.int .i64 k_, .slc 3 (.int .i64) low, .slc 3 (.int .i64) high]) = F106 k (fun (t6s_0 : Int) (bs_0 : Int) (bs : List Int) (bs' : List Int) => x106 k k106_1002 (t106_1002 t6s_0 bs_0 bs bs')) (fun (t6s_0 : Int) (bs_0 : Int) (bs : List Int) (bs' : List Int) (t46 : Int) (t47 : Int) => x106 k k106_11008 (t106_11008 t6s_0 bs_0 bs bs' t46 t47)) (fun (t6s_0 : Int) (bs_0 : Int) (bs : List Int) (bs' : List Int) (t46 : Int) (t47 : Int) => x106 k k106_21008 (t106_21008 t6s_0 bs_0 bs bs' t46 t47)) k_ low high := by kernel_rfl
theorem v106 (k : Nat) (k_ : Int) (low : List (Int)) (high : List (Int)) : runFn ti (envOf env45) 62 h106 (finT ti true Go.Proofs.Try.f106.results.toList [(.pair (.int .i64) (.pair (.slice 3 (.int .i64)) (.slice 3 (.int .i64))), true), (.bool, false)] (.pair (.pair (.int .i64) (.pair (.slice 3 (.int .i64)) (.slice 3 (.int .i64)))) (.bool))) k (bodyOf Go.Proofs.Try.f106) (initS 0 [.int .i64 k_, .slc 3 (.int .i64) low, .slc 3 (.int .i64) high]) = f106 k k_ low high := by
  rw [w106]
  have h := q106 k
  unfold f106
  rw [← h]
theorem m106 : Meets Go.Proofs.Try.prog 106 s106 := meets_of_run tiOk env45_ok mo Go.Proofs.Try.func106 (body := bodyOf Go.Proofs.Try.f106) (by kernel_rfl) (N := 62) (by kernel_rfl) (hs := h106) (by
  intro k xs r h
  unfold s106 at h
  dsimp only at h
  split at h
  · exact ⟨Nat.le_of_ble_eq_true rfl, (v106 k _ _ _).trans h⟩
  · cases h)
theorem env46_ok : EnvOk Go.Proofs.Try.prog (envOf env46) := envOf_cons m106 Go.Proofs.Try.func106 (by kernel_rfl) (by kernel_rfl) env45_ok

-- impl.Box).halves
noncomputable def f72 (k : Nat) (L : Int × (List (Int)) × List (Int)) (i : Int) : Option ((List (Int × (List (Int)) × List (Int))) × Bool) :=
  (f104 k L.snd.fst 1).bind fun r0 =>
  (f104 k L.snd.snd 1).bind fun r1 =>
  bif boundA i (List.length L.snd.fst) then
    bif boundA i (List.length L.snd.snd) then
      (f105 k r1).bind fun r2 =>
      (f105 k r0).bind fun r3 =>
      bif boundA i (List.length r2) then
        bif Nat.blt (Int.toNat i) (List.length r2) then
          bif boundA i (List.length r3) then
            bif Nat.blt (Int.toNat i) (List.length r3) then
              (f106 k (IntKind.wrap IntKind.i64 (L.fst + 1)) r0 (List.set r2 (Int.toNat i) (IntKind.wrap IntKind.i64 (List.getD L.snd.fst (Int.toNat i) 0 + List.getD L.snd.snd (Int.toNat i) 0)))).bind fun r4 =>
              (f106 k (IntKind.wrap IntKind.i64 (L.fst + 1)) (List.set r3 (Int.toNat i) (IntKind.wrap IntKind.i64 (List.getD L.snd.fst (Int.toNat i) 0 + List.getD L.snd.snd (Int.toNat i) 0))) r1).bind fun r5 =>
              bif !r4.snd then
                some (([], false))
              else
                bif !r5.snd then
                  some (([], false))
                else
                  some (([(r4.fst.fst, r4.fst.snd.fst, r4.fst.snd.snd), (r5.fst.fst, r5.fst.snd.fst, r5.fst.snd.snd)], true))
            else
              none
          else
            none
        else
          none
      else
        none
    else
      none
  else
    none
noncomputable def s72 : Spec := ⟨false, [(.slice 32 (.pair (.int .i64) (.pair (.slice 3 (.int .i64)) (.slice 3 (.int .i64)))), false), (.bool, false)], true, .pair (.slice 32 (.pair (.int .i64) (.pair (.slice 3 (.int .i64)) (.slice 3 (.int .i64))))) (.bool), fun k xs => match xs with | [.fptr (.pair (.int .i64) (.pair (.slice 3 (.int .i64)) (.slice 3 (.int .i64)))) L, .int .i64 i] => f72 k L i | _ => none, false⟩
noncomputable def env47 : List (FuncId × Spec) := (72, s72) :: env46
theorem v72 (k : Nat) (L : Int × (List (Int)) × List (Int)) (i : Int) : runFn ti (envOf env46) 83 [] (finT ti true Go.Proofs.Try.f72.results.toList [(.slice 32 (.pair (.int .i64) (.pair (.slice 3 (.int .i64)) (.slice 3 (.int .i64)))), false), (.bool, false)] (.pair (.slice 32 (.pair (.int .i64) (.pair (.slice 3 (.int .i64)) (.slice 3 (.int .i64))))) (.bool))) k (bodyOf Go.Proofs.Try.f72) (initS 0 [.fptr (.pair (.int .i64) (.pair (.slice 3 (.int .i64)) (.slice 3 (.int .i64)))) L, .int .i64 i]) = f72 k L i := by kernel_rfl
theorem m72 : Meets Go.Proofs.Try.prog 72 s72 := meets_of_run tiOk env46_ok mo Go.Proofs.Try.func72 (body := bodyOf Go.Proofs.Try.f72) (by kernel_rfl) (N := 83) (by kernel_rfl) (hs := []) (by
  intro k xs r h
  unfold s72 at h
  dsimp only at h
  split at h
  · exact ⟨Nat.le_of_ble_eq_true rfl, (v72 k _ _).trans h⟩
  · cases h)
theorem env47_ok : EnvOk Go.Proofs.Try.prog (envOf env47) := envOf_cons m72 Go.Proofs.Try.func72 (by kernel_rfl) (by kernel_rfl) env46_ok

-- impl.copyBoxes
def h73 : Hints := [(1003, .lab [(3, .one (.own 32 (Ty.pair (Ty.int IntKind.i64) (Ty.pair (Ty.slice 3 (Ty.int IntKind.i64)) (Ty.slice 3 (Ty.int IntKind.i64)))))), (6, .one (.frz 32 (Ty.pair (Ty.int IntKind.i64) (Ty.pair (Ty.slice 3 (Ty.int IntKind.i64)) (Ty.slice 3 (Ty.int IntKind.i64)))))), (7, .one (.v)), (8, .one (.v))])]
noncomputable def F73_1003 (k : Nat) (rec1003 : List (Int × List Int × List Int) → List (Int × List Int × List Int) → Int → Int → Option (List (Int × (List (Int)) × List (Int)))) (outs : List (Int × List Int × List Int)) (t6 : List (Int × List Int × List Int)) (t7 : Int) (t8 : Int) : Option (List (Int × (List (Int)) × List (Int))) :=
  bif decide (t8 < t7) then
    bif boundA t8 (List.length t6) then
      (f105 k (List.getD t6 (Int.toNat t8) (0, [], [])).snd.fst).bind fun r0 =>
      (f105 k (List.getD t6 (Int.toNat t8) (0, [], [])).snd.snd).bind fun r1 =>
      bif decide ((List.length outs + List.length [((List.getD t6 (Int.toNat t8) (0, [], [])).fst, r0, r1)]) * 56 ≤ 140737488355328) then
        rec1003 (outs ++ [((List.getD t6 (Int.toNat t8) (0, [], [])).fst, r0, r1)]) t6 t7 (IntKind.wrap IntKind.i64 (t8 + 1))
      else
        none
    else
      none
  else
    some outs
noncomputable def F73 (k : Nat) (rec1003 : List (Int × List Int × List Int) → List (Int × List Int × List Int) → Int → Int → Option (List (Int × (List (Int)) × List (Int)))) (l : List (Int × (List (Int)) × List (Int))) : Option (List (Int × (List (Int)) × List (Int))) :=
  rec1003 ([]) l ((↑(List.length l) : Int)) (0)
noncomputable def l73 : Nat → (List (Int × List Int × List Int) → List (Int × List Int × List Int) → Int → Int → Option (List (Int × (List (Int)) × List (Int))))
  | 0 => fun _ _ _ _ => none
  | k + 1 => F73_1003 k (l73 k)
noncomputable def f73 (k : Nat) (l : List (Int × (List (Int)) × List (Int))) : Option (List (Int × (List (Int)) × List (Int))) := F73 k (l73 k) l
noncomputable def s73 : Spec := ⟨false, [(.slice 32 (.pair (.int .i64) (.pair (.slice 3 (.int .i64)) (.slice 3 (.int .i64)))), false)], true, .slice 32 (.pair (.int .i64) (.pair (.slice 3 (.int .i64)) (.slice 3 (.int .i64)))), fun k xs => match xs with | [.slc 32 (.pair (.int .i64) (.pair (.slice 3 (.int .i64)) (.slice 3 (.int .i64)))) l] => f73 k l | _ => none, false⟩
noncomputable def env48 : List (FuncId × Spec) := (73, s73) :: env47
noncomputable abbrev x73 := exec ti (envOf env47) 26 h73 (finT ti true Go.Proofs.Try.f73.results.toList [(.slice 32 (.pair (.int .i64) (.pair (.slice 3 (.int .i64)) (.slice 3 (.int .i64)))), false)] (.slice 32 (.pair (.int .i64) (.pair (.slice 3 (.int .i64)) (.slice 3 (.int .i64))))))
noncomputable def k73_1003 : List It := stackAt [.r, .r, .l, .r, .b, .lb none] (bodyOf Go.Proofs.Try.f73) []
def t73_1003 (outs : List (Int × List Int × List Int)) (t6 : List (Int × List Int × List Int)) (t7 : Int) (t8 : Int) : St := [(6, Cell.val (AVal.ref 3 none)), (3, Cell.row true 32 (Ty.pair (Ty.int IntKind.i64) (Ty.pair (Ty.slice 3 (Ty.int IntKind.i64)) (Ty.slice 3 (Ty.int IntKind.i64)))) outs), (12, Cell.val (AVal.slc 32 (Ty.pair (Ty.int IntKind.i64) (Ty.pair (Ty.slice 3 (Ty.int IntKind.i64)) (Ty.slice 3 (Ty.int IntKind.i64)))) t6)), (14, Cell.val (AVal.int IntKind.i64 t7)), (16, Cell.val (AVal.int IntKind.i64 t8))]
theorem e73_1003 (k : Nat) (outs : List (Int × List Int × List Int)) (t6 : List (Int × List Int × List Int)) (t7 : Int) (t8 : Int) : x73 (k + 1) k73_1003 (t73_1003 outs t6 t7 t8) = F73_1003 k (fun (outs : List (Int × List Int × List Int)) (t6 : List (Int × List Int × List Int)) (t7 : Int) (t8 : Int) => x73 k k73_1003 (t73_1003 outs t6 t7 t8)) outs t6 t7 t8 := by kernel_rfl
theorem q73 : ∀ k : Nat, (fun (outs : List (Int × List Int × List Int)) (t6 : List (Int × List Int × List Int)) (t7 : Int) (t8 : Int) => x73 k k73_1003 (t73_1003 outs t6 t7 t8)) = l73 k
  | 0 => rfl
  | k + 1 => by
    have h := q73 k
    show _ = F73_1003 k (l73 k)
    rw [← h]
    exact (funext fun outs => funext fun t6 => funext fun t7 => funext fun t8 => e73_1003 k outs t6 t7 t8)
theorem w73 (k : Nat) (l : List (Int × (List (Int)) × List (Int))) : runFn ti (envOf env47) 26 h73 (finT ti true Go.Proofs.Try.f73.results.toList [(.slice 32 (.pair (.int .i64) (.pair (.slice 3 (.int .i64)) (.slice 3 (.int .i64)))), false)] (.slice 32 (.pair (.int .i64) (.pair (.slice 3 (.int .i64)) (.slice 3 (.int .i64)))))) k (bodyOf Go.Proofs.Try.f73) (initS 0 [.slc 32 (.pair (.int .i64) (.pair (.slice 3 (.int .i64)) (.slice 3 (.int .i64)))) l]) = F73 k (fun (outs : List (Int × List Int × List Int)) (t6 : List (Int × List Int × List Int)) (t7 : Int) (t8 : Int) => x73 k k73_1003 (t73_1003 outs t6 t7 t8)) l := by kernel_rfl
theorem v73 (k : Nat) (l : List (Int × (List (Int)) × List (Int))) : runFn ti (envOf env47) 26 h73 (finT ti true Go.Proofs.Try.f73.results.toList [(.slice 32 (.pair (.int .i64) (.pair (.slice 3 (.int .i64)) (.slice 3 (.int .i64)))), false)] (.slice 32 (.pair (.int .i64) (.pair (.slice 3 (.int .i64)) (.slice 3 (.int .i64)))))) k (bodyOf Go.Proofs.Try.f73) (initS 0 [.slc 32 (.pair (.int .i64) (.pair (.slice 3 (.int .i64)) (.slice 3 (.int .i64)))) l]) = f73 k l := by
  rw [w73]
  have h := q73 k
  unfold f73
  rw [← h]
theorem m73 : Meets Go.Proofs.Try.prog 73 s73 := meets_of_run tiOk env47_ok mo Go.Proofs.Try.func73 (body := bodyOf Go.Proofs.Try.f73) (by kernel_rfl) (N := 26) (by kernel_rfl) (hs := h73) (by
  intro k xs r h
  unfold s73 at h
  dsimp only at h
  split at h
  · exact ⟨Nat.le_of_ble_eq_true rfl, (v73 k _).trans h⟩
  · cases h)
theorem env48_ok : EnvOk Go.Proofs.Try.prog (envOf env48) := envOf_cons m73 Go.Proofs.Try.func73 (by kernel_rfl) (by kernel_rfl) env47_ok

end Go.Proofs.YtkahcjnkmbbplaaE
