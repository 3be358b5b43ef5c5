/- Functions, by the engine; printed. -/
import Derived.Test.YtbaeikcfchiiaaaCT2
set_option maxRecDepth 100000
set_option maxHeartbeats 4000000
set_option linter.unusedVariables false
namespace Go.Proofs.YtbaeikcfchiiaaaE
-- spec.faBoth
def f135 (k : Nat) (p : List (Int)) (q : List (Int)) (x_N : Int) (x_K : Int) (i : Int) (k_ : Int) (fine : Int) : Option (Int) :=
  (f125 k p q x_N x_K i fine).bind fun r0 =>
  (f125 k p q x_N x_K k_ fine).bind fun r1 =>
  bif !decide (r1 = r0) then
    some (0)
  else
    some r0
def s135 : Spec := ⟨false, [(.int .i64, false)], true, .int .i64, fun k xs => match xs with | [.slc 3 (.int .i64) p, .slc 3 (.int .i64) q, .agg [.int .i64 x_N, .int .i64 x_K], .int .i64 i, .int .i64 k_, .int .i64 fine] => f135 k p q x_N x_K i k_ fine | _ => none⟩
def env25 : List (FuncId × Spec) := (135, s135) :: env24
theorem v135 (k : Nat) (p : List (Int)) (q : List (Int)) (x_N : Int) (x_K : Int) (i : Int) (k_ : Int) (fine : Int) : runFn ti (envOf env24) 29 [] (finT ti true Go.Proofs.Try.f135.results.toList [(.int .i64, false)] (.int .i64)) k (bodyOf Go.Proofs.Try.f135) (initS 0 [.slc 3 (.int .i64) p, .slc 3 (.int .i64) q, .agg [.int .i64 x_N, .int .i64 x_K], .int .i64 i, .int .i64 k_, .int .i64 fine]) = f135 k p q x_N x_K i k_ fine := by kernel_rfl
theorem m135 : Meets Go.Proofs.Try.prog 135 s135 := meets_of_run tiOk env24_ok mo Go.Proofs.Try.func135 (body := bodyOf Go.Proofs.Try.f135) (by kernel_rfl) (N := 29) (by kernel_rfl) (hs := []) (by
  intro k xs r h
  unfold s135 at h
  dsimp only at h
  split at h
  · exact ⟨Nat.le_of_ble_eq_true rfl, (v135 k _ _ _ _ _ _ _).trans h⟩
  · cases h)
theorem env25_ok : EnvOk Go.Proofs.Try.prog (envOf env25) := envOf_cons m135 Go.Proofs.Try.func135 (by kernel_rfl) (by kernel_rfl) env24_ok

-- spec.l1Most
def f165 (k : Nat) (a : Int) (b : Int) : Option (Int) :=
  bif decide (b < a) then
    some a
  else
    some b
def s165 : Spec := ⟨false, [(.int .i64, false)], true, .int .i64, fun k xs => match xs with | [.int .i64 a, .int .i64 b] => f165 k a b | _ => none⟩
def env26 : List (FuncId × Spec) := (165, s165) :: env25
theorem v165 (k : Nat) (a : Int) (b : Int) : runFn ti (envOf env25) 10 [] (finT ti true Go.Proofs.Try.f165.results.toList [(.int .i64, false)] (.int .i64)) k (bodyOf Go.Proofs.Try.f165) (initS 0 [.int .i64 a, .int .i64 b]) = f165 k a b := by kernel_rfl
theorem m165 : Meets Go.Proofs.Try.prog 165 s165 := meets_of_run tiOk env25_ok mo Go.Proofs.Try.func165 (body := bodyOf Go.Proofs.Try.f165) (by kernel_rfl) (N := 10) (by kernel_rfl) (hs := []) (by
  intro k xs r h
  unfold s165 at h
  dsimp only at h
  split at h
  · exact ⟨Nat.le_of_ble_eq_true rfl, (v165 k _ _).trans h⟩
  · cases h)
theorem env26_ok : EnvOk Go.Proofs.Try.prog (envOf env26) := envOf_cons m165 Go.Proofs.Try.func165 (by kernel_rfl) (by kernel_rfl) env25_ok

-- spec.sgProduct
def h248 : Hints := [(1005, .lab [(1, .one (.frz 3 (Ty.int IntKind.i64))), (5, .one (.own 3 (Ty.int IntKind.i64))), (25, .one (.frz 3 (Ty.int IntKind.i64))), (26, .one (.v)), (27, .one (.v))]), (1008, .lab [(1, .one (.frz 3 (Ty.int IntKind.i64))), (5, .one (.own 3 (Ty.int IntKind.i64))), (6, .one (.v)), (7, .one (.v)), (25, .one (.frz 3 (Ty.int IntKind.i64))), (26, .one (.v)), (27, .one (.v)), (32, .one (.frz 3 (Ty.int IntKind.i64))), (33, .one (.v)), (34, .one (.v))])]
def F248_1005 (k : Nat) (rec1005 : List Int → List Int → List Int → Int → Int → Option (List (Int))) (rec1008 : List Int → List Int → Int → Int → List Int → Int → Int → List Int → Int → Int → Option (List (Int))) (q : List Int) (outs : List Int) (t25 : List Int) (t26 : Int) (t27 : Int) : Option (List (Int)) :=
  bif decide (t27 < t26) then
    bif boundA t27 (List.length t25) then
      rec1008 q outs t27 (List.getD t25 (Int.toNat t27) 0) t25 t26 t27 q ((↑(List.length q) : Int)) (0)
    else
      none
  else
    some outs
def F248_1008 (k : Nat) (rec1005 : List Int → List Int → List Int → Int → Int → Option (List (Int))) (rec1008 : List Int → List Int → Int → Int → List Int → Int → Int → List Int → Int → Int → Option (List (Int))) (q : List Int) (outs : List Int) (i : Int) (a : Int) (t25 : List Int) (t26 : Int) (t27 : Int) (t32 : List Int) (t33 : Int) (t34 : Int) : Option (List (Int)) :=
  bif decide (t34 < t33) then
    bif boundA t34 (List.length t32) then
      bif boundA (IntKind.wrap IntKind.i64 (i + t34)) (List.length outs) then
        bif Nat.blt (Int.toNat (IntKind.wrap IntKind.i64 (i + t34))) (List.length outs) then
          bif boundA (IntKind.wrap IntKind.i64 (i + t34)) (List.length outs) then
            bif Nat.blt (Int.toNat (IntKind.wrap IntKind.i64 (i + t34))) (List.length outs) then
              rec1008 q (List.set outs (Int.toNat (IntKind.wrap IntKind.i64 (i + t34))) (IntKind.wrap IntKind.i64 (List.getD outs (Int.toNat (IntKind.wrap IntKind.i64 (i + t34))) 0 + IntKind.wrap IntKind.i64 (a * List.getD t32 (Int.toNat t34) 0)))) i a t25 t26 t27 t32 t33 (IntKind.wrap IntKind.i64 (t34 + 1))
            else
              none
          else
            none
        else
          none
      else
        none
    else
      none
  else
    rec1005 q outs t25 t26 (IntKind.wrap IntKind.i64 (t27 + 1))
def F248 (k : Nat) (rec1005 : List Int → List Int → List Int → Int → Int → Option (List (Int))) (rec1008 : List Int → List Int → Int → Int → List Int → Int → Int → List Int → Int → Int → Option (List (Int))) (p : List (Int)) (q : List (Int)) : Option (List (Int)) :=
  bif decide ((↑(List.length p) : Int) = 0) then
    some ([])
  else
    bif decide ((↑(List.length q) : Int) = 0) then
      some ([])
    else
      bif decide (0 ≤ IntKind.wrap IntKind.i64 (IntKind.wrap IntKind.i64 ((↑(List.length p) : Int) + (↑(List.length q) : Int)) - 1)) then
        bif decide (IntKind.wrap IntKind.i64 (IntKind.wrap IntKind.i64 ((↑(List.length p) : Int) + (↑(List.length q) : Int)) - 1) ≤ IntKind.wrap IntKind.i64 (IntKind.wrap IntKind.i64 ((↑(List.length p) : Int) + (↑(List.length q) : Int)) - 1)) then
          bif decide (IntKind.wrap IntKind.i64 (IntKind.wrap IntKind.i64 ((↑(List.length p) : Int) + (↑(List.length q) : Int)) - 1) * (↑8 : Int) ≤ 140737488355328) then
            rec1005 q (List.replicate (Int.toNat (IntKind.wrap IntKind.i64 (IntKind.wrap IntKind.i64 ((↑(List.length p) : Int) + (↑(List.length q) : Int)) - 1))) (dflt (Ty.int IntKind.i64))) p ((↑(List.length p) : Int)) (0)
          else
            none
        else
          none
      else
        none
def l248 : Nat → (List Int → List Int → List Int → Int → Int → Option (List (Int))) × (List Int → List Int → Int → Int → List Int → Int → Int → List Int → Int → Int → Option (List (Int)))
  | 0 => (fun _ _ _ _ _ => none, fun _ _ _ _ _ _ _ _ _ _ => none)
  | k + 1 => (F248_1005 k ((l248 k).1) ((l248 k).2), F248_1008 k ((l248 k).1) ((l248 k).2))
def f248 (k : Nat) (p : List (Int)) (q : List (Int)) : Option (List (Int)) := F248 k ((l248 k).1) ((l248 k).2) p q
def s248 : Spec := ⟨false, [(.slice 3 (.int .i64), false)], true, .slice 3 (.int .i64), fun k xs => match xs with | [.slc 3 (.int .i64) p, .slc 3 (.int .i64) q] => f248 k p q | _ => none⟩
def env27 : List (FuncId × Spec) := (248, s248) :: env26
noncomputable abbrev x248 := exec ti (envOf env26) 53 h248 (finT ti true Go.Proofs.Try.f248.results.toList [(.slice 3 (.int .i64), false)] (.slice 3 (.int .i64)))
noncomputable def k248_1005 : List It := stackAt [.r, .r, .r, .l, .r, .b, .lb none] (bodyOf Go.Proofs.Try.f248) []
def t248_1005 (q : List Int) (outs : List Int) (t25 : List Int) (t26 : Int) (t27 : Int) : St := [(2, Cell.val (AVal.slc 3 (Ty.int IntKind.i64) q)), (10, Cell.val (AVal.ref 3 none)), (3, Cell.row true 3 (Ty.int IntKind.i64) outs), (50, Cell.val (AVal.slc 3 (Ty.int IntKind.i64) t25)), (52, Cell.val (AVal.int IntKind.i64 t26)), (54, Cell.val (AVal.int IntKind.i64 t27))]
noncomputable def k248_1008 : List It := stackAt [.r, .r, .r, .l, .r, .b, .lb none, .r, .r, .l, .b, .r, .r, .b, .lb none] (bodyOf Go.Proofs.Try.f248) []
def t248_1008 (q : List Int) (outs : List Int) (i : Int) (a : Int) (t25 : List Int) (t26 : Int) (t27 : Int) (t32 : List Int) (t33 : Int) (t34 : Int) : St := [(2, Cell.val (AVal.slc 3 (Ty.int IntKind.i64) q)), (10, Cell.val (AVal.ref 3 none)), (3, Cell.row true 3 (Ty.int IntKind.i64) outs), (12, Cell.val (AVal.int IntKind.i64 i)), (14, Cell.val (AVal.int IntKind.i64 a)), (50, Cell.val (AVal.slc 3 (Ty.int IntKind.i64) t25)), (52, Cell.val (AVal.int IntKind.i64 t26)), (54, Cell.val (AVal.int IntKind.i64 t27)), (64, Cell.val (AVal.slc 3 (Ty.int IntKind.i64) t32)), (66, Cell.val (AVal.int IntKind.i64 t33)), (68, Cell.val (AVal.int IntKind.i64 t34))]
theorem e248_1005 (k : Nat) (q : List Int) (outs : List Int) (t25 : List Int) (t26 : Int) (t27 : Int) : x248 (k + 1) k248_1005 (t248_1005 q outs t25 t26 t27) = F248_1005 k (fun (q : List Int) (outs : List Int) (t25 : List Int) (t26 : Int) (t27 : Int) => x248 k k248_1005 (t248_1005 q outs t25 t26 t27)) (fun (q : List Int) (outs : List Int) (i : Int) (a : Int) (t25 : List Int) (t26 : Int) (t27 : Int) (t32 : List Int) (t33 : Int) (t34 : Int) => x248 k k248_1008 (t248_1008 q outs i a t25 t26 t27 t32 t33 t34)) q outs t25 t26 t27 := by kernel_rfl
theorem e248_1008 (k : Nat) (q : List Int) (outs : List Int) (i : Int) (a : Int) (t25 : List Int) (t26 : Int) (t27 : Int) (t32 : List Int) (t33 : Int) (t34 : Int) : x248 (k + 1) k248_1008 (t248_1008 q outs i a t25 t26 t27 t32 t33 t34) = F248_1008 k (fun (q : List Int) (outs : List Int) (t25 : List Int) (t26 : Int) (t27 : Int) => x248 k k248_1005 (t248_1005 q outs t25 t26 t27)) (fun (q : List Int) (outs : List Int) (i : Int) (a : Int) (t25 : List Int) (t26 : Int) (t27 : Int) (t32 : List Int) (t33 : Int) (t34 : Int) => x248 k k248_1008 (t248_1008 q outs i a t25 t26 t27 t32 t33 t34)) q outs i a t25 t26 t27 t32 t33 t34 := by kernel_rfl
theorem q248 : ∀ k : Nat, ((fun (q : List Int) (outs : List Int) (t25 : List Int) (t26 : Int) (t27 : Int) => x248 k k248_1005 (t248_1005 q outs t25 t26 t27)), (fun (q : List Int) (outs : List Int) (i : Int) (a : Int) (t25 : List Int) (t26 : Int) (t27 : Int) (t32 : List Int) (t33 : Int) (t34 : Int) => x248 k k248_1008 (t248_1008 q outs i a t25 t26 t27 t32 t33 t34))) = l248 k
  | 0 => rfl
  | k + 1 => by
    have h := q248 k
    show _ = (F248_1005 k ((l248 k).1) ((l248 k).2), F248_1008 k ((l248 k).1) ((l248 k).2))
    rw [← h]
    exact (Prod.ext (funext fun q => funext fun outs => funext fun t25 => funext fun t26 => funext fun t27 => e248_1005 k q outs t25 t26 t27) (funext fun q => funext fun outs => funext fun i => funext fun a => funext fun t25 => funext fun t26 => funext fun t27 => funext fun t32 => funext fun t33 => funext fun t34 => e248_1008 k q outs i a t25 t26 t27 t32 t33 t34))
theorem w248 (k : Nat) (p : List (Int)) (q : List (Int)) : runFn ti (envOf env26) 53 h248 (finT ti true Go.Proofs.Try.f248.results.toList [(.slice 3 (.int .i64), false)] (.slice 3 (.int .i64))) k (bodyOf Go.Proofs.Try.f248) (initS 0 [.slc 3 (.int .i64) p, .slc 3 (.int .i64) q]) = F248 k (fun (q : List Int) (outs : List Int) (t25 : List Int) (t26 : Int) (t27 : Int) => x248 k k248_1005 (t248_1005 q outs t25 t26 t27)) (fun (q : List Int) (outs : List Int) (i : Int) (a : Int) (t25 : List Int) (t26 : Int) (t27 : Int) (t32 : List Int) (t33 : Int) (t34 : Int) => x248 k k248_1008 (t248_1008 q outs i a t25 t26 t27 t32 t33 t34)) p q := by kernel_rfl
theorem v248 (k : Nat) (p : List (Int)) (q : List (Int)) : runFn ti (envOf env26) 53 h248 (finT ti true Go.Proofs.Try.f248.results.toList [(.slice 3 (.int .i64), false)] (.slice 3 (.int .i64))) k (bodyOf Go.Proofs.Try.f248) (initS 0 [.slc 3 (.int .i64) p, .slc 3 (.int .i64) q]) = f248 k p q := by
  rw [w248]
  have h := q248 k
  unfold f248
  rw [← h]
theorem m248 : Meets Go.Proofs.Try.prog 248 s248 := meets_of_run tiOk env26_ok mo Go.Proofs.Try.func248 (body := bodyOf Go.Proofs.Try.f248) (by kernel_rfl) (N := 53) (by kernel_rfl) (hs := h248) (by
  intro k xs r h
  unfold s248 at h
  dsimp only at h
  split at h
  · exact ⟨Nat.le_of_ble_eq_true rfl, (v248 k _ _).trans h⟩
  · cases h)
theorem env27_ok : EnvOk Go.Proofs.Try.prog (envOf env27) := envOf_cons m248 Go.Proofs.Try.func248 (by kernel_rfl) (by kernel_rfl) env26_ok

-- spec.deOver
def h199 : Hints := [(1007, .lab [(5, .one (.v)), (6, .one (.v)), (8, .one (.v)), (10, .one (.v)), (11, .one (.own 3 (Ty.int IntKind.i64))), (45, .one (.frz 3 (Ty.int IntKind.i64))), (46, .one (.v)), (47, .one (.v))]), (1011, .lab [(5, .one (.v)), (6, .one (.v)), (8, .one (.v)), (10, .one (.v)), (11, .one (.own 3 (Ty.int IntKind.i64))), (12, .one (.v)), (14, .one (.own 3 (Ty.int IntKind.i64))), (15, .one (.v)), (45, .one (.frz 3 (Ty.int IntKind.i64))), (46, .one (.v)), (47, .one (.v))]), (1017, .lab [(5, .one (.v)), (6, .one (.v)), (8, .one (.v)), (10, .one (.v)), (11, .one (.own 3 (Ty.int IntKind.i64))), (45, .one (.frz 3 (Ty.int IntKind.i64))), (46, .one (.v)), (47, .one (.v)), (74, .one (.own 3 (Ty.int IntKind.i64))), (75, .one (.v)), (76, .one (.v))])]
def F199_1007 (k : Nat) (rec1007 : Int → Int → Int → Int → List Int → List Int → Int → Int → Option (List (Int))) (rec1011 : Int → Int → Int → Int → List Int → Int → List Int → Int → List Int → Int → Int → Option (List (Int))) (rec1017 : Int → Int → Int → Int → List Int → List Int → Int → Int → List Int → Int → Int → Option (List (Int))) (t : Int) (o : Int) (r : Int) (a : Int) (ys : List Int) (t45 : List Int) (t46 : Int) (t47 : Int) : Option (List (Int)) :=
  bif decide (t47 < t46) then
    bif boundA t47 (List.length t45) then
      rec1011 t o r a ys t47 ([List.getD t45 (Int.toNat t47) 0]) (0) t45 t46 t47
    else
      none
  else
    some ys
def F199_1011 (k : Nat) (rec1007 : Int → Int → Int → Int → List Int → List Int → Int → Int → Option (List (Int))) (rec1011 : Int → Int → Int → Int → List Int → Int → List Int → Int → List Int → Int → Int → Option (List (Int))) (rec1017 : Int → Int → Int → Int → List Int → List Int → Int → Int → List Int → Int → Int → Option (List (Int))) (t : Int) (o : Int) (r : Int) (a : Int) (ys : List Int) (t12 : Int) (t14s : List Int) (t15 : Int) (t45 : List Int) (t46 : Int) (t47 : Int) : Option (List (Int)) :=
  bif decide (t15 < a) then
    bif decide (t15 < t12) then
      (f248 k t14s [o, r]).bind fun r0 =>
      rec1011 t o r a ys t12 r0 (IntKind.wrap IntKind.i64 (t15 + 1)) t45 t46 t47
    else
      (f90 k t).bind fun r1 =>
      (f90 k t).bind fun r2 =>
      (f248 k t14s [r1, r2]).bind fun r3 =>
      rec1011 t o r a ys t12 r3 (IntKind.wrap IntKind.i64 (t15 + 1)) t45 t46 t47
  else
    rec1017 t o r a ys t45 t46 t47 t14s ((↑(List.length t14s) : Int)) (0)
def F199_1017 (k : Nat) (rec1007 : Int → Int → Int → Int → List Int → List Int → Int → Int → Option (List (Int))) (rec1011 : Int → Int → Int → Int → List Int → Int → List Int → Int → List Int → Int → Int → Option (List (Int))) (rec1017 : Int → Int → Int → Int → List Int → List Int → Int → Int → List Int → Int → Int → Option (List (Int))) (t : Int) (o : Int) (r : Int) (a : Int) (ys : List Int) (t45 : List Int) (t46 : Int) (t47 : Int) (t74s : List Int) (t75 : Int) (t76 : Int) : Option (List (Int)) :=
  bif decide (t76 < t75) then
    bif boundA t76 (List.length t74s) then
      bif Nat.blt (Int.toNat t76) (List.length t74s) then
        bif boundA t76 (List.length ys) then
          bif Nat.blt (Int.toNat t76) (List.length ys) then
            bif boundA t76 (List.length ys) then
              bif Nat.blt (Int.toNat t76) (List.length ys) then
                rec1017 t o r a (List.set ys (Int.toNat t76) (IntKind.wrap IntKind.i64 (List.getD ys (Int.toNat t76) 0 + List.getD t74s (Int.toNat t76) 0))) t45 t46 t47 t74s t75 (IntKind.wrap IntKind.i64 (t76 + 1))
              else
                none
            else
              none
          else
            none
        else
          none
      else
        none
    else
      none
  else
    rec1007 t o r a ys t45 t46 (IntKind.wrap IntKind.i64 (t47 + 1))
def F199 (k : Nat) (rec1007 : Int → Int → Int → Int → List Int → List Int → Int → Int → Option (List (Int))) (rec1011 : Int → Int → Int → Int → List Int → Int → List Int → Int → List Int → Int → Int → Option (List (Int))) (rec1017 : Int → Int → Int → Int → List Int → List Int → Int → Int → List Int → Int → Int → Option (List (Int))) (L : List (Int)) (i_Low_N : Int) (i_Low_K : Int) (i_High_N : Int) (i_High_K : Int) : Option (List (Int)) :=
  (f165 k i_Low_K i_High_K).bind fun r0 =>
  (f171 k i_Low_N i_Low_K r0).bind fun r1 =>
  (f171 k i_High_N i_High_K r0).bind fun r2 =>
  bif decide (0 ≤ IntKind.wrap IntKind.i64 (IntKind.wrap IntKind.i64 ((↑(List.length L) : Int) - 1) + 1)) then
    bif decide (IntKind.wrap IntKind.i64 (IntKind.wrap IntKind.i64 ((↑(List.length L) : Int) - 1) + 1) ≤ IntKind.wrap IntKind.i64 (IntKind.wrap IntKind.i64 ((↑(List.length L) : Int) - 1) + 1)) then
      bif decide (IntKind.wrap IntKind.i64 (IntKind.wrap IntKind.i64 ((↑(List.length L) : Int) - 1) + 1) * (↑8 : Int) ≤ 140737488355328) then
        rec1007 r0 (r1.fst) (r2.fst) (IntKind.wrap IntKind.i64 ((↑(List.length L) : Int) - 1)) (List.replicate (Int.toNat (IntKind.wrap IntKind.i64 (IntKind.wrap IntKind.i64 ((↑(List.length L) : Int) - 1) + 1))) (dflt (Ty.int IntKind.i64))) L ((↑(List.length L) : Int)) (0)
      else
        none
    else
      none
  else
    none
def l199 : Nat → (Int → Int → Int → Int → List Int → List Int → Int → Int → Option (List (Int))) × (Int → Int → Int → Int → List Int → Int → List Int → Int → List Int → Int → Int → Option (List (Int))) × (Int → Int → Int → Int → List Int → List Int → Int → Int → List Int → Int → Int → Option (List (Int)))
  | 0 => (fun _ _ _ _ _ _ _ _ => none, fun _ _ _ _ _ _ _ _ _ _ _ => none, fun _ _ _ _ _ _ _ _ _ _ _ => none)
  | k + 1 => (F199_1007 k ((l199 k).1) ((l199 k).2.1) ((l199 k).2.2), F199_1011 k ((l199 k).1) ((l199 k).2.1) ((l199 k).2.2), F199_1017 k ((l199 k).1) ((l199 k).2.1) ((l199 k).2.2))
def f199 (k : Nat) (L : List (Int)) (i_Low_N : Int) (i_Low_K : Int) (i_High_N : Int) (i_High_K : Int) : Option (List (Int)) := F199 k ((l199 k).1) ((l199 k).2.1) ((l199 k).2.2) L i_Low_N i_Low_K i_High_N i_High_K
def s199 : Spec := ⟨false, [(.slice 3 (.int .i64), false)], true, .slice 3 (.int .i64), fun k xs => match xs with | [.slc 3 (.int .i64) L, .agg [.int .i64 i_Low_N, .int .i64 i_Low_K, .int .i64 i_High_N, .int .i64 i_High_K]] => f199 k L i_Low_N i_Low_K i_High_N i_High_K | _ => none⟩
def env28 : List (FuncId × Spec) := (199, s199) :: env27
noncomputable abbrev x199 := exec ti (envOf env27) 91 h199 (finT ti true Go.Proofs.Try.f199.results.toList [(.slice 3 (.int .i64), false)] (.slice 3 (.int .i64)))
noncomputable def k199_1007 : List It := stackAt [.r, .r, .r, .r, .r, .r, .l, .r, .b, .lb none] (bodyOf Go.Proofs.Try.f199) []
def t199_1007 (t : Int) (o : Int) (r : Int) (a : Int) (ys : List Int) (t45 : List Int) (t46 : Int) (t47 : Int) : St := [(10, Cell.val (AVal.int IntKind.i64 t)), (12, Cell.val (AVal.int IntKind.i64 o)), (16, Cell.val (AVal.int IntKind.i64 r)), (20, Cell.val (AVal.int IntKind.i64 a)), (22, Cell.val (AVal.ref 3 none)), (3, Cell.row true 3 (Ty.int IntKind.i64) ys), (90, Cell.val (AVal.slc 3 (Ty.int IntKind.i64) t45)), (92, Cell.val (AVal.int IntKind.i64 t46)), (94, Cell.val (AVal.int IntKind.i64 t47))]
noncomputable def k199_1011 : List It := stackAt [.r, .r, .r, .r, .r, .r, .l, .r, .b, .lb none, .r, .r, .l, .b, .r, .r, .l, .r, .b, .lb none] (bodyOf Go.Proofs.Try.f199) []
def t199_1011 (t : Int) (o : Int) (r : Int) (a : Int) (ys : List Int) (t12 : Int) (t14s : List Int) (t15 : Int) (t45 : List Int) (t46 : Int) (t47 : Int) : St := [(10, Cell.val (AVal.int IntKind.i64 t)), (12, Cell.val (AVal.int IntKind.i64 o)), (16, Cell.val (AVal.int IntKind.i64 r)), (20, Cell.val (AVal.int IntKind.i64 a)), (22, Cell.val (AVal.ref 3 none)), (3, Cell.row true 3 (Ty.int IntKind.i64) ys), (24, Cell.val (AVal.int IntKind.i64 t12)), (28, Cell.val (AVal.ref 5 none)), (5, Cell.row true 3 (Ty.int IntKind.i64) t14s), (30, Cell.val (AVal.int IntKind.i64 t15)), (90, Cell.val (AVal.slc 3 (Ty.int IntKind.i64) t45)), (92, Cell.val (AVal.int IntKind.i64 t46)), (94, Cell.val (AVal.int IntKind.i64 t47))]
noncomputable def k199_1017 : List It := stackAt [.r, .r, .r, .r, .r, .r, .l, .r, .b, .lb none, .r, .r, .l, .b, .r, .r, .r, .r, .b, .lb none] (bodyOf Go.Proofs.Try.f199) []
def t199_1017 (t : Int) (o : Int) (r : Int) (a : Int) (ys : List Int) (t45 : List Int) (t46 : Int) (t47 : Int) (t74s : List Int) (t75 : Int) (t76 : Int) : St := [(10, Cell.val (AVal.int IntKind.i64 t)), (12, Cell.val (AVal.int IntKind.i64 o)), (16, Cell.val (AVal.int IntKind.i64 r)), (20, Cell.val (AVal.int IntKind.i64 a)), (22, Cell.val (AVal.ref 3 none)), (3, Cell.row true 3 (Ty.int IntKind.i64) ys), (90, Cell.val (AVal.slc 3 (Ty.int IntKind.i64) t45)), (92, Cell.val (AVal.int IntKind.i64 t46)), (94, Cell.val (AVal.int IntKind.i64 t47)), (148, Cell.val (AVal.ref 5 none)), (5, Cell.row true 3 (Ty.int IntKind.i64) t74s), (150, Cell.val (AVal.int IntKind.i64 t75)), (152, Cell.val (AVal.int IntKind.i64 t76))]
theorem e199_1007 (k : Nat) (t : Int) (o : Int) (r : Int) (a : Int) (ys : List Int) (t45 : List Int) (t46 : Int) (t47 : Int) : x199 (k + 1) k199_1007 (t199_1007 t o r a ys t45 t46 t47) = F199_1007 k (fun (t : Int) (o : Int) (r : Int) (a : Int) (ys : List Int) (t45 : List Int) (t46 : Int) (t47 : Int) => x199 k k199_1007 (t199_1007 t o r a ys t45 t46 t47)) (fun (t : Int) (o : Int) (r : Int) (a : Int) (ys : List Int) (t12 : Int) (t14s : List Int) (t15 : Int) (t45 : List Int) (t46 : Int) (t47 : Int) => x199 k k199_1011 (t199_1011 t o r a ys t12 t14s t15 t45 t46 t47)) (fun (t : Int) (o : Int) (r : Int) (a : Int) (ys : List Int) (t45 : List Int) (t46 : Int) (t47 : Int) (t74s : List Int) (t75 : Int) (t76 : Int) => x199 k k199_1017 (t199_1017 t o r a ys t45 t46 t47 t74s t75 t76)) t o r a ys t45 t46 t47 := by kernel_rfl
theorem e199_1011 (k : Nat) (t : Int) (o : Int) (r : Int) (a : Int) (ys : List Int) (t12 : Int) (t14s : List Int) (t15 : Int) (t45 : List Int) (t46 : Int) (t47 : Int) : x199 (k + 1) k199_1011 (t199_1011 t o r a ys t12 t14s t15 t45 t46 t47) = F199_1011 k (fun (t : Int) (o : Int) (r : Int) (a : Int) (ys : List Int) (t45 : List Int) (t46 : Int) (t47 : Int) => x199 k k199_1007 (t199_1007 t o r a ys t45 t46 t47)) (fun (t : Int) (o : Int) (r : Int) (a : Int) (ys : List Int) (t12 : Int) (t14s : List Int) (t15 : Int) (t45 : List Int) (t46 : Int) (t47 : Int) => x199 k k199_1011 (t199_1011 t o r a ys t12 t14s t15 t45 t46 t47)) (fun (t : Int) (o : Int) (r : Int) (a : Int) (ys : List Int) (t45 : List Int) (t46 : Int) (t47 : Int) (t74s : List Int) (t75 : Int) (t76 : Int) => x199 k k199_1017 (t199_1017 t o r a ys t45 t46 t47 t74s t75 t76)) t o r a ys t12 t14s t15 t45 t46 t47 := by kernel_rfl
theorem e199_1017 (k : Nat) (t : Int) (o : Int) (r : Int) (a : Int) (ys : List Int) (t45 : List Int) (t46 : Int) (t47 : Int) (t74s : List Int) (t75 : Int) (t76 : Int) : x199 (k + 1) k199_1017 (t199_1017 t o r a ys t45 t46 t47 t74s t75 t76) = F199_1017 k (fun (t : Int) (o : Int) (r : Int) (a : Int) (ys : List Int) (t45 : List Int) (t46 : Int) (t47 : Int) => x199 k k199_1007 (t199_1007 t o r a ys t45 t46 t47)) (fun (t : Int) (o : Int) (r : Int) (a : Int) (ys : List Int) (t12 : Int) (t14s : List Int) (t15 : Int) (t45 : List Int) (t46 : Int) (t47 : Int) => x199 k k199_1011 (t199_1011 t o r a ys t12 t14s t15 t45 t46 t47)) (fun (t : Int) (o : Int) (r : Int) (a : Int) (ys : List Int) (t45 : List Int) (t46 : Int) (t47 : Int) (t74s : List Int) (t75 : Int) (t76 : Int) => x199 k k199_1017 (t199_1017 t o r a ys t45 t46 t47 t74s t75 t76)) t o r a ys t45 t46 t47 t74s t75 t76 := by kernel_rfl
theorem q199 : ∀ k : Nat, ((fun (t : Int) (o : Int) (r : Int) (a : Int) (ys : List Int) (t45 : List Int) (t46 : Int) (t47 : Int) => x199 k k199_1007 (t199_1007 t o r a ys t45 t46 t47)), (fun (t : Int) (o : Int) (r : Int) (a : Int) (ys : List Int) (t12 : Int) (t14s : List Int) (t15 : Int) (t45 : List Int) (t46 : Int) (t47 : Int) => x199 k k199_1011 (t199_1011 t o r a ys t12 t14s t15 t45 t46 t47)), (fun (t : Int) (o : Int) (r : Int) (a : Int) (ys : List Int) (t45 : List Int) (t46 : Int) (t47 : Int) (t74s : List Int) (t75 : Int) (t76 : Int) => x199 k k199_1017 (t199_1017 t o r a ys t45 t46 t47 t74s t75 t76))) = l199 k
  | 0 => rfl
  | k + 1 => by
    have h := q199 k
    show _ = (F199_1007 k ((l199 k).1) ((l199 k).2.1) ((l199 k).2.2), F199_1011 k ((l199 k).1) ((l199 k).2.1) ((l199 k).2.2), F199_1017 k ((l199 k).1) ((l199 k).2.1) ((l199 k).2.2))
    rw [← h]
    exact (Prod.ext (funext fun t => funext fun o => funext fun r => funext fun a => funext fun ys => funext fun t45 => funext fun t46 => funext fun t47 => e199_1007 k t o r a ys t45 t46 t47) (Prod.ext (funext fun t => funext fun o => funext fun r => funext fun a => funext fun ys => funext fun t12 => funext fun t14s => funext fun t15 => funext fun t45 => funext fun t46 => funext fun t47 => e199_1011 k t o r a ys t12 t14s t15 t45 t46 t47) (funext fun t => funext fun o => funext fun r => funext fun a => funext fun ys => funext fun t45 => funext fun t46 => funext fun t47 => funext fun t74s => funext fun t75 => funext fun t76 => e199_1017 k t o r a ys t45 t46 t47 t74s t75 t76)))
theorem w199 (k : Nat) (L : List (Int)) (i_Low_N : Int) (i_Low_K : Int) (i_High_N : Int) (i_High_K : Int) : runFn ti (envOf env27) 91 h199 (finT ti true Go.Proofs.Try.f199.results.toList [(.slice 3 (.int .i64), false)] (.slice 3 (.int .i64))) k (bodyOf Go.Proofs.Try.f199) (initS 0 [.slc 3 (.int .i64) L, .agg [.int .i64 i_Low_N, .int .i64 i_Low_K, .int .i64 i_High_N, .int .i64 i_High_K]]) = F199 k (fun (t : Int) (o : Int) (r : Int) (a : Int) (ys : List Int) (t45 : List Int) (t46 : Int) (t47 : Int) => x199 k k199_1007 (t199_1007 t o r a ys t45 t46 t47)) (fun (t : Int) (o : Int) (r : Int) (a : Int) (ys : List Int) (t12 : Int) (t14s : List Int) (t15 : Int) (t45 : List Int) (t46 : Int) (t47 : Int) => x199 k k199_1011 (t199_1011 t o r a ys t12 t14s t15 t45 t46 t47)) (fun (t : Int) (o : Int) (r : Int) (a : Int) (ys : List Int) (t45 : List Int) (t46 : Int) (t47 : Int) (t74s : List Int) (t75 : Int) (t76 : Int) => x199 k k199_1017 (t199_1017 t o r a ys t45 t46 t47 t74s t75 t76)) L i_Low_N i_Low_K i_High_N i_High_K := by kernel_rfl
theorem v199 (k : Nat) (L : List (Int)) (i_Low_N : Int) (i_Low_K : Int) (i_High_N : Int) (i_High_K : Int) : runFn ti (envOf env27) 91 h199 (finT ti true Go.Proofs.Try.f199.results.toList [(.slice 3 (.int .i64), false)] (.slice 3 (.int .i64))) k (bodyOf Go.Proofs.Try.f199) (initS 0 [.slc 3 (.int .i64) L, .agg [.int .i64 i_Low_N, .int .i64 i_Low_K, .int .i64 i_High_N, .int .i64 i_High_K]]) = f199 k L i_Low_N i_Low_K i_High_N i_High_K := by
  rw [w199]
  have h := q199 k
  unfold f199
  rw [← h]
theorem m199 : Meets Go.Proofs.Try.prog 199 s199 := meets_of_run tiOk env27_ok mo Go.Proofs.Try.func199 (body := bodyOf Go.Proofs.Try.f199) (by kernel_rfl) (N := 91) (by kernel_rfl) (hs := h199) (by
  intro k xs r h
  unfold s199 at h
  dsimp only at h
  split at h
  · exact ⟨Nat.le_of_ble_eq_true rfl, (v199 k _ _ _ _ _).trans h⟩
  · cases h)
theorem env28_ok : EnvOk Go.Proofs.Try.prog (envOf env28) := envOf_cons m199 Go.Proofs.Try.func199 (by kernel_rfl) (by kernel_rfl) env27_ok

-- spec.sgDerive
def h200 : Hints := [(1003, .lab [(3, .one (.own 3 (Ty.int IntKind.i64))), (6, .one (.frz 3 (Ty.int IntKind.i64))), (7, .one (.v)), (8, .one (.v))])]
def F200_1003 (k : Nat) (rec1003 : List Int → List Int → Int → Int → Option (List (Int))) (outs : List Int) (t6 : List Int) (t7 : Int) (t8 : Int) : Option (List (Int)) :=
  bif decide (t8 < t7) then
    bif boundA t8 (List.length t6) then
      bif decide (0 < t8) then
        bif decide ((List.length outs + List.length [IntKind.wrap IntKind.i64 (t8 * List.getD t6 (Int.toNat t8) 0)]) * 8 ≤ 140737488355328) then
          rec1003 (outs ++ [IntKind.wrap IntKind.i64 (t8 * List.getD t6 (Int.toNat t8) 0)]) t6 t7 (IntKind.wrap IntKind.i64 (t8 + 1))
        else
          none
      else
        rec1003 outs t6 t7 (IntKind.wrap IntKind.i64 (t8 + 1))
    else
      none
  else
    some outs
def F200 (k : Nat) (rec1003 : List Int → List Int → Int → Int → Option (List (Int))) (p : List (Int)) : Option (List (Int)) :=
  rec1003 ([]) p ((↑(List.length p) : Int)) (0)
def l200 : Nat → (List Int → List Int → Int → Int → Option (List (Int)))
  | 0 => fun _ _ _ _ => none
  | k + 1 => F200_1003 k (l200 k)
def f200 (k : Nat) (p : List (Int)) : Option (List (Int)) := F200 k (l200 k) p
def s200 : Spec := ⟨false, [(.slice 3 (.int .i64), false)], true, .slice 3 (.int .i64), fun k xs => match xs with | [.slc 3 (.int .i64) p] => f200 k p | _ => none⟩
def env29 : List (FuncId × Spec) := (200, s200) :: env28
noncomputable abbrev x200 := exec ti (envOf env28) 23 h200 (finT ti true Go.Proofs.Try.f200.results.toList [(.slice 3 (.int .i64), false)] (.slice 3 (.int .i64)))
noncomputable def k200_1003 : List It := stackAt [.r, .r, .l, .r, .b, .lb none] (bodyOf Go.Proofs.Try.f200) []
def t200_1003 (outs : List Int) (t6 : List Int) (t7 : Int) (t8 : Int) : St := [(6, Cell.val (AVal.ref 3 none)), (3, Cell.row true 3 (Ty.int IntKind.i64) outs), (12, Cell.val (AVal.slc 3 (Ty.int IntKind.i64) t6)), (14, Cell.val (AVal.int IntKind.i64 t7)), (16, Cell.val (AVal.int IntKind.i64 t8))]
theorem e200_1003 (k : Nat) (outs : List Int) (t6 : List Int) (t7 : Int) (t8 : Int) : x200 (k + 1) k200_1003 (t200_1003 outs t6 t7 t8) = F200_1003 k (fun (outs : List Int) (t6 : List Int) (t7 : Int) (t8 : Int) => x200 k k200_1003 (t200_1003 outs t6 t7 t8)) outs t6 t7 t8 := by kernel_rfl
theorem q200 : ∀ k : Nat, (fun (outs : List Int) (t6 : List Int) (t7 : Int) (t8 : Int) => x200 k k200_1003 (t200_1003 outs t6 t7 t8)) = l200 k
  | 0 => rfl
  | k + 1 => by
    have h := q200 k
    show _ = F200_1003 k (l200 k)
    rw [← h]
    exact (funext fun outs => funext fun t6 => funext fun t7 => funext fun t8 => e200_1003 k outs t6 t7 t8)
theorem w200 (k : Nat) (p : List (Int)) : runFn ti (envOf env28) 23 h200 (finT ti true Go.Proofs.Try.f200.results.toList [(.slice 3 (.int .i64), false)] (.slice 3 (.int .i64))) k (bodyOf Go.Proofs.Try.f200) (initS 0 [.slc 3 (.int .i64) p]) = F200 k (fun (outs : List Int) (t6 : List Int) (t7 : Int) (t8 : Int) => x200 k k200_1003 (t200_1003 outs t6 t7 t8)) p := by kernel_rfl
theorem v200 (k : Nat) (p : List (Int)) : runFn ti (envOf env28) 23 h200 (finT ti true Go.Proofs.Try.f200.results.toList [(.slice 3 (.int .i64), false)] (.slice 3 (.int .i64))) k (bodyOf Go.Proofs.Try.f200) (initS 0 [.slc 3 (.int .i64) p]) = f200 k p := by
  rw [w200]
  have h := q200 k
  unfold f200
  rw [← h]
theorem m200 : Meets Go.Proofs.Try.prog 200 s200 := meets_of_run tiOk env28_ok mo Go.Proofs.Try.func200 (body := bodyOf Go.Proofs.Try.f200) (by kernel_rfl) (N := 23) (by kernel_rfl) (hs := h200) (by
  intro k xs r h
  unfold s200 at h
  dsimp only at h
  split at h
  · exact ⟨Nat.le_of_ble_eq_true rfl, (v200 k _).trans h⟩
  · cases h)
theorem env29_ok : EnvOk Go.Proofs.Try.prog (envOf env29) := envOf_cons m200 Go.Proofs.Try.func200 (by kernel_rfl) (by kernel_rfl) env28_ok

-- spec.beSign
def h201 : Hints := [(1003, .lab [(3, .one (.v)), (10, .one (.frz 3 (Ty.int IntKind.i64))), (11, .one (.v)), (12, .one (.v))])]
def F201_1003 (k : Nat) (rec1003 : Int → List Int → Int → Int → Option (Int)) (sign : Int) (t10 : List Int) (t11 : Int) (t12 : Int) : Option (Int) :=
  bif decide (t12 < t11) then
    bif boundA t12 (List.length t10) then
      (f185 k (List.getD t10 (Int.toNat t12) 0)).bind fun r0 =>
      bif !decide (r0 = sign) then
        some (0)
      else
        rec1003 sign t10 t11 (IntKind.wrap IntKind.i64 (t12 + 1))
    else
      none
  else
    some sign
def F201 (k : Nat) (rec1003 : Int → List Int → Int → Int → Option (Int)) (l : List (Int)) : Option (Int) :=
  bif boundA 0 (List.length l) then
    (f185 k (List.getD l (Int.toNat 0) 0)).bind fun r0 =>
    rec1003 r0 l ((↑(List.length l) : Int)) (0)
  else
    none
def l201 : Nat → (Int → List Int → Int → Int → Option (Int))
  | 0 => fun _ _ _ _ => none
  | k + 1 => F201_1003 k (l201 k)
def f201 (k : Nat) (l : List (Int)) : Option (Int) := F201 k (l201 k) l
def s201 : Spec := ⟨false, [(.int .i64, false)], true, .int .i64, fun k xs => match xs with | [.slc 3 (.int .i64) l] => f201 k l | _ => none⟩
def env30 : List (FuncId × Spec) := (201, s201) :: env29
noncomputable abbrev x201 := exec ti (envOf env29) 22 h201 (finT ti true Go.Proofs.Try.f201.results.toList [(.int .i64, false)] (.int .i64))
noncomputable def k201_1003 : List It := stackAt [.r, .r, .l, .r, .b, .lb none] (bodyOf Go.Proofs.Try.f201) []
def t201_1003 (sign : Int) (t10 : List Int) (t11 : Int) (t12 : Int) : St := [(6, Cell.val (AVal.int IntKind.i64 sign)), (20, Cell.val (AVal.slc 3 (Ty.int IntKind.i64) t10)), (22, Cell.val (AVal.int IntKind.i64 t11)), (24, Cell.val (AVal.int IntKind.i64 t12))]
theorem e201_1003 (k : Nat) (sign : Int) (t10 : List Int) (t11 : Int) (t12 : Int) : x201 (k + 1) k201_1003 (t201_1003 sign t10 t11 t12) = F201_1003 k (fun (sign : Int) (t10 : List Int) (t11 : Int) (t12 : Int) => x201 k k201_1003 (t201_1003 sign t10 t11 t12)) sign t10 t11 t12 := by kernel_rfl
theorem q201 : ∀ k : Nat, (fun (sign : Int) (t10 : List Int) (t11 : Int) (t12 : Int) => x201 k k201_1003 (t201_1003 sign t10 t11 t12)) = l201 k
  | 0 => rfl
  | k + 1 => by
    have h := q201 k
    show _ = F201_1003 k (l201 k)
    rw [← h]
    exact (funext fun sign => funext fun t10 => funext fun t11 => funext fun t12 => e201_1003 k sign t10 t11 t12)
theorem w201 (k : Nat) (l : List (Int)) : runFn ti (envOf env29) 22 h201 (finT ti true Go.Proofs.Try.f201.results.toList [(.int .i64, false)] (.int .i64)) k (bodyOf Go.Proofs.Try.f201) (initS 0 [.slc 3 (.int .i64) l]) = F201 k (fun (sign : Int) (t10 : List Int) (t11 : Int) (t12 : Int) => x201 k k201_1003 (t201_1003 sign t10 t11 t12)) l := by kernel_rfl
theorem v201 (k : Nat) (l : List (Int)) : runFn ti (envOf env29) 22 h201 (finT ti true Go.Proofs.Try.f201.results.toList [(.int .i64, false)] (.int .i64)) k (bodyOf Go.Proofs.Try.f201) (initS 0 [.slc 3 (.int .i64) l]) = f201 k l := by
  rw [w201]
  have h := q201 k
  unfold f201
  rw [← h]
theorem m201 : Meets Go.Proofs.Try.prog 201 s201 := meets_of_run tiOk env29_ok mo Go.Proofs.Try.func201 (body := bodyOf Go.Proofs.Try.f201) (by kernel_rfl) (N := 22) (by kernel_rfl) (hs := h201) (by
  intro k xs r h
  unfold s201 at h
  dsimp only at h
  split at h
  · exact ⟨Nat.le_of_ble_eq_true rfl, (v201 k _).trans h⟩
  · cases h)
theorem env30_ok : EnvOk Go.Proofs.Try.prog (envOf env30) := envOf_cons m201 Go.Proofs.Try.func201 (by kernel_rfl) (by kernel_rfl) env29_ok

-- spec.faSlope
def f136 (k : Nat) (p : List (Int)) (q : List (Int)) (x_Low_N : Int) (x_Low_K : Int) (x_High_N : Int) (x_High_K : Int) (i : Int) (fine : Int) : Option (Int) :=
  (f93 k p q i fine).bind fun r0 =>
  (f200 k r0).bind fun r1 =>
  (f199 k r1 x_Low_N x_Low_K x_High_N x_High_K).bind fun r2 =>
  (f93 k p q (IntKind.wrap IntKind.i64 (i + 1)) fine).bind fun r3 =>
  (f200 k r3).bind fun r4 =>
  (f199 k r4 x_Low_N x_Low_K x_High_N x_High_K).bind fun r5 =>
  bif decide ((List.length r2 + List.length r5) * 8 ≤ 140737488355328) then
    (f201 k (r2 ++ r5)).bind fun r6 =>
    some r6
  else
    none
def s136 : Spec := ⟨false, [(.int .i64, false)], true, .int .i64, fun k xs => match xs with | [.slc 3 (.int .i64) p, .slc 3 (.int .i64) q, .agg [.int .i64 x_Low_N, .int .i64 x_Low_K, .int .i64 x_High_N, .int .i64 x_High_K], .int .i64 i, .int .i64 fine] => f136 k p q x_Low_N x_Low_K x_High_N x_High_K i fine | _ => none⟩
def env31 : List (FuncId × Spec) := (136, s136) :: env30
theorem v136 (k : Nat) (p : List (Int)) (q : List (Int)) (x_Low_N : Int) (x_Low_K : Int) (x_High_N : Int) (x_High_K : Int) (i : Int) (fine : Int) : runFn ti (envOf env30) 32 [] (finT ti true Go.Proofs.Try.f136.results.toList [(.int .i64, false)] (.int .i64)) k (bodyOf Go.Proofs.Try.f136) (initS 0 [.slc 3 (.int .i64) p, .slc 3 (.int .i64) q, .agg [.int .i64 x_Low_N, .int .i64 x_Low_K, .int .i64 x_High_N, .int .i64 x_High_K], .int .i64 i, .int .i64 fine]) = f136 k p q x_Low_N x_Low_K x_High_N x_High_K i fine := by kernel_rfl
theorem m136 : Meets Go.Proofs.Try.prog 136 s136 := meets_of_run tiOk env30_ok mo Go.Proofs.Try.func136 (body := bodyOf Go.Proofs.Try.f136) (by kernel_rfl) (N := 32) (by kernel_rfl) (hs := []) (by
  intro k xs r h
  unfold s136 at h
  dsimp only at h
  split at h
  · exact ⟨Nat.le_of_ble_eq_true rfl, (v136 k _ _ _ _ _ _ _ _).trans h⟩
  · cases h)
theorem env31_ok : EnvOk Go.Proofs.Try.prog (envOf env31) := envOf_cons m136 Go.Proofs.Try.func136 (by kernel_rfl) (by kernel_rfl) env30_ok

-- spec.faHolds
def f80 (k : Nat) (p : List (Int)) (q : List (Int)) (x_Low_N : Int) (x_Low_K : Int) (x_High_N : Int) (x_High_K : Int) (i : Int) (fine : Int) : Option (Bool) :=
  (f135 k p q x_Low_N x_Low_K i (IntKind.wrap IntKind.i64 (i + 1)) fine).bind fun r0 =>
  (f135 k p q x_High_N x_High_K i (IntKind.wrap IntKind.i64 (i + 1)) fine).bind fun r1 =>
  bif decide (IntKind.wrap IntKind.i64 (r0 * r1) < 0) then
    (f136 k p q x_Low_N x_Low_K x_High_N x_High_K i fine).bind fun r2 =>
    some (!decide (r2 = 0))
  else
    some false
def s80 : Spec := ⟨false, [(.bool, false)], true, .bool, fun k xs => match xs with | [.slc 3 (.int .i64) p, .slc 3 (.int .i64) q, .agg [.int .i64 x_Low_N, .int .i64 x_Low_K, .int .i64 x_High_N, .int .i64 x_High_K], .int .i64 i, .int .i64 fine] => f80 k p q x_Low_N x_Low_K x_High_N x_High_K i fine | _ => none⟩
def env32 : List (FuncId × Spec) := (80, s80) :: env31
theorem v80 (k : Nat) (p : List (Int)) (q : List (Int)) (x_Low_N : Int) (x_Low_K : Int) (x_High_N : Int) (x_High_K : Int) (i : Int) (fine : Int) : runFn ti (envOf env31) 40 [] (finT ti true Go.Proofs.Try.f80.results.toList [(.bool, false)] (.bool)) k (bodyOf Go.Proofs.Try.f80) (initS 0 [.slc 3 (.int .i64) p, .slc 3 (.int .i64) q, .agg [.int .i64 x_Low_N, .int .i64 x_Low_K, .int .i64 x_High_N, .int .i64 x_High_K], .int .i64 i, .int .i64 fine]) = f80 k p q x_Low_N x_Low_K x_High_N x_High_K i fine := by kernel_rfl
theorem m80 : Meets Go.Proofs.Try.prog 80 s80 := meets_of_run tiOk env31_ok mo Go.Proofs.Try.func80 (body := bodyOf Go.Proofs.Try.f80) (by kernel_rfl) (N := 40) (by kernel_rfl) (hs := []) (by
  intro k xs r h
  unfold s80 at h
  dsimp only at h
  split at h
  · exact ⟨Nat.le_of_ble_eq_true rfl, (v80 k _ _ _ _ _ _ _ _).trans h⟩
  · cases h)
theorem env32_ok : EnvOk Go.Proofs.Try.prog (envOf env32) := envOf_cons m80 Go.Proofs.Try.func80 (by kernel_rfl) (by kernel_rfl) env31_ok

-- spec.ivEnds
def h236 : Hints := [(1003, .lab [(2, .box 29 [.v, .v, .v, .v]), (3, .box 29 [.v, .v, .v, .v]), (13, .one (.frz 27 (Ty.pair (Ty.int IntKind.i64) (Ty.int IntKind.i64)))), (14, .one (.v)), (15, .one (.v))])]
def F236_1003 (k : Nat) (rec1003 : Int → Int → Int → Int → Int → Int → Int → Int → List (Int × Int) → Int → Int → Option ((Int × Int) × Int × Int)) (t2s_0 : Int) (t2s_1 : Int) (t2s_2 : Int) (t2s_3 : Int) (outs_0 : Int) (outs_1 : Int) (outs_2 : Int) (outs_3 : Int) (t13 : List (Int × Int)) (t14 : Int) (t15 : Int) : Option ((Int × Int) × Int × Int) :=
  bif decide (t15 < t14) then
    bif boundA t15 (List.length t13) then
      (f123 k (List.getD t13 (Int.toNat t15) (0, 0)).fst (List.getD t13 (Int.toNat t15) (0, 0)).snd outs_0 outs_1).bind fun r0 =>
      bif decide (r0 < 0) then
        (f123 k outs_2 outs_3 (List.getD t13 (Int.toNat t15) (0, 0)).fst (List.getD t13 (Int.toNat t15) (0, 0)).snd).bind fun r1 =>
        bif decide (r1 < 0) then
          rec1003 t2s_0 t2s_1 t2s_2 t2s_3 ((List.getD t13 (Int.toNat t15) (0, 0)).fst) ((List.getD t13 (Int.toNat t15) (0, 0)).snd) ((List.getD t13 (Int.toNat t15) (0, 0)).fst) ((List.getD t13 (Int.toNat t15) (0, 0)).snd) t13 t14 (IntKind.wrap IntKind.i64 (t15 + 1))
        else
          rec1003 t2s_0 t2s_1 t2s_2 t2s_3 ((List.getD t13 (Int.toNat t15) (0, 0)).fst) ((List.getD t13 (Int.toNat t15) (0, 0)).snd) outs_2 outs_3 t13 t14 (IntKind.wrap IntKind.i64 (t15 + 1))
      else
        (f123 k outs_2 outs_3 (List.getD t13 (Int.toNat t15) (0, 0)).fst (List.getD t13 (Int.toNat t15) (0, 0)).snd).bind fun r2 =>
        bif decide (r2 < 0) then
          rec1003 t2s_0 t2s_1 t2s_2 t2s_3 outs_0 outs_1 ((List.getD t13 (Int.toNat t15) (0, 0)).fst) ((List.getD t13 (Int.toNat t15) (0, 0)).snd) t13 t14 (IntKind.wrap IntKind.i64 (t15 + 1))
        else
          rec1003 t2s_0 t2s_1 t2s_2 t2s_3 outs_0 outs_1 outs_2 outs_3 t13 t14 (IntKind.wrap IntKind.i64 (t15 + 1))
    else
      none
  else
    some (((outs_0, outs_1), outs_2, outs_3))
def F236 (k : Nat) (rec1003 : Int → Int → Int → Int → Int → Int → Int → Int → List (Int × Int) → Int → Int → Option ((Int × Int) × Int × Int)) (l : List (Int × Int)) : Option ((Int × Int) × Int × Int) :=
  bif boundA 0 (List.length l) then
    bif boundA 0 (List.length l) then
      rec1003 (0) (0) (0) (0) ((List.getD l (Int.toNat 0) (0, 0)).fst) ((List.getD l (Int.toNat 0) (0, 0)).snd) ((List.getD l (Int.toNat 0) (0, 0)).fst) ((List.getD l (Int.toNat 0) (0, 0)).snd) l ((↑(List.length l) : Int)) (0)
    else
      none
  else
    none
def l236 : Nat → (Int → Int → Int → Int → Int → Int → Int → Int → List (Int × Int) → Int → Int → Option ((Int × Int) × Int × Int))
  | 0 => fun _ _ _ _ _ _ _ _ _ _ _ => none
  | k + 1 => F236_1003 k (l236 k)
def f236 (k : Nat) (l : List (Int × Int)) : Option ((Int × Int) × Int × Int) := F236 k (l236 k) l
def s236 : Spec := ⟨false, [(.pair (.pair (.int .i64) (.int .i64)) (.pair (.int .i64) (.int .i64)), true)], true, .pair (.pair (.int .i64) (.int .i64)) (.pair (.int .i64) (.int .i64)), fun k xs => match xs with | [.slc 27 (.pair (.int .i64) (.int .i64)) l] => f236 k l | _ => none⟩
def env33 : List (FuncId × Spec) := (236, s236) :: env32
noncomputable abbrev x236 := exec ti (envOf env32) 35 h236 (finT ti true Go.Proofs.Try.f236.results.toList [(.pair (.pair (.int .i64) (.int .i64)) (.pair (.int .i64) (.int .i64)), true)] (.pair (.pair (.int .i64) (.int .i64)) (.pair (.int .i64) (.int .i64))))
noncomputable def k236_1003 : List It := stackAt [.r, .r, .l, .r, .b, .lb none] (bodyOf Go.Proofs.Try.f236) []
def t236_1003 (t2s_0 : Int) (t2s_1 : Int) (t2s_2 : Int) (t2s_3 : Int) (outs_0 : Int) (outs_1 : Int) (outs_2 : Int) (outs_3 : Int) (t13 : List (Int × Int)) (t14 : Int) (t15 : Int) : St := [(4, Cell.val (AVal.ptr 3 0)), (3, Cell.mem true 29 [AVal.int IntKind.i64 t2s_0, AVal.int IntKind.i64 t2s_1, AVal.int IntKind.i64 t2s_2, AVal.int IntKind.i64 t2s_3]), (6, Cell.val (AVal.ptr 5 0)), (5, Cell.mem true 29 [AVal.int IntKind.i64 outs_0, AVal.int IntKind.i64 outs_1, AVal.int IntKind.i64 outs_2, AVal.int IntKind.i64 outs_3]), (26, Cell.val (AVal.slc 27 (Ty.pair (Ty.int IntKind.i64) (Ty.int IntKind.i64)) t13)), (28, Cell.val (AVal.int IntKind.i64 t14)), (30, Cell.val (AVal.int IntKind.i64 t15))]
theorem e236_1003 (k : Nat) (t2s_0 : Int) (t2s_1 : Int) (t2s_2 : Int) (t2s_3 : Int) (outs_0 : Int) (outs_1 : Int) (outs_2 : Int) (outs_3 : Int) (t13 : List (Int × Int)) (t14 : Int) (t15 : Int) : x236 (k + 1) k236_1003 (t236_1003 t2s_0 t2s_1 t2s_2 t2s_3 outs_0 outs_1 outs_2 outs_3 t13 t14 t15) = F236_1003 k (fun (t2s_0 : Int) (t2s_1 : Int) (t2s_2 : Int) (t2s_3 : Int) (outs_0 : Int) (outs_1 : Int) (outs_2 : Int) (outs_3 : Int) (t13 : List (Int × Int)) (t14 : Int) (t15 : Int) => x236 k k236_1003 (t236_1003 t2s_0 t2s_1 t2s_2 t2s_3 outs_0 outs_1 outs_2 outs_3 t13 t14 t15)) t2s_0 t2s_1 t2s_2 t2s_3 outs_0 outs_1 outs_2 outs_3 t13 t14 t15 := by kernel_rfl
theorem q236 : ∀ k : Nat, (fun (t2s_0 : Int) (t2s_1 : Int) (t2s_2 : Int) (t2s_3 : Int) (outs_0 : Int) (outs_1 : Int) (outs_2 : Int) (outs_3 : Int) (t13 : List (Int × Int)) (t14 : Int) (t15 : Int) => x236 k k236_1003 (t236_1003 t2s_0 t2s_1 t2s_2 t2s_3 outs_0 outs_1 outs_2 outs_3 t13 t14 t15)) = l236 k
  | 0 => rfl
  | k + 1 => by
    have h := q236 k
    show _ = F236_1003 k (l236 k)
    rw [← h]
    exact (funext fun t2s_0 => funext fun t2s_1 => funext fun t2s_2 => funext fun t2s_3 => funext fun outs_0 => funext fun outs_1 => funext fun outs_2 => funext fun outs_3 => funext fun t13 => funext fun t14 => funext fun t15 => e236_1003 k t2s_0 t2s_1 t2s_2 t2s_3 outs_0 outs_1 outs_2 outs_3 t13 t14 t15)
theorem w236 (k : Nat) (l : List (Int × Int)) : runFn ti (envOf env32) 35 h236 (finT ti true Go.Proofs.Try.f236.results.toList [(.pair (.pair (.int .i64) (.int .i64)) (.pair (.int .i64) (.int .i64)), true)] (.pair (.pair (.int .i64) (.int .i64)) (.pair (.int .i64) (.int .i64)))) k (bodyOf Go.Proofs.Try.f236) (initS 0 [.slc 27 (.pair (.int .i64) (.int .i64)) l]) = F236 k (fun (t2s_0 : Int) (t2s_1 : Int) (t2s_2 : Int) (t2s_3 : Int) (outs_0 : Int) (outs_1 : Int) (outs_2 : Int) (outs_3 : Int) (t13 : List (Int × Int)) (t14 : Int) (t15 : Int) => x236 k k236_1003 (t236_1003 t2s_0 t2s_1 t2s_2 t2s_3 outs_0 outs_1 outs_2 outs_3 t13 t14 t15)) l := by kernel_rfl
theorem v236 (k : Nat) (l : List (Int × Int)) : runFn ti (envOf env32) 35 h236 (finT ti true Go.Proofs.Try.f236.results.toList [(.pair (.pair (.int .i64) (.int .i64)) (.pair (.int .i64) (.int .i64)), true)] (.pair (.pair (.int .i64) (.int .i64)) (.pair (.int .i64) (.int .i64)))) k (bodyOf Go.Proofs.Try.f236) (initS 0 [.slc 27 (.pair (.int .i64) (.int .i64)) l]) = f236 k l := by
  rw [w236]
  have h := q236 k
  unfold f236
  rw [← h]
theorem m236 : Meets Go.Proofs.Try.prog 236 s236 := meets_of_run tiOk env32_ok mo Go.Proofs.Try.func236 (body := bodyOf Go.Proofs.Try.f236) (by kernel_rfl) (N := 35) (by kernel_rfl) (hs := h236) (by
  intro k xs r h
  unfold s236 at h
  dsimp only at h
  split at h
  · exact ⟨Nat.le_of_ble_eq_true rfl, (v236 k _).trans h⟩
  · cases h)
theorem env33_ok : EnvOk Go.Proofs.Try.prog (envOf env33) := envOf_cons m236 Go.Proofs.Try.func236 (by kernel_rfl) (by kernel_rfl) env32_ok

-- spec.ivCommon
def f180 (k : Nat) (i_Low_N : Int) (i_Low_K : Int) (i_High_N : Int) (i_High_K : Int) (k__Low_N : Int) (k__Low_K : Int) (k__High_N : Int) (k__High_K : Int) : Option (((Int × Int) × Int × Int) × Bool) :=
  (f236 k [(i_Low_N, i_Low_K), (k__Low_N, k__Low_K)]).bind fun r0 =>
  (f236 k [(i_High_N, i_High_K), (k__High_N, k__High_K)]).bind fun r1 =>
  (f123 k r0.snd.fst r0.snd.snd r1.fst.fst r1.fst.snd).bind fun r2 =>
  bif decide (0 < r2) then
    some ((((0, 0), 0, 0), false))
  else
    some ((((r0.snd.fst, r0.snd.snd), r1.fst.fst, r1.fst.snd), true))
def s180 : Spec := ⟨false, [(.pair (.pair (.int .i64) (.int .i64)) (.pair (.int .i64) (.int .i64)), true), (.bool, false)], true, .pair (.pair (.pair (.int .i64) (.int .i64)) (.pair (.int .i64) (.int .i64))) (.bool), fun k xs => match xs with | [.agg [.int .i64 i_Low_N, .int .i64 i_Low_K, .int .i64 i_High_N, .int .i64 i_High_K], .agg [.int .i64 k__Low_N, .int .i64 k__Low_K, .int .i64 k__High_N, .int .i64 k__High_K]] => f180 k i_Low_N i_Low_K i_High_N i_High_K k__Low_N k__Low_K k__High_N k__High_K | _ => none⟩
def env34 : List (FuncId × Spec) := (180, s180) :: env33
theorem v180 (k : Nat) (i_Low_N : Int) (i_Low_K : Int) (i_High_N : Int) (i_High_K : Int) (k__Low_N : Int) (k__Low_K : Int) (k__High_N : Int) (k__High_K : Int) : runFn ti (envOf env33) 30 [] (finT ti true Go.Proofs.Try.f180.results.toList [(.pair (.pair (.int .i64) (.int .i64)) (.pair (.int .i64) (.int .i64)), true), (.bool, false)] (.pair (.pair (.pair (.int .i64) (.int .i64)) (.pair (.int .i64) (.int .i64))) (.bool))) k (bodyOf Go.Proofs.Try.f180) (initS 0 [.agg [.int .i64 i_Low_N, .int .i64 i_Low_K, .int .i64 i_High_N, .int .i64 i_High_K], .agg [.int .i64 k__Low_N, .int .i64 k__Low_K, .int .i64 k__High_N, .int .i64 k__High_K]]) = f180 k i_Low_N i_Low_K i_High_N i_High_K k__Low_N k__Low_K k__High_N k__High_K := by kernel_rfl
theorem m180 : Meets Go.Proofs.Try.prog 180 s180 := meets_of_run tiOk env33_ok mo Go.Proofs.Try.func180 (body := bodyOf Go.Proofs.Try.f180) (by kernel_rfl) (N := 30) (by kernel_rfl) (hs := []) (by
  intro k xs r h
  unfold s180 at h
  dsimp only at h
  split at h
  · exact ⟨Nat.le_of_ble_eq_true rfl, (v180 k _ _ _ _ _ _ _ _).trans h⟩
  · cases h)
theorem env34_ok : EnvOk Go.Proofs.Try.prog (envOf env34) := envOf_cons m180 Go.Proofs.Try.func180 (by kernel_rfl) (by kernel_rfl) env33_ok

-- spec.faTrack
def h117 : Hints := [(1004, .lab [(0, .one (.frz 3 (Ty.int IntKind.i64))), (1, .one (.frz 3 (Ty.int IntKind.i64))), (2, .one (.frz 29 (Ty.pair (Ty.pair (Ty.int IntKind.i64) (Ty.int IntKind.i64)) (Ty.pair (Ty.int IntKind.i64) (Ty.int IntKind.i64))))), (3, .one (.v)), (18, .one (.frz 29 (Ty.pair (Ty.pair (Ty.int IntKind.i64) (Ty.int IntKind.i64)) (Ty.pair (Ty.int IntKind.i64) (Ty.int IntKind.i64))))), (19, .one (.v)), (20, .one (.v))])]
def F117_1004 (k : Nat) (rec1004 : List Int → List Int → List ((Int × Int) × Int × Int) → Int → List ((Int × Int) × Int × Int) → Int → Int → Option (Bool)) (p : List Int) (q : List Int) (track : List ((Int × Int) × Int × Int)) (fine : Int) (t18 : List ((Int × Int) × Int × Int)) (t19 : Int) (t20 : Int) : Option (Bool) :=
  bif decide (t20 < t19) then
    bif boundA t20 (List.length t18) then
      (f68 k (List.getD t18 (Int.toNat t20) ((0, 0), 0, 0)).fst.fst (List.getD t18 (Int.toNat t20) ((0, 0), 0, 0)).fst.snd (List.getD t18 (Int.toNat t20) ((0, 0), 0, 0)).snd.fst (List.getD t18 (Int.toNat t20) ((0, 0), 0, 0)).snd.snd).bind fun r0 =>
      bif !r0 then
        some false
      else
        (f80 k p q (List.getD t18 (Int.toNat t20) ((0, 0), 0, 0)).fst.fst (List.getD t18 (Int.toNat t20) ((0, 0), 0, 0)).fst.snd (List.getD t18 (Int.toNat t20) ((0, 0), 0, 0)).snd.fst (List.getD t18 (Int.toNat t20) ((0, 0), 0, 0)).snd.snd t20 fine).bind fun r1 =>
        bif !r1 then
          some false
        else
          bif decide (t20 = 0) then
            rec1004 p q track fine t18 t19 (IntKind.wrap IntKind.i64 (t20 + 1))
          else
            bif boundA (IntKind.wrap IntKind.i64 (t20 - 1)) (List.length track) then
              (f180 k (List.getD track (Int.toNat (IntKind.wrap IntKind.i64 (t20 - 1))) ((0, 0), 0, 0)).fst.fst (List.getD track (Int.toNat (IntKind.wrap IntKind.i64 (t20 - 1))) ((0, 0), 0, 0)).fst.snd (List.getD track (Int.toNat (IntKind.wrap IntKind.i64 (t20 - 1))) ((0, 0), 0, 0)).snd.fst (List.getD track (Int.toNat (IntKind.wrap IntKind.i64 (t20 - 1))) ((0, 0), 0, 0)).snd.snd (List.getD t18 (Int.toNat t20) ((0, 0), 0, 0)).fst.fst (List.getD t18 (Int.toNat t20) ((0, 0), 0, 0)).fst.snd (List.getD t18 (Int.toNat t20) ((0, 0), 0, 0)).snd.fst (List.getD t18 (Int.toNat t20) ((0, 0), 0, 0)).snd.snd).bind fun r2 =>
              bif !r2.snd then
                some false
              else
                (f69 k p q r2.fst.fst.fst r2.fst.fst.snd r2.fst.snd.fst r2.fst.snd.snd t20 fine).bind fun r3 =>
                bif !r3 then
                  some false
                else
                  rec1004 p q track fine t18 t19 (IntKind.wrap IntKind.i64 (t20 + 1))
            else
              none
    else
      none
  else
    some true
def F117 (k : Nat) (rec1004 : List Int → List Int → List ((Int × Int) × Int × Int) → Int → List ((Int × Int) × Int × Int) → Int → Int → Option (Bool)) (p : List (Int)) (q : List (Int)) (track : List ((Int × Int) × Int × Int)) (fine : Int) : Option (Bool) :=
  (f90 k fine).bind fun r0 =>
  bif !decide ((↑(List.length track) : Int) = r0) then
    some false
  else
    rec1004 p q track fine track ((↑(List.length track) : Int)) (0)
def l117 : Nat → (List Int → List Int → List ((Int × Int) × Int × Int) → Int → List ((Int × Int) × Int × Int) → Int → Int → Option (Bool))
  | 0 => fun _ _ _ _ _ _ _ => none
  | k + 1 => F117_1004 k (l117 k)
def f117 (k : Nat) (p : List (Int)) (q : List (Int)) (track : List ((Int × Int) × Int × Int)) (fine : Int) : Option (Bool) := F117 k (l117 k) p q track fine
def s117 : Spec := ⟨false, [(.bool, false)], true, .bool, fun k xs => match xs with | [.slc 3 (.int .i64) p, .slc 3 (.int .i64) q, .slc 29 (.pair (.pair (.int .i64) (.int .i64)) (.pair (.int .i64) (.int .i64))) track, .int .i64 fine] => f117 k p q track fine | _ => none⟩
def env35 : List (FuncId × Spec) := (117, s117) :: env34
noncomputable abbrev x117 := exec ti (envOf env34) 61 h117 (finT ti true Go.Proofs.Try.f117.results.toList [(.bool, false)] (.bool))
noncomputable def k117_1004 : List It := stackAt [.r, .r, .l, .r, .b, .lb none] (bodyOf Go.Proofs.Try.f117) []
def t117_1004 (p : List Int) (q : List Int) (track : List ((Int × Int) × Int × Int)) (fine : Int) (t18 : List ((Int × Int) × Int × Int)) (t19 : Int) (t20 : Int) : St := [(0, Cell.val (AVal.slc 3 (Ty.int IntKind.i64) p)), (2, Cell.val (AVal.slc 3 (Ty.int IntKind.i64) q)), (4, Cell.val (AVal.slc 29 (Ty.pair (Ty.pair (Ty.int IntKind.i64) (Ty.int IntKind.i64)) (Ty.pair (Ty.int IntKind.i64) (Ty.int IntKind.i64))) track)), (6, Cell.val (AVal.int IntKind.i64 fine)), (36, Cell.val (AVal.slc 29 (Ty.pair (Ty.pair (Ty.int IntKind.i64) (Ty.int IntKind.i64)) (Ty.pair (Ty.int IntKind.i64) (Ty.int IntKind.i64))) t18)), (38, Cell.val (AVal.int IntKind.i64 t19)), (40, Cell.val (AVal.int IntKind.i64 t20))]
theorem e117_1004 (k : Nat) (p : List Int) (q : List Int) (track : List ((Int × Int) × Int × Int)) (fine : Int) (t18 : List ((Int × Int) × Int × Int)) (t19 : Int) (t20 : Int) : x117 (k + 1) k117_1004 (t117_1004 p q track fine t18 t19 t20) = F117_1004 k (fun (p : List Int) (q : List Int) (track : List ((Int × Int) × Int × Int)) (fine : Int) (t18 : List ((Int × Int) × Int × Int)) (t19 : Int) (t20 : Int) => x117 k k117_1004 (t117_1004 p q track fine t18 t19 t20)) p q track fine t18 t19 t20 := by kernel_rfl
theorem q117 : ∀ k : Nat, (fun (p : List Int) (q : List Int) (track : List ((Int × Int) × Int × Int)) (fine : Int) (t18 : List ((Int × Int) × Int × Int)) (t19 : Int) (t20 : Int) => x117 k k117_1004 (t117_1004 p q track fine t18 t19 t20)) = l117 k
  | 0 => rfl
  | k + 1 => by
    have h := q117 k
    show _ = F117_1004 k (l117 k)
    rw [← h]
    exact (funext fun p => funext fun q => funext fun track => funext fun fine => funext fun t18 => funext fun t19 => funext fun t20 => e117_1004 k p q track fine t18 t19 t20)
theorem w117 (k : Nat) (p : List (Int)) (q : List (Int)) (track : List ((Int × Int) × Int × Int)) (fine : Int) : runFn ti (envOf env34) 61 h117 (finT ti true Go.Proofs.Try.f117.results.toList [(.bool, false)] (.bool)) k (bodyOf Go.Proofs.Try.f117) (initS 0 [.slc 3 (.int .i64) p, .slc 3 (.int .i64) q, .slc 29 (.pair (.pair (.int .i64) (.int .i64)) (.pair (.int .i64) (.int .i64))) track, .int .i64 fine]) = F117 k (fun (p : List Int) (q : List Int) (track : List ((Int × Int) × Int × Int)) (fine : Int) (t18 : List ((Int × Int) × Int × Int)) (t19 : Int) (t20 : Int) => x117 k k117_1004 (t117_1004 p q track fine t18 t19 t20)) p q track fine := by kernel_rfl
theorem v117 (k : Nat) (p : List (Int)) (q : List (Int)) (track : List ((Int × Int) × Int × Int)) (fine : Int) : runFn ti (envOf env34) 61 h117 (finT ti true Go.Proofs.Try.f117.results.toList [(.bool, false)] (.bool)) k (bodyOf Go.Proofs.Try.f117) (initS 0 [.slc 3 (.int .i64) p, .slc 3 (.int .i64) q, .slc 29 (.pair (.pair (.int .i64) (.int .i64)) (.pair (.int .i64) (.int .i64))) track, .int .i64 fine]) = f117 k p q track fine := by
  rw [w117]
  have h := q117 k
  unfold f117
  rw [← h]
theorem m117 : Meets Go.Proofs.Try.prog 117 s117 := meets_of_run tiOk env34_ok mo Go.Proofs.Try.func117 (body := bodyOf Go.Proofs.Try.f117) (by kernel_rfl) (N := 61) (by kernel_rfl) (hs := h117) (by
  intro k xs r h
  unfold s117 at h
  dsimp only at h
  split at h
  · exact ⟨Nat.le_of_ble_eq_true rfl, (v117 k _ _ _ _).trans h⟩
  · cases h)
theorem env35_ok : EnvOk Go.Proofs.Try.prog (envOf env35) := envOf_cons m117 Go.Proofs.Try.func117 (by kernel_rfl) (by kernel_rfl) env34_ok

-- spec.CheckTrack
def f63 (k : Nat) (p : List (Int)) (q : List (Int)) (track : List ((Int × Int) × Int × Int)) (fine : Int) : Option (Bool × Bool) :=
  (f89 k p q fine).bind fun r0 =>
  bif !r0 then
    some ((false, false))
  else
    bif decide (16 < (↑(List.length track) : Int)) then
      some ((false, false))
    else
      (f117 k p q track fine).bind fun r1 =>
      some ((r1, true))
def s63 : Spec := ⟨false, [(.bool, false), (.bool, false)], true, .pair (.bool) (.bool), fun k xs => match xs with | [.slc 3 (.int .i64) p, .slc 3 (.int .i64) q, .slc 29 (.pair (.pair (.int .i64) (.int .i64)) (.pair (.int .i64) (.int .i64))) track, .int .i64 fine] => f63 k p q track fine | _ => none⟩
def env36 : List (FuncId × Spec) := (63, s63) :: env35
theorem v63 (k : Nat) (p : List (Int)) (q : List (Int)) (track : List ((Int × Int) × Int × Int)) (fine : Int) : runFn ti (envOf env35) 25 [] (finT ti true Go.Proofs.Try.f63.results.toList [(.bool, false), (.bool, false)] (.pair (.bool) (.bool))) k (bodyOf Go.Proofs.Try.f63) (initS 0 [.slc 3 (.int .i64) p, .slc 3 (.int .i64) q, .slc 29 (.pair (.pair (.int .i64) (.int .i64)) (.pair (.int .i64) (.int .i64))) track, .int .i64 fine]) = f63 k p q track fine := by kernel_rfl
theorem m63 : Meets Go.Proofs.Try.prog 63 s63 := meets_of_run tiOk env35_ok mo Go.Proofs.Try.func63 (body := bodyOf Go.Proofs.Try.f63) (by kernel_rfl) (N := 25) (by kernel_rfl) (hs := []) (by
  intro k xs r h
  unfold s63 at h
  dsimp only at h
  split at h
  · exact ⟨Nat.le_of_ble_eq_true rfl, (v63 k _ _ _ _).trans h⟩
  · cases h)
theorem env36_ok : EnvOk Go.Proofs.Try.prog (envOf env36) := envOf_cons m63 Go.Proofs.Try.func63 (by kernel_rfl) (by kernel_rfl) env35_ok

end Go.Proofs.YtbaeikcfchiiaaaE
