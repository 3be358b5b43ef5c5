/- Functions, by the engine; printed. -/
import Derived.Test.YtbaeikcfchiiaaaNF7
set_option maxRecDepth 100000
set_option maxHeartbeats 4000000
set_option linter.unusedVariables false
namespace Go.Proofs.YtbaeikcfchiiaaaE
-- spec.sgProduct
def h248 : Hints := [(1005, .lab [(1, .one (.frz 3 (Ty.int IntKind.i64))), (5, .one (.own 3 (Ty.int IntKind.i64))), (25, .one (.frz 3 (Ty.int IntKind.i64))), (26, .one (.v)), (27, .one (.v))]), (1008, .lab [(1, .one (.frz 3 (Ty.int IntKind.i64))), (5, .one (.own 3 (Ty.int IntKind.i64))), (6, .one (.v)), (7, .one (.v)), (25, .one (.frz 3 (Ty.int IntKind.i64))), (26, .one (.v)), (27, .one (.v)), (32, .one (.frz 3 (Ty.int IntKind.i64))), (33, .one (.v)), (34, .one (.v))])]
noncomputable def F248_1005 (k : Nat) (rec1005 : List Int → List Int → List Int → Int → Int → Option (List (Int))) (rec1008 : List Int → List Int → Int → Int → List Int → Int → Int → List Int → Int → Int → Option (List (Int))) (q : List Int) (outs : List Int) (t25 : List Int) (t26 : Int) (t27 : Int) : Option (List (Int)) :=
  bif decide (t27 < t26) then
    bif boundA t27 (List.length t25) then
      rec1008 q outs t27 (List.getD t25 (Int.toNat t27) 0) t25 t26 t27 q ((↑(List.length q) : Int)) (0)
    else
      none
  else
    some outs
noncomputable def F248_1008 (k : Nat) (rec1005 : List Int → List Int → List Int → Int → Int → Option (List (Int))) (rec1008 : List Int → List Int → Int → Int → List Int → Int → Int → List Int → Int → Int → Option (List (Int))) (q : List Int) (outs : List Int) (i : Int) (a : Int) (t25 : List Int) (t26 : Int) (t27 : Int) (t32 : List Int) (t33 : Int) (t34 : Int) : Option (List (Int)) :=
  bif decide (t34 < t33) then
    bif boundA t34 (List.length t32) then
      bif boundA (IntKind.wrap IntKind.i64 (i + t34)) (List.length outs) then
        bif Nat.blt (Int.toNat (IntKind.wrap IntKind.i64 (i + t34))) (List.length outs) then
          bif boundA (IntKind.wrap IntKind.i64 (i + t34)) (List.length outs) then
            bif Nat.blt (Int.toNat (IntKind.wrap IntKind.i64 (i + t34))) (List.length outs) then
              rec1008 q (List.set outs (Int.toNat (IntKind.wrap IntKind.i64 (i + t34))) (IntKind.wrap IntKind.i64 (List.getD outs (Int.toNat (IntKind.wrap IntKind.i64 (i + t34))) 0 + IntKind.wrap IntKind.i64 (a * List.getD t32 (Int.toNat t34) 0)))) i a t25 t26 t27 t32 t33 (IntKind.wrap IntKind.i64 (t34 + 1))
            else
              none
          else
            none
        else
          none
      else
        none
    else
      none
  else
    rec1005 q outs t25 t26 (IntKind.wrap IntKind.i64 (t27 + 1))
noncomputable def F248 (k : Nat) (rec1005 : List Int → List Int → List Int → Int → Int → Option (List (Int))) (rec1008 : List Int → List Int → Int → Int → List Int → Int → Int → List Int → Int → Int → Option (List (Int))) (p : List (Int)) (q : List (Int)) : Option (List (Int)) :=
  bif decide ((↑(List.length p) : Int) = 0) then
    some ([])
  else
    bif decide ((↑(List.length q) : Int) = 0) then
      some ([])
    else
      bif decide (0 ≤ IntKind.wrap IntKind.i64 (IntKind.wrap IntKind.i64 ((↑(List.length p) : Int) + (↑(List.length q) : Int)) - 1)) then
        bif decide (IntKind.wrap IntKind.i64 (IntKind.wrap IntKind.i64 ((↑(List.length p) : Int) + (↑(List.length q) : Int)) - 1) ≤ IntKind.wrap IntKind.i64 (IntKind.wrap IntKind.i64 ((↑(List.length p) : Int) + (↑(List.length q) : Int)) - 1)) then
          bif decide (IntKind.wrap IntKind.i64 (IntKind.wrap IntKind.i64 ((↑(List.length p) : Int) + (↑(List.length q) : Int)) - 1) * (↑8 : Int) ≤ 140737488355328) then
            rec1005 q (List.replicate (Int.toNat (IntKind.wrap IntKind.i64 (IntKind.wrap IntKind.i64 ((↑(List.length p) : Int) + (↑(List.length q) : Int)) - 1))) (dflt (Ty.int IntKind.i64))) p ((↑(List.length p) : Int)) (0)
          else
            none
        else
          none
      else
        none
noncomputable def l248 : Nat → (List Int → List Int → List Int → Int → Int → Option (List (Int))) × (List Int → List Int → Int → Int → List Int → Int → Int → List Int → Int → Int → Option (List (Int)))
  | 0 => (fun _ _ _ _ _ => none, fun _ _ _ _ _ _ _ _ _ _ => none)
  | k + 1 => (F248_1005 k ((l248 k).1) ((l248 k).2), F248_1008 k ((l248 k).1) ((l248 k).2))
noncomputable def f248 (k : Nat) (p : List (Int)) (q : List (Int)) : Option (List (Int)) := F248 k ((l248 k).1) ((l248 k).2) p q
noncomputable def s248 : Spec := ⟨false, [(.slice 3 (.int .i64), false)], true, .slice 3 (.int .i64), fun k xs => match xs with | [.slc 3 (.int .i64) p, .slc 3 (.int .i64) q] => f248 k p q | _ => none⟩
noncomputable def env85 : List (FuncId × Spec) := (248, s248) :: env84
noncomputable abbrev x248 := exec ti (envOf env84) 53 h248 (finT ti true Go.Proofs.Try.f248.results.toList [(.slice 3 (.int .i64), false)] (.slice 3 (.int .i64)))
noncomputable def k248_1005 : List It := stackAt [.r, .r, .r, .l, .r, .b, .lb none] (bodyOf Go.Proofs.Try.f248) []
def t248_1005 (q : List Int) (outs : List Int) (t25 : List Int) (t26 : Int) (t27 : Int) : St := [(2, Cell.val (AVal.slc 3 (Ty.int IntKind.i64) q)), (10, Cell.val (AVal.ref 3 none)), (3, Cell.row true 3 (Ty.int IntKind.i64) outs), (50, Cell.val (AVal.slc 3 (Ty.int IntKind.i64) t25)), (52, Cell.val (AVal.int IntKind.i64 t26)), (54, Cell.val (AVal.int IntKind.i64 t27))]
noncomputable def k248_1008 : List It := stackAt [.r, .r, .r, .l, .r, .b, .lb none, .r, .r, .l, .b, .r, .r, .b, .lb none] (bodyOf Go.Proofs.Try.f248) []
def t248_1008 (q : List Int) (outs : List Int) (i : Int) (a : Int) (t25 : List Int) (t26 : Int) (t27 : Int) (t32 : List Int) (t33 : Int) (t34 : Int) : St := [(2, Cell.val (AVal.slc 3 (Ty.int IntKind.i64) q)), (10, Cell.val (AVal.ref 3 none)), (3, Cell.row true 3 (Ty.int IntKind.i64) outs), (12, Cell.val (AVal.int IntKind.i64 i)), (14, Cell.val (AVal.int IntKind.i64 a)), (50, Cell.val (AVal.slc 3 (Ty.int IntKind.i64) t25)), (52, Cell.val (AVal.int IntKind.i64 t26)), (54, Cell.val (AVal.int IntKind.i64 t27)), (64, Cell.val (AVal.slc 3 (Ty.int IntKind.i64) t32)), (66, Cell.val (AVal.int IntKind.i64 t33)), (68, Cell.val (AVal.int IntKind.i64 t34))]
theorem e248_1005 (k : Nat) (q : List Int) (outs : List Int) (t25 : List Int) (t26 : Int) (t27 : Int) : x248 (k + 1) k248_1005 (t248_1005 q outs t25 t26 t27) = F248_1005 k (fun (q : List Int) (outs : List Int) (t25 : List Int) (t26 : Int) (t27 : Int) => x248 k k248_1005 (t248_1005 q outs t25 t26 t27)) (fun (q : List Int) (outs : List Int) (i : Int) (a : Int) (t25 : List Int) (t26 : Int) (t27 : Int) (t32 : List Int) (t33 : Int) (t34 : Int) => x248 k k248_1008 (t248_1008 q outs i a t25 t26 t27 t32 t33 t34)) q outs t25 t26 t27 := by kernel_rfl
theorem e248_1008 (k : Nat) (q : List Int) (outs : List Int) (i : Int) (a : Int) (t25 : List Int) (t26 : Int) (t27 : Int) (t32 : List Int) (t33 : Int) (t34 : Int) : x248 (k + 1) k248_1008 (t248_1008 q outs i a t25 t26 t27 t32 t33 t34) = F248_1008 k (fun (q : List Int) (outs : List Int) (t25 : List Int) (t26 : Int) (t27 : Int) => x248 k k248_1005 (t248_1005 q outs t25 t26 t27)) (fun (q : List Int) (outs : List Int) (i : Int) (a : Int) (t25 : List Int) (t26 : Int) (t27 : Int) (t32 : List Int) (t33 : Int) (t34 : Int) => x248 k k248_1008 (t248_1008 q outs i a t25 t26 t27 t32 t33 t34)) q outs i a t25 t26 t27 t32 t33 t34 := by kernel_rfl
theorem q248 : ∀ k : Nat, ((fun (q : List Int) (outs : List Int) (t25 : List Int) (t26 : Int) (t27 : Int) => x248 k k248_1005 (t248_1005 q outs t25 t26 t27)), (fun (q : List Int) (outs : List Int) (i : Int) (a : Int) (t25 : List Int) (t26 : Int) (t27 : Int) (t32 : List Int) (t33 : Int) (t34 : Int) => x248 k k248_1008 (t248_1008 q outs i a t25 t26 t27 t32 t33 t34))) = l248 k
  | 0 => rfl
  | k + 1 => by
    have h := q248 k
    show _ = (F248_1005 k ((l248 k).1) ((l248 k).2), F248_1008 k ((l248 k).1) ((l248 k).2))
    rw [← h]
    exact (Prod.ext (funext fun q => funext fun outs => funext fun t25 => funext fun t26 => funext fun t27 => e248_1005 k q outs t25 t26 t27) (funext fun q => funext fun outs => funext fun i => funext fun a => funext fun t25 => funext fun t26 => funext fun t27 => funext fun t32 => funext fun t33 => funext fun t34 => e248_1008 k q outs i a t25 t26 t27 t32 t33 t34))
theorem w248 (k : Nat) (p : List (Int)) (q : List (Int)) : runFn ti (envOf env84) 53 h248 (finT ti true Go.Proofs.Try.f248.results.toList [(.slice 3 (.int .i64), false)] (.slice 3 (.int .i64))) k (bodyOf Go.Proofs.Try.f248) (initS 0 [.slc 3 (.int .i64) p, .slc 3 (.int .i64) q]) = F248 k (fun (q : List Int) (outs : List Int) (t25 : List Int) (t26 : Int) (t27 : Int) => x248 k k248_1005 (t248_1005 q outs t25 t26 t27)) (fun (q : List Int) (outs : List Int) (i : Int) (a : Int) (t25 : List Int) (t26 : Int) (t27 : Int) (t32 : List Int) (t33 : Int) (t34 : Int) => x248 k k248_1008 (t248_1008 q outs i a t25 t26 t27 t32 t33 t34)) p q := by kernel_rfl
theorem v248 (k : Nat) (p : List (Int)) (q : List (Int)) : runFn ti (envOf env84) 53 h248 (finT ti true Go.Proofs.Try.f248.results.toList [(.slice 3 (.int .i64), false)] (.slice 3 (.int .i64))) k (bodyOf Go.Proofs.Try.f248) (initS 0 [.slc 3 (.int .i64) p, .slc 3 (.int .i64) q]) = f248 k p q := by
  rw [w248]
  have h := q248 k
  unfold f248
  rw [← h]
theorem m248 : Meets Go.Proofs.Try.prog 248 s248 := meets_of_run tiOk env84_ok mo Go.Proofs.Try.func248 (body := bodyOf Go.Proofs.Try.f248) (by kernel_rfl) (N := 53) (by kernel_rfl) (hs := h248) (by
  intro k xs r h
  unfold s248 at h
  dsimp only at h
  split at h
  · exact ⟨Nat.le_of_ble_eq_true rfl, (v248 k _ _).trans h⟩
  · cases h)
theorem env85_ok : EnvOk Go.Proofs.Try.prog (envOf env85) := envOf_cons m248 Go.Proofs.Try.func248 (by kernel_rfl) (by kernel_rfl) env84_ok

-- spec.deOver
def h199 : Hints := [(1007, .lab [(5, .one (.v)), (6, .one (.v)), (8, .one (.v)), (10, .one (.v)), (11, .one (.own 3 (Ty.int IntKind.i64))), (45, .one (.frz 3 (Ty.int IntKind.i64))), (46, .one (.v)), (47, .one (.v))]), (1011, .lab [(5, .one (.v)), (6, .one (.v)), (8, .one (.v)), (10, .one (.v)), (11, .one (.own 3 (Ty.int IntKind.i64))), (12, .one (.v)), (14, .one (.own 3 (Ty.int IntKind.i64))), (15, .one (.v)), (45, .one (.frz 3 (Ty.int IntKind.i64))), (46, .one (.v)), (47, .one (.v))]), (1017, .lab [(5, .one (.v)), (6, .one (.v)), (8, .one (.v)), (10, .one (.v)), (11, .one (.own 3 (Ty.int IntKind.i64))), (45, .one (.frz 3 (Ty.int IntKind.i64))), (46, .one (.v)), (47, .one (.v)), (74, .one (.own 3 (Ty.int IntKind.i64))), (75, .one (.v)), (76, .one (.v))])]
noncomputable def F199_1007 (k : Nat) (rec1007 : Int → Int → Int → Int → List Int → List Int → Int → Int → Option (List (Int))) (rec1011 : Int → Int → Int → Int → List Int → Int → List Int → Int → List Int → Int → Int → Option (List (Int))) (rec1017 : Int → Int → Int → Int → List Int → List Int → Int → Int → List Int → Int → Int → Option (List (Int))) (t : Int) (o : Int) (r : Int) (a : Int) (ys : List Int) (t45 : List Int) (t46 : Int) (t47 : Int) : Option (List (Int)) :=
  bif decide (t47 < t46) then
    bif boundA t47 (List.length t45) then
      rec1011 t o r a ys t47 ([List.getD t45 (Int.toNat t47) 0]) (0) t45 t46 t47
    else
      none
  else
    some ys
noncomputable def F199_1011 (k : Nat) (rec1007 : Int → Int → Int → Int → List Int → List Int → Int → Int → Option (List (Int))) (rec1011 : Int → Int → Int → Int → List Int → Int → List Int → Int → List Int → Int → Int → Option (List (Int))) (rec1017 : Int → Int → Int → Int → List Int → List Int → Int → Int → List Int → Int → Int → Option (List (Int))) (t : Int) (o : Int) (r : Int) (a : Int) (ys : List Int) (t12 : Int) (t14s : List Int) (t15 : Int) (t45 : List Int) (t46 : Int) (t47 : Int) : Option (List (Int)) :=
  bif decide (t15 < a) then
    bif decide (t15 < t12) then
      (f248 k t14s [o, r]).bind fun r0 =>
      rec1011 t o r a ys t12 r0 (IntKind.wrap IntKind.i64 (t15 + 1)) t45 t46 t47
    else
      (f90 k t).bind fun r1 =>
      (f90 k t).bind fun r2 =>
      (f248 k t14s [r1, r2]).bind fun r3 =>
      rec1011 t o r a ys t12 r3 (IntKind.wrap IntKind.i64 (t15 + 1)) t45 t46 t47
  else
    rec1017 t o r a ys t45 t46 t47 t14s ((↑(List.length t14s) : Int)) (0)
noncomputable def F199_1017 (k : Nat) (rec1007 : Int → Int → Int → Int → List Int → List Int → Int → Int → Option (List (Int))) (rec1011 : Int → Int → Int → Int → List Int → Int → List Int → Int → List Int → Int → Int → Option (List (Int))) (rec1017 : Int → Int → Int → Int → List Int → List Int → Int → Int → List Int → Int → Int → Option (List (Int))) (t : Int) (o : Int) (r : Int) (a : Int) (ys : List Int) (t45 : List Int) (t46 : Int) (t47 : Int) (t74s : List Int) (t75 : Int) (t76 : Int) : Option (List (Int)) :=
  bif decide (t76 < t75) then
    bif boundA t76 (List.length t74s) then
      bif Nat.blt (Int.toNat t76) (List.length t74s) then
        bif boundA t76 (List.length ys) then
          bif Nat.blt (Int.toNat t76) (List.length ys) then
            bif boundA t76 (List.length ys) then
              bif Nat.blt (Int.toNat t76) (List.length ys) then
                rec1017 t o r a (List.set ys (Int.toNat t76) (IntKind.wrap IntKind.i64 (List.getD ys (Int.toNat t76) 0 + List.getD t74s (Int.toNat t76) 0))) t45 t46 t47 t74s t75 (IntKind.wrap IntKind.i64 (t76 + 1))
              else
                none
            else
              none
          else
            none
        else
          none
      else
        none
    else
      none
  else
    rec1007 t o r a ys t45 t46 (IntKind.wrap IntKind.i64 (t47 + 1))
noncomputable def F199 (k : Nat) (rec1007 : Int → Int → Int → Int → List Int → List Int → Int → Int → Option (List (Int))) (rec1011 : Int → Int → Int → Int → List Int → Int → List Int → Int → List Int → Int → Int → Option (List (Int))) (rec1017 : Int → Int → Int → Int → List Int → List Int → Int → Int → List Int → Int → Int → Option (List (Int))) (L : List (Int)) (i_Low_N : Int) (i_Low_K : Int) (i_High_N : Int) (i_High_K : Int) : Option (List (Int)) :=
  (f165 k i_Low_K i_High_K).bind fun r0 =>
  (f171 k i_Low_N i_Low_K r0).bind fun r1 =>
  (f171 k i_High_N i_High_K r0).bind fun r2 =>
  bif decide (0 ≤ IntKind.wrap IntKind.i64 (IntKind.wrap IntKind.i64 ((↑(List.length L) : Int) - 1) + 1)) then
    bif decide (IntKind.wrap IntKind.i64 (IntKind.wrap IntKind.i64 ((↑(List.length L) : Int) - 1) + 1) ≤ IntKind.wrap IntKind.i64 (IntKind.wrap IntKind.i64 ((↑(List.length L) : Int) - 1) + 1)) then
      bif decide (IntKind.wrap IntKind.i64 (IntKind.wrap IntKind.i64 ((↑(List.length L) : Int) - 1) + 1) * (↑8 : Int) ≤ 140737488355328) then
        rec1007 r0 (r1.fst) (r2.fst) (IntKind.wrap IntKind.i64 ((↑(List.length L) : Int) - 1)) (List.replicate (Int.toNat (IntKind.wrap IntKind.i64 (IntKind.wrap IntKind.i64 ((↑(List.length L) : Int) - 1) + 1))) (dflt (Ty.int IntKind.i64))) L ((↑(List.length L) : Int)) (0)
      else
        none
    else
      none
  else
    none
noncomputable def l199 : Nat → (Int → Int → Int → Int → List Int → List Int → Int → Int → Option (List (Int))) × (Int → Int → Int → Int → List Int → Int → List Int → Int → List Int → Int → Int → Option (List (Int))) × (Int → Int → Int → Int → List Int → List Int → Int → Int → List Int → Int → Int → Option (List (Int)))
  | 0 => (fun _ _ _ _ _ _ _ _ => none, fun _ _ _ _ _ _ _ _ _ _ _ => none, fun _ _ _ _ _ _ _ _ _ _ _ => none)
  | k + 1 => (F199_1007 k ((l199 k).1) ((l199 k).2.1) ((l199 k).2.2), F199_1011 k ((l199 k).1) ((l199 k).2.1) ((l199 k).2.2), F199_1017 k ((l199 k).1) ((l199 k).2.1) ((l199 k).2.2))
noncomputable def f199 (k : Nat) (L : List (Int)) (i_Low_N : Int) (i_Low_K : Int) (i_High_N : Int) (i_High_K : Int) : Option (List (Int)) := F199 k ((l199 k).1) ((l199 k).2.1) ((l199 k).2.2) L i_Low_N i_Low_K i_High_N i_High_K
noncomputable def s199 : Spec := ⟨false, [(.slice 3 (.int .i64), false)], true, .slice 3 (.int .i64), fun k xs => match xs with | [.slc 3 (.int .i64) L, .agg [.int .i64 i_Low_N, .int .i64 i_Low_K, .int .i64 i_High_N, .int .i64 i_High_K]] => f199 k L i_Low_N i_Low_K i_High_N i_High_K | _ => none⟩
noncomputable def env86 : List (FuncId × Spec) := (199, s199) :: env85
noncomputable abbrev x199 := exec ti (envOf env85) 91 h199 (finT ti true Go.Proofs.Try.f199.results.toList [(.slice 3 (.int .i64), false)] (.slice 3 (.int .i64)))
noncomputable def k199_1007 : List It := stackAt [.r, .r, .r, .r, .r, .r, .l, .r, .b, .lb none] (bodyOf Go.Proofs.Try.f199) []
def t199_1007 (t : Int) (o : Int) (r : Int) (a : Int) (ys : List Int) (t45 : List Int) (t46 : Int) (t47 : Int) : St := [(10, Cell.val (AVal.int IntKind.i64 t)), (12, Cell.val (AVal.int IntKind.i64 o)), (16, Cell.val (AVal.int IntKind.i64 r)), (20, Cell.val (AVal.int IntKind.i64 a)), (22, Cell.val (AVal.ref 3 none)), (3, Cell.row true 3 (Ty.int IntKind.i64) ys), (90, Cell.val (AVal.slc 3 (Ty.int IntKind.i64) t45)), (92, Cell.val (AVal.int IntKind.i64 t46)), (94, Cell.val (AVal.int IntKind.i64 t47))]
noncomputable def k199_1011 : List It := stackAt [.r, .r, .r, .r, .r, .r, .l, .r, .b, .lb none, .r, .r, .l, .b, .r, .r, .l, .r, .b, .lb none] (bodyOf Go.Proofs.Try.f199) []
def t199_1011 (t : Int) (o : Int) (r : Int) (a : Int) (ys : List Int) (t12 : Int) (t14s : List Int) (t15 : Int) (t45 : List Int) (t46 : Int) (t47 : Int) : St := [(10, Cell.val (AVal.int IntKind.i64 t)), (12, Cell.val (AVal.int IntKind.i64 o)), (16, Cell.val (AVal.int IntKind.i64 r)), (20, Cell.val (AVal.int IntKind.i64 a)), (22, Cell.val (AVal.ref 3 none)), (3, Cell.row true 3 (Ty.int IntKind.i64) ys), (24, Cell.val (AVal.int IntKind.i64 t12)), (28, Cell.val (AVal.ref 5 none)), (5, Cell.row true 3 (Ty.int IntKind.i64) t14s), (30, Cell.val (AVal.int IntKind.i64 t15)), (90, Cell.val (AVal.slc 3 (Ty.int IntKind.i64) t45)), (92, Cell.val (AVal.int IntKind.i64 t46)), (94, Cell.val (AVal.int IntKind.i64 t47))]
noncomputable def k199_1017 : List It := stackAt [.r, .r, .r, .r, .r, .r, .l, .r, .b, .lb none, .r, .r, .l, .b, .r, .r, .r, .r, .b, .lb none] (bodyOf Go.Proofs.Try.f199) []
def t199_1017 (t : Int) (o : Int) (r : Int) (a : Int) (ys : List Int) (t45 : List Int) (t46 : Int) (t47 : Int) (t74s : List Int) (t75 : Int) (t76 : Int) : St := [(10, Cell.val (AVal.int IntKind.i64 t)), (12, Cell.val (AVal.int IntKind.i64 o)), (16, Cell.val (AVal.int IntKind.i64 r)), (20, Cell.val (AVal.int IntKind.i64 a)), (22, Cell.val (AVal.ref 3 none)), (3, Cell.row true 3 (Ty.int IntKind.i64) ys), (90, Cell.val (AVal.slc 3 (Ty.int IntKind.i64) t45)), (92, Cell.val (AVal.int IntKind.i64 t46)), (94, Cell.val (AVal.int IntKind.i64 t47)), (148, Cell.val (AVal.ref 5 none)), (5, Cell.row true 3 (Ty.int IntKind.i64) t74s), (150, Cell.val (AVal.int IntKind.i64 t75)), (152, Cell.val (AVal.int IntKind.i64 t76))]
theorem e199_1007 (k : Nat) (t : Int) (o : Int) (r : Int) (a : Int) (ys : List Int) (t45 : List Int) (t46 : Int) (t47 : Int) : x199 (k + 1) k199_1007 (t199_1007 t o r a ys t45 t46 t47) = F199_1007 k (fun (t : Int) (o : Int) (r : Int) (a : Int) (ys : List Int) (t45 : List Int) (t46 : Int) (t47 : Int) => x199 k k199_1007 (t199_1007 t o r a ys t45 t46 t47)) (fun (t : Int) (o : Int) (r : Int) (a : Int) (ys : List Int) (t12 : Int) (t14s : List Int) (t15 : Int) (t45 : List Int) (t46 : Int) (t47 : Int) => x199 k k199_1011 (t199_1011 t o r a ys t12 t14s t15 t45 t46 t47)) (fun (t : Int) (o : Int) (r : Int) (a : Int) (ys : List Int) (t45 : List Int) (t46 : Int) (t47 : Int) (t74s : List Int) (t75 : Int) (t76 : Int) => x199 k k199_1017 (t199_1017 t o r a ys t45 t46 t47 t74s t75 t76)) t o r a ys t45 t46 t47 := by kernel_rfl
theorem e199_1011 (k : Nat) (t : Int) (o : Int) (r : Int) (a : Int) (ys : List Int) (t12 : Int) (t14s : List Int) (t15 : Int) (t45 : List Int) (t46 : Int) (t47 : Int) : x199 (k + 1) k199_1011 (t199_1011 t o r a ys t12 t14s t15 t45 t46 t47) = F199_1011 k (fun (t : Int) (o : Int) (r : Int) (a : Int) (ys : List Int) (t45 : List Int) (t46 : Int) (t47 : Int) => x199 k k199_1007 (t199_1007 t o r a ys t45 t46 t47)) (fun (t : Int) (o : Int) (r : Int) (a : Int) (ys : List Int) (t12 : Int) (t14s : List Int) (t15 : Int) (t45 : List Int) (t46 : Int) (t47 : Int) => x199 k k199_1011 (t199_1011 t o r a ys t12 t14s t15 t45 t46 t47)) (fun (t : Int) (o : Int) (r : Int) (a : Int) (ys : List Int) (t45 : List Int) (t46 : Int) (t47 : Int) (t74s : List Int) (t75 : Int) (t76 : Int) => x199 k k199_1017 (t199_1017 t o r a ys t45 t46 t47 t74s t75 t76)) t o r a ys t12 t14s t15 t45 t46 t47 := by kernel_rfl
theorem e199_1017 (k : Nat) (t : Int) (o : Int) (r : Int) (a : Int) (ys : List Int) (t45 : List Int) (t46 : Int) (t47 : Int) (t74s : List Int) (t75 : Int) (t76 : Int) : x199 (k + 1) k199_1017 (t199_1017 t o r a ys t45 t46 t47 t74s t75 t76) = F199_1017 k (fun (t : Int) (o : Int) (r : Int) (a : Int) (ys : List Int) (t45 : List Int) (t46 : Int) (t47 : Int) => x199 k k199_1007 (t199_1007 t o r a ys t45 t46 t47)) (fun (t : Int) (o : Int) (r : Int) (a : Int) (ys : List Int) (t12 : Int) (t14s : List Int) (t15 : Int) (t45 : List Int) (t46 : Int) (t47 : Int) => x199 k k199_1011 (t199_1011 t o r a ys t12 t14s t15 t45 t46 t47)) (fun (t : Int) (o : Int) (r : Int) (a : Int) (ys : List Int) (t45 : List Int) (t46 : Int) (t47 : Int) (t74s : List Int) (t75 : Int) (t76 : Int) => x199 k k199_1017 (t199_1017 t o r a ys t45 t46 t47 t74s t75 t76)) t o r a ys t45 t46 t47 t74s t75 t76 := by kernel_rfl
theorem q199 : ∀ k : Nat, ((fun (t : Int) (o : Int) (r : Int) (a : Int) (ys : List Int) (t45 : List Int) (t46 : Int) (t47 : Int) => x199 k k199_1007 (t199_1007 t o r a ys t45 t46 t47)), (fun (t : Int) (o : Int) (r : Int) (a : Int) (ys : List Int) (t12 : Int) (t14s : List Int) (t15 : Int) (t45 : List Int) (t46 : Int) (t47 : Int) => x199 k k199_1011 (t199_1011 t o r a ys t12 t14s t15 t45 t46 t47)), (fun (t : Int) (o : Int) (r : Int) (a : Int) (ys : List Int) (t45 : List Int) (t46 : Int) (t47 : Int) (t74s : List Int) (t75 : Int) (t76 : Int) => x199 k k199_1017 (t199_1017 t o r a ys t45 t46 t47 t74s t75 t76))) = l199 k
  | 0 => rfl
  | k + 1 => by
    have h := q199 k
    show _ = (F199_1007 k ((l199 k).1) ((l199 k).2.1) ((l199 k).2.2), F199_1011 k ((l199 k).1) ((l199 k).2.1) ((l199 k).2.2), F199_1017 k ((l199 k).1) ((l199 k).2.1) ((l199 k).2.2))
    rw [← h]
    exact (Prod.ext (funext fun t => funext fun o => funext fun r => funext fun a => funext fun ys => funext fun t45 => funext fun t46 => funext fun t47 => e199_1007 k t o r a ys t45 t46 t47) (Prod.ext (funext fun t => funext fun o => funext fun r => funext fun a => funext fun ys => funext fun t12 => funext fun t14s => funext fun t15 => funext fun t45 => funext fun t46 => funext fun t47 => e199_1011 k t o r a ys t12 t14s t15 t45 t46 t47) (funext fun t => funext fun o => funext fun r => funext fun a => funext fun ys => funext fun t45 => funext fun t46 => funext fun t47 => funext fun t74s => funext fun t75 => funext fun t76 => e199_1017 k t o r a ys t45 t46 t47 t74s t75 t76)))
theorem w199 (k : Nat) (L : List (Int)) (i_Low_N : Int) (i_Low_K : Int) (i_High_N : Int) (i_High_K : Int) : runFn ti (envOf env85) 91 h199 (finT ti true Go.Proofs.Try.f199.results.toList [(.slice 3 (.int .i64), false)] (.slice 3 (.int .i64))) k (bodyOf Go.Proofs.Try.f199) (initS 0 [.slc 3 (.int .i64) L, .agg [.int .i64 i_Low_N, .int .i64 i_Low_K, .int .i64 i_High_N, .int .i64 i_High_K]]) = F199 k (fun (t : Int) (o : Int) (r : Int) (a : Int) (ys : List Int) (t45 : List Int) (t46 : Int) (t47 : Int) => x199 k k199_1007 (t199_1007 t o r a ys t45 t46 t47)) (fun (t : Int) (o : Int) (r : Int) (a : Int) (ys : List Int) (t12 : Int) (t14s : List Int) (t15 : Int) (t45 : List Int) (t46 : Int) (t47 : Int) => x199 k k199_1011 (t199_1011 t o r a ys t12 t14s t15 t45 t46 t47)) (fun (t : Int) (o : Int) (r : Int) (a : Int) (ys : List Int) (t45 : List Int) (t46 : Int) (t47 : Int) (t74s : List Int) (t75 : Int) (t76 : Int) => x199 k k199_1017 (t199_1017 t o r a ys t45 t46 t47 t74s t75 t76)) L i_Low_N i_Low_K i_High_N i_High_K := by kernel_rfl
theorem v199 (k : Nat) (L : List (Int)) (i_Low_N : Int) (i_Low_K : Int) (i_High_N : Int) (i_High_K : Int) : runFn ti (envOf env85) 91 h199 (finT ti true Go.Proofs.Try.f199.results.toList [(.slice 3 (.int .i64), false)] (.slice 3 (.int .i64))) k (bodyOf Go.Proofs.Try.f199) (initS 0 [.slc 3 (.int .i64) L, .agg [.int .i64 i_Low_N, .int .i64 i_Low_K, .int .i64 i_High_N, .int .i64 i_High_K]]) = f199 k L i_Low_N i_Low_K i_High_N i_High_K := by
  rw [w199]
  have h := q199 k
  unfold f199
  rw [← h]
theorem m199 : Meets Go.Proofs.Try.prog 199 s199 := meets_of_run tiOk env85_ok mo Go.Proofs.Try.func199 (body := bodyOf Go.Proofs.Try.f199) (by kernel_rfl) (N := 91) (by kernel_rfl) (hs := h199) (by
  intro k xs r h
  unfold s199 at h
  dsimp only at h
  split at h
  · exact ⟨Nat.le_of_ble_eq_true rfl, (v199 k _ _ _ _ _).trans h⟩
  · cases h)
theorem env86_ok : EnvOk Go.Proofs.Try.prog (envOf env86) := envOf_cons m199 Go.Proofs.Try.func199 (by kernel_rfl) (by kernel_rfl) env85_ok

-- spec.sgDerive
def h200 : Hints := [(1003, .lab [(3, .one (.own 3 (Ty.int IntKind.i64))), (6, .one (.frz 3 (Ty.int IntKind.i64))), (7, .one (.v)), (8, .one (.v))])]
noncomputable def F200_1003 (k : Nat) (rec1003 : List Int → List Int → Int → Int → Option (List (Int))) (outs : List Int) (t6 : List Int) (t7 : Int) (t8 : Int) : Option (List (Int)) :=
  bif decide (t8 < t7) then
    bif boundA t8 (List.length t6) then
      bif decide (0 < t8) then
        bif decide ((List.length outs + List.length [IntKind.wrap IntKind.i64 (t8 * List.getD t6 (Int.toNat t8) 0)]) * 8 ≤ 140737488355328) then
          rec1003 (outs ++ [IntKind.wrap IntKind.i64 (t8 * List.getD t6 (Int.toNat t8) 0)]) t6 t7 (IntKind.wrap IntKind.i64 (t8 + 1))
        else
          none
      else
        rec1003 outs t6 t7 (IntKind.wrap IntKind.i64 (t8 + 1))
    else
      none
  else
    some outs
noncomputable def F200 (k : Nat) (rec1003 : List Int → List Int → Int → Int → Option (List (Int))) (p : List (Int)) : Option (List (Int)) :=
  rec1003 ([]) p ((↑(List.length p) : Int)) (0)
noncomputable def l200 : Nat → (List Int → List Int → Int → Int → Option (List (Int)))
  | 0 => fun _ _ _ _ => none
  | k + 1 => F200_1003 k (l200 k)
noncomputable def f200 (k : Nat) (p : List (Int)) : Option (List (Int)) := F200 k (l200 k) p
noncomputable def s200 : Spec := ⟨false, [(.slice 3 (.int .i64), false)], true, .slice 3 (.int .i64), fun k xs => match xs with | [.slc 3 (.int .i64) p] => f200 k p | _ => none⟩
noncomputable def env87 : List (FuncId × Spec) := (200, s200) :: env86
noncomputable abbrev x200 := exec ti (envOf env86) 23 h200 (finT ti true Go.Proofs.Try.f200.results.toList [(.slice 3 (.int .i64), false)] (.slice 3 (.int .i64)))
noncomputable def k200_1003 : List It := stackAt [.r, .r, .l, .r, .b, .lb none] (bodyOf Go.Proofs.Try.f200) []
def t200_1003 (outs : List Int) (t6 : List Int) (t7 : Int) (t8 : Int) : St := [(6, Cell.val (AVal.ref 3 none)), (3, Cell.row true 3 (Ty.int IntKind.i64) outs), (12, Cell.val (AVal.slc 3 (Ty.int IntKind.i64) t6)), (14, Cell.val (AVal.int IntKind.i64 t7)), (16, Cell.val (AVal.int IntKind.i64 t8))]
theorem e200_1003 (k : Nat) (outs : List Int) (t6 : List Int) (t7 : Int) (t8 : Int) : x200 (k + 1) k200_1003 (t200_1003 outs t6 t7 t8) = F200_1003 k (fun (outs : List Int) (t6 : List Int) (t7 : Int) (t8 : Int) => x200 k k200_1003 (t200_1003 outs t6 t7 t8)) outs t6 t7 t8 := by kernel_rfl
theorem q200 : ∀ k : Nat, (fun (outs : List Int) (t6 : List Int) (t7 : Int) (t8 : Int) => x200 k k200_1003 (t200_1003 outs t6 t7 t8)) = l200 k
  | 0 => rfl
  | k + 1 => by
    have h := q200 k
    show _ = F200_1003 k (l200 k)
    rw [← h]
    exact (funext fun outs => funext fun t6 => funext fun t7 => funext fun t8 => e200_1003 k outs t6 t7 t8)
theorem w200 (k : Nat) (p : List (Int)) : runFn ti (envOf env86) 23 h200 (finT ti true Go.Proofs.Try.f200.results.toList [(.slice 3 (.int .i64), false)] (.slice 3 (.int .i64))) k (bodyOf Go.Proofs.Try.f200) (initS 0 [.slc 3 (.int .i64) p]) = F200 k (fun (outs : List Int) (t6 : List Int) (t7 : Int) (t8 : Int) => x200 k k200_1003 (t200_1003 outs t6 t7 t8)) p := by kernel_rfl
theorem v200 (k : Nat) (p : List (Int)) : runFn ti (envOf env86) 23 h200 (finT ti true Go.Proofs.Try.f200.results.toList [(.slice 3 (.int .i64), false)] (.slice 3 (.int .i64))) k (bodyOf Go.Proofs.Try.f200) (initS 0 [.slc 3 (.int .i64) p]) = f200 k p := by
  rw [w200]
  have h := q200 k
  unfold f200
  rw [← h]
theorem m200 : Meets Go.Proofs.Try.prog 200 s200 := meets_of_run tiOk env86_ok mo Go.Proofs.Try.func200 (body := bodyOf Go.Proofs.Try.f200) (by kernel_rfl) (N := 23) (by kernel_rfl) (hs := h200) (by
  intro k xs r h
  unfold s200 at h
  dsimp only at h
  split at h
  · exact ⟨Nat.le_of_ble_eq_true rfl, (v200 k _).trans h⟩
  · cases h)
theorem env87_ok : EnvOk Go.Proofs.Try.prog (envOf env87) := envOf_cons m200 Go.Proofs.Try.func200 (by kernel_rfl) (by kernel_rfl) env86_ok

-- spec.beSign
def h201 : Hints := [(1003, .lab [(3, .one (.v)), (10, .one (.frz 3 (Ty.int IntKind.i64))), (11, .one (.v)), (12, .one (.v))])]
noncomputable def F201_1003 (k : Nat) (rec1003 : Int → List Int → Int → Int → Option (Int)) (sign : Int) (t10 : List Int) (t11 : Int) (t12 : Int) : Option (Int) :=
  bif decide (t12 < t11) then
    bif boundA t12 (List.length t10) then
      (f185 k (List.getD t10 (Int.toNat t12) 0)).bind fun r0 =>
      bif !decide (r0 = sign) then
        some (0)
      else
        rec1003 sign t10 t11 (IntKind.wrap IntKind.i64 (t12 + 1))
    else
      none
  else
    some sign
noncomputable def F201 (k : Nat) (rec1003 : Int → List Int → Int → Int → Option (Int)) (l : List (Int)) : Option (Int) :=
  bif boundA 0 (List.length l) then
    (f185 k (List.getD l (Int.toNat 0) 0)).bind fun r0 =>
    rec1003 r0 l ((↑(List.length l) : Int)) (0)
  else
    none
noncomputable def l201 : Nat → (Int → List Int → Int → Int → Option (Int))
  | 0 => fun _ _ _ _ => none
  | k + 1 => F201_1003 k (l201 k)
noncomputable def f201 (k : Nat) (l : List (Int)) : Option (Int) := F201 k (l201 k) l
noncomputable def s201 : Spec := ⟨false, [(.int .i64, false)], true, .int .i64, fun k xs => match xs with | [.slc 3 (.int .i64) l] => f201 k l | _ => none⟩
noncomputable def env88 : List (FuncId × Spec) := (201, s201) :: env87
noncomputable abbrev x201 := exec ti (envOf env87) 22 h201 (finT ti true Go.Proofs.Try.f201.results.toList [(.int .i64, false)] (.int .i64))
noncomputable def k201_1003 : List It := stackAt [.r, .r, .l, .r, .b, .lb none] (bodyOf Go.Proofs.Try.f201) []
def t201_1003 (sign : Int) (t10 : List Int) (t11 : Int) (t12 : Int) : St := [(6, Cell.val (AVal.int IntKind.i64 sign)), (20, Cell.val (AVal.slc 3 (Ty.int IntKind.i64) t10)), (22, Cell.val (AVal.int IntKind.i64 t11)), (24, Cell.val (AVal.int IntKind.i64 t12))]
theorem e201_1003 (k : Nat) (sign : Int) (t10 : List Int) (t11 : Int) (t12 : Int) : x201 (k + 1) k201_1003 (t201_1003 sign t10 t11 t12) = F201_1003 k (fun (sign : Int) (t10 : List Int) (t11 : Int) (t12 : Int) => x201 k k201_1003 (t201_1003 sign t10 t11 t12)) sign t10 t11 t12 := by kernel_rfl
theorem q201 : ∀ k : Nat, (fun (sign : Int) (t10 : List Int) (t11 : Int) (t12 : Int) => x201 k k201_1003 (t201_1003 sign t10 t11 t12)) = l201 k
  | 0 => rfl
  | k + 1 => by
    have h := q201 k
    show _ = F201_1003 k (l201 k)
    rw [← h]
    exact (funext fun sign => funext fun t10 => funext fun t11 => funext fun t12 => e201_1003 k sign t10 t11 t12)
theorem w201 (k : Nat) (l : List (Int)) : runFn ti (envOf env87) 22 h201 (finT ti true Go.Proofs.Try.f201.results.toList [(.int .i64, false)] (.int .i64)) k (bodyOf Go.Proofs.Try.f201) (initS 0 [.slc 3 (.int .i64) l]) = F201 k (fun (sign : Int) (t10 : List Int) (t11 : Int) (t12 : Int) => x201 k k201_1003 (t201_1003 sign t10 t11 t12)) l := by kernel_rfl
theorem v201 (k : Nat) (l : List (Int)) : runFn ti (envOf env87) 22 h201 (finT ti true Go.Proofs.Try.f201.results.toList [(.int .i64, false)] (.int .i64)) k (bodyOf Go.Proofs.Try.f201) (initS 0 [.slc 3 (.int .i64) l]) = f201 k l := by
  rw [w201]
  have h := q201 k
  unfold f201
  rw [← h]
theorem m201 : Meets Go.Proofs.Try.prog 201 s201 := meets_of_run tiOk env87_ok mo Go.Proofs.Try.func201 (body := bodyOf Go.Proofs.Try.f201) (by kernel_rfl) (N := 22) (by kernel_rfl) (hs := h201) (by
  intro k xs r h
  unfold s201 at h
  dsimp only at h
  split at h
  · exact ⟨Nat.le_of_ble_eq_true rfl, (v201 k _).trans h⟩
  · cases h)
theorem env88_ok : EnvOk Go.Proofs.Try.prog (envOf env88) := envOf_cons m201 Go.Proofs.Try.func201 (by kernel_rfl) (by kernel_rfl) env87_ok

-- spec.faSlope
noncomputable def f136 (k : Nat) (p : List (Int)) (q : List (Int)) (x_Low_N : Int) (x_Low_K : Int) (x_High_N : Int) (x_High_K : Int) (i : Int) (fine : Int) : Option (Int) :=
  (f93 k p q i fine).bind fun r0 =>
  (f200 k r0).bind fun r1 =>
  (f199 k r1 x_Low_N x_Low_K x_High_N x_High_K).bind fun r2 =>
  (f93 k p q (IntKind.wrap IntKind.i64 (i + 1)) fine).bind fun r3 =>
  (f200 k r3).bind fun r4 =>
  (f199 k r4 x_Low_N x_Low_K x_High_N x_High_K).bind fun r5 =>
  bif decide ((List.length r2 + List.length r5) * 8 ≤ 140737488355328) then
    (f201 k (r2 ++ r5)).bind fun r6 =>
    some r6
  else
    none
noncomputable def s136 : Spec := ⟨false, [(.int .i64, false)], true, .int .i64, fun k xs => match xs with | [.slc 3 (.int .i64) p, .slc 3 (.int .i64) q, .agg [.int .i64 x_Low_N, .int .i64 x_Low_K, .int .i64 x_High_N, .int .i64 x_High_K], .int .i64 i, .int .i64 fine] => f136 k p q x_Low_N x_Low_K x_High_N x_High_K i fine | _ => none⟩
noncomputable def env89 : List (FuncId × Spec) := (136, s136) :: env88
theorem v136 (k : Nat) (p : List (Int)) (q : List (Int)) (x_Low_N : Int) (x_Low_K : Int) (x_High_N : Int) (x_High_K : Int) (i : Int) (fine : Int) : runFn ti (envOf env88) 32 [] (finT ti true Go.Proofs.Try.f136.results.toList [(.int .i64, false)] (.int .i64)) k (bodyOf Go.Proofs.Try.f136) (initS 0 [.slc 3 (.int .i64) p, .slc 3 (.int .i64) q, .agg [.int .i64 x_Low_N, .int .i64 x_Low_K, .int .i64 x_High_N, .int .i64 x_High_K], .int .i64 i, .int .i64 fine]) = f136 k p q x_Low_N x_Low_K x_High_N x_High_K i fine := by kernel_rfl
theorem m136 : Meets Go.Proofs.Try.prog 136 s136 := meets_of_run tiOk env88_ok mo Go.Proofs.Try.func136 (body := bodyOf Go.Proofs.Try.f136) (by kernel_rfl) (N := 32) (by kernel_rfl) (hs := []) (by
  intro k xs r h
  unfold s136 at h
  dsimp only at h
  split at h
  · exact ⟨Nat.le_of_ble_eq_true rfl, (v136 k _ _ _ _ _ _ _ _).trans h⟩
  · cases h)
theorem env89_ok : EnvOk Go.Proofs.Try.prog (envOf env89) := envOf_cons m136 Go.Proofs.Try.func136 (by kernel_rfl) (by kernel_rfl) env88_ok

-- spec.faHolds
noncomputable def f80 (k : Nat) (p : List (Int)) (q : List (Int)) (x_Low_N : Int) (x_Low_K : Int) (x_High_N : Int) (x_High_K : Int) (i : Int) (fine : Int) : Option (Bool) :=
  (f135 k p q x_Low_N x_Low_K i (IntKind.wrap IntKind.i64 (i + 1)) fine).bind fun r0 =>
  (f135 k p q x_High_N x_High_K i (IntKind.wrap IntKind.i64 (i + 1)) fine).bind fun r1 =>
  bif decide (IntKind.wrap IntKind.i64 (r0 * r1) < 0) then
    (f136 k p q x_Low_N x_Low_K x_High_N x_High_K i fine).bind fun r2 =>
    some (!decide (r2 = 0))
  else
    some false
noncomputable def s80 : Spec := ⟨false, [(.bool, false)], true, .bool, fun k xs => match xs with | [.slc 3 (.int .i64) p, .slc 3 (.int .i64) q, .agg [.int .i64 x_Low_N, .int .i64 x_Low_K, .int .i64 x_High_N, .int .i64 x_High_K], .int .i64 i, .int .i64 fine] => f80 k p q x_Low_N x_Low_K x_High_N x_High_K i fine | _ => none⟩
noncomputable def env90 : List (FuncId × Spec) := (80, s80) :: env89
theorem v80 (k : Nat) (p : List (Int)) (q : List (Int)) (x_Low_N : Int) (x_Low_K : Int) (x_High_N : Int) (x_High_K : Int) (i : Int) (fine : Int) : runFn ti (envOf env89) 40 [] (finT ti true Go.Proofs.Try.f80.results.toList [(.bool, false)] (.bool)) k (bodyOf Go.Proofs.Try.f80) (initS 0 [.slc 3 (.int .i64) p, .slc 3 (.int .i64) q, .agg [.int .i64 x_Low_N, .int .i64 x_Low_K, .int .i64 x_High_N, .int .i64 x_High_K], .int .i64 i, .int .i64 fine]) = f80 k p q x_Low_N x_Low_K x_High_N x_High_K i fine := by kernel_rfl
theorem m80 : Meets Go.Proofs.Try.prog 80 s80 := meets_of_run tiOk env89_ok mo Go.Proofs.Try.func80 (body := bodyOf Go.Proofs.Try.f80) (by kernel_rfl) (N := 40) (by kernel_rfl) (hs := []) (by
  intro k xs r h
  unfold s80 at h
  dsimp only at h
  split at h
  · exact ⟨Nat.le_of_ble_eq_true rfl, (v80 k _ _ _ _ _ _ _ _).trans h⟩
  · cases h)
theorem env90_ok : EnvOk Go.Proofs.Try.prog (envOf env90) := envOf_cons m80 Go.Proofs.Try.func80 (by kernel_rfl) (by kernel_rfl) env89_ok

-- spec.l1Least
noncomputable def f166 (k : Nat) (a : Int) (b : Int) : Option (Int) :=
  bif decide (a < b) then
    some a
  else
    some b
noncomputable def s166 : Spec := ⟨false, [(.int .i64, false)], true, .int .i64, fun k xs => match xs with | [.int .i64 a, .int .i64 b] => f166 k a b | _ => none⟩
noncomputable def env91 : List (FuncId × Spec) := (166, s166) :: env90
theorem v166 (k : Nat) (a : Int) (b : Int) : runFn ti (envOf env90) 10 [] (finT ti true Go.Proofs.Try.f166.results.toList [(.int .i64, false)] (.int .i64)) k (bodyOf Go.Proofs.Try.f166) (initS 0 [.int .i64 a, .int .i64 b]) = f166 k a b := by kernel_rfl
theorem m166 : Meets Go.Proofs.Try.prog 166 s166 := meets_of_run tiOk env90_ok mo Go.Proofs.Try.func166 (body := bodyOf Go.Proofs.Try.f166) (by kernel_rfl) (N := 10) (by kernel_rfl) (hs := []) (by
  intro k xs r h
  unfold s166 at h
  dsimp only at h
  split at h
  · exact ⟨Nat.le_of_ble_eq_true rfl, (v166 k _ _).trans h⟩
  · cases h)
theorem env91_ok : EnvOk Go.Proofs.Try.prog (envOf env91) := envOf_cons m166 Go.Proofs.Try.func166 (by kernel_rfl) (by kernel_rfl) env90_ok

-- spec.bxNumber
noncomputable def f172 (k : Nat) (n : Int) (k_ : Int) : Option (Int × Int) :=
  (f187 k n k_).bind fun r0 =>
  some ((r0.fst.fst, r0.fst.snd))
noncomputable def s172 : Spec := ⟨false, [(.pair (.int .i64) (.int .i64), true)], true, .pair (.int .i64) (.int .i64), fun k xs => match xs with | [.int .i64 n, .int .i64 k_] => f172 k n k_ | _ => none⟩
noncomputable def env92 : List (FuncId × Spec) := (172, s172) :: env91
theorem v172 (k : Nat) (n : Int) (k_ : Int) : runFn ti (envOf env91) 14 [] (finT ti true Go.Proofs.Try.f172.results.toList [(.pair (.int .i64) (.int .i64), true)] (.pair (.int .i64) (.int .i64))) k (bodyOf Go.Proofs.Try.f172) (initS 0 [.int .i64 n, .int .i64 k_]) = f172 k n k_ := by kernel_rfl
theorem m172 : Meets Go.Proofs.Try.prog 172 s172 := meets_of_run tiOk env91_ok mo Go.Proofs.Try.func172 (body := bodyOf Go.Proofs.Try.f172) (by kernel_rfl) (N := 14) (by kernel_rfl) (hs := []) (by
  intro k xs r h
  unfold s172 at h
  dsimp only at h
  split at h
  · exact ⟨Nat.le_of_ble_eq_true rfl, (v172 k _ _).trans h⟩
  · cases h)
theorem env92_ok : EnvOk Go.Proofs.Try.prog (envOf env92) := envOf_cons m172 Go.Proofs.Try.func172 (by kernel_rfl) (by kernel_rfl) env91_ok

-- spec.faFind
def h115 : Hints := [(1005, .lab [(0, .one (.frz 3 (Ty.int IntKind.i64))), (1, .one (.frz 3 (Ty.int IntKind.i64))), (3, .one (.v)), (4, .one (.v)), (10, .box 29 [.v, .v, .v, .v]), (12, .one (.v)), (14, .one (.v)), (16, .one (.v)), (17, .one (.v))])]
noncomputable def F115_1005 (k : Nat) (rec1005 : List Int → List Int → Int → Int → Int → Int → Int → Int → Int → Int → Int → Int → Option (((Int × Int) × Int × Int) × Bool)) (p : List Int) (q : List Int) (i : Int) (fine : Int) (t10s_0 : Int) (t10s_1 : Int) (t10s_2 : Int) (t10s_3 : Int) (low : Int) (high : Int) (most : Int) (k_ : Int) : Option (((Int × Int) × Int × Int) × Bool) :=
  bif decide (k_ ≤ 6) then
    (f172 k low 5).bind fun r0 =>
    (f172 k high 5).bind fun r1 =>
    (f80 k p q r0.fst r0.snd r1.fst r1.snd i fine).bind fun r2 =>
    bif r2 then
      some ((((r0.fst, r0.snd), r1.fst, r1.snd), true))
    else
      (f90 k k_).bind fun r3 =>
      (f165 k (IntKind.wrap IntKind.i64 (0 - most)) (IntKind.wrap IntKind.i64 (low - r3))).bind fun r4 =>
      (f90 k k_).bind fun r5 =>
      (f166 k most (IntKind.wrap IntKind.i64 (high + r5))).bind fun r6 =>
      rec1005 p q i fine t10s_0 t10s_1 t10s_2 t10s_3 r4 r6 most (IntKind.wrap IntKind.i64 (k_ + 1))
  else
    some ((((0, 0), 0, 0), false))
noncomputable def F115 (k : Nat) (rec1005 : List Int → List Int → Int → Int → Int → Int → Int → Int → Int → Int → Int → Int → Option (((Int × Int) × Int × Int) × Bool)) (p : List (Int)) (q : List (Int)) (x_Low_N : Int) (x_Low_K : Int) (x_High_N : Int) (x_High_K : Int) (i : Int) (fine : Int) : Option (((Int × Int) × Int × Int) × Bool) :=
  (f171 k x_Low_N x_Low_K 5).bind fun r0 =>
  (f171 k x_High_N x_High_K 5).bind fun r1 =>
  rec1005 p q i fine (0) (0) (0) (0) (r0.fst) (r1.fst) (IntKind.wrap IntKind.i64 (8 * IntKind.wrap IntKind.i64 (1 * 2 ^ min (Int.toNat (IntKind.wrap IntKind.u64 5)) (IntKind.bits IntKind.i64)))) (0)
noncomputable def l115 : Nat → (List Int → List Int → Int → Int → Int → Int → Int → Int → Int → Int → Int → Int → Option (((Int × Int) × Int × Int) × Bool))
  | 0 => fun _ _ _ _ _ _ _ _ _ _ _ _ => none
  | k + 1 => F115_1005 k (l115 k)
noncomputable def f115 (k : Nat) (p : List (Int)) (q : List (Int)) (x_Low_N : Int) (x_Low_K : Int) (x_High_N : Int) (x_High_K : Int) (i : Int) (fine : Int) : Option (((Int × Int) × Int × Int) × Bool) := F115 k (l115 k) p q x_Low_N x_Low_K x_High_N x_High_K i fine
noncomputable def s115 : Spec := ⟨false, [(.pair (.pair (.int .i64) (.int .i64)) (.pair (.int .i64) (.int .i64)), true), (.bool, false)], true, .pair (.pair (.pair (.int .i64) (.int .i64)) (.pair (.int .i64) (.int .i64))) (.bool), fun k xs => match xs with | [.slc 3 (.int .i64) p, .slc 3 (.int .i64) q, .agg [.int .i64 x_Low_N, .int .i64 x_Low_K, .int .i64 x_High_N, .int .i64 x_High_K], .int .i64 i, .int .i64 fine] => f115 k p q x_Low_N x_Low_K x_High_N x_High_K i fine | _ => none⟩
noncomputable def env93 : List (FuncId × Spec) := (115, s115) :: env92
noncomputable abbrev x115 := exec ti (envOf env92) 63 h115 (finT ti true Go.Proofs.Try.f115.results.toList [(.pair (.pair (.int .i64) (.int .i64)) (.pair (.int .i64) (.int .i64)), true), (.bool, false)] (.pair (.pair (.pair (.int .i64) (.int .i64)) (.pair (.int .i64) (.int .i64))) (.bool)))
noncomputable def k115_1005 : List It := stackAt [.r, .r, .r, .r, .l, .r, .b, .lb none] (bodyOf Go.Proofs.Try.f115) []
def t115_1005 (p : List Int) (q : List Int) (i : Int) (fine : Int) (t10s_0 : Int) (t10s_1 : Int) (t10s_2 : Int) (t10s_3 : Int) (low : Int) (high : Int) (most : Int) (k_ : Int) : St := [(0, Cell.val (AVal.slc 3 (Ty.int IntKind.i64) p)), (2, Cell.val (AVal.slc 3 (Ty.int IntKind.i64) q)), (6, Cell.val (AVal.int IntKind.i64 i)), (8, Cell.val (AVal.int IntKind.i64 fine)), (20, Cell.val (AVal.ptr 3 0)), (3, Cell.mem true 29 [AVal.int IntKind.i64 t10s_0, AVal.int IntKind.i64 t10s_1, AVal.int IntKind.i64 t10s_2, AVal.int IntKind.i64 t10s_3]), (24, Cell.val (AVal.int IntKind.i64 low)), (28, Cell.val (AVal.int IntKind.i64 high)), (32, Cell.val (AVal.int IntKind.i64 most)), (34, Cell.val (AVal.int IntKind.i64 k_))]
theorem e115_1005 (k : Nat) (p : List Int) (q : List Int) (i : Int) (fine : Int) (t10s_0 : Int) (t10s_1 : Int) (t10s_2 : Int) (t10s_3 : Int) (low : Int) (high : Int) (most : Int) (k_ : Int) : x115 (k + 1) k115_1005 (t115_1005 p q i fine t10s_0 t10s_1 t10s_2 t10s_3 low high most k_) = F115_1005 k (fun (p : List Int) (q : List Int) (i : Int) (fine : Int) (t10s_0 : Int) (t10s_1 : Int) (t10s_2 : Int) (t10s_3 : Int) (low : Int) (high : Int) (most : Int) (k_ : Int) => x115 k k115_1005 (t115_1005 p q i fine t10s_0 t10s_1 t10s_2 t10s_3 low high most k_)) p q i fine t10s_0 t10s_1 t10s_2 t10s_3 low high most k_ := by kernel_rfl
theorem q115 : ∀ k : Nat, (fun (p : List Int) (q : List Int) (i : Int) (fine : Int) (t10s_0 : Int) (t10s_1 : Int) (t10s_2 : Int) (t10s_3 : Int) (low : Int) (high : Int) (most : Int) (k_ : Int) => x115 k k115_1005 (t115_1005 p q i fine t10s_0 t10s_1 t10s_2 t10s_3 low high most k_)) = l115 k
  | 0 => rfl
  | k + 1 => by
    have h := q115 k
    show _ = F115_1005 k (l115 k)
    rw [← h]
    exact (funext fun p => funext fun q => funext fun i => funext fun fine => funext fun t10s_0 => funext fun t10s_1 => funext fun t10s_2 => funext fun t10s_3 => funext fun low => funext fun high => funext fun most => funext fun k_ => e115_1005 k p q i fine t10s_0 t10s_1 t10s_2 t10s_3 low high most k_)
theorem w115 (k : Nat) (p : List (Int)) (q : List (Int)) (x_Low_N : Int) (x_Low_K : Int) (x_High_N : Int) (x_High_K : Int) (i : Int) (fine : Int) : runFn ti (envOf env92) 63 h115 (finT ti true Go.Proofs.Try.f115.results.toList [(.pair (.pair (.int .i64) (.int .i64)) (.pair (.int .i64) (.int .i64)), true), (.bool, false)] (.pair (.pair (.pair (.int .i64) (.int .i64)) (.pair (.int .i64) (.int .i64))) (.bool))) k (bodyOf Go.Proofs.Try.f115) (initS 0 [.slc 3 (.int .i64) p, .slc 3 (.int .i64) q, .agg [.int .i64 x_Low_N, .int .i64 x_Low_K, .int .i64 x_High_N, .int .i64 x_High_K], .int .i64 i, .int .i64 fine]) = F115 k (fun (p : List Int) (q : List Int) (i : Int) (fine : Int) (t10s_0 : Int) (t10s_1 : Int) (t10s_2 : Int) (t10s_3 : Int) (low : Int) (high : Int) (most : Int) (k_ : Int) => x115 k k115_1005 (t115_1005 p q i fine t10s_0 t10s_1 t10s_2 t10s_3 low high most k_)) p q x_Low_N x_Low_K x_High_N x_High_K i fine := by kernel_rfl
theorem v115 (k : Nat) (p : List (Int)) (q : List (Int)) (x_Low_N : Int) (x_Low_K : Int) (x_High_N : Int) (x_High_K : Int) (i : Int) (fine : Int) : runFn ti (envOf env92) 63 h115 (finT ti true Go.Proofs.Try.f115.results.toList [(.pair (.pair (.int .i64) (.int .i64)) (.pair (.int .i64) (.int .i64)), true), (.bool, false)] (.pair (.pair (.pair (.int .i64) (.int .i64)) (.pair (.int .i64) (.int .i64))) (.bool))) k (bodyOf Go.Proofs.Try.f115) (initS 0 [.slc 3 (.int .i64) p, .slc 3 (.int .i64) q, .agg [.int .i64 x_Low_N, .int .i64 x_Low_K, .int .i64 x_High_N, .int .i64 x_High_K], .int .i64 i, .int .i64 fine]) = f115 k p q x_Low_N x_Low_K x_High_N x_High_K i fine := by
  rw [w115]
  have h := q115 k
  unfold f115
  rw [← h]
theorem m115 : Meets Go.Proofs.Try.prog 115 s115 := meets_of_run tiOk env92_ok mo Go.Proofs.Try.func115 (body := bodyOf Go.Proofs.Try.f115) (by kernel_rfl) (N := 63) (by kernel_rfl) (hs := h115) (by
  intro k xs r h
  unfold s115 at h
  dsimp only at h
  split at h
  · exact ⟨Nat.le_of_ble_eq_true rfl, (v115 k _ _ _ _ _ _ _ _).trans h⟩
  · cases h)
theorem env93_ok : EnvOk Go.Proofs.Try.prog (envOf env93) := envOf_cons m115 Go.Proofs.Try.func115 (by kernel_rfl) (by kernel_rfl) env92_ok

-- spec.FindStep
noncomputable def f60 (k : Nat) (p : List (Int)) (q : List (Int)) (x_Low_N : Int) (x_Low_K : Int) (x_High_N : Int) (x_High_K : Int) (i : Int) (fine : Int) : Option (((Int × Int) × Int × Int) × Bool) :=
  (f79 k p q i fine).bind fun r0 =>
  bif !r0 then
    some ((((0, 0), 0, 0), false))
  else
    (f68 k x_Low_N x_Low_K x_High_N x_High_K).bind fun r1 =>
    bif !r1 then
      some ((((0, 0), 0, 0), false))
    else
      (f115 k p q x_Low_N x_Low_K x_High_N x_High_K i fine).bind fun r2 =>
      some ((((r2.fst.fst.fst, r2.fst.fst.snd), r2.fst.snd.fst, r2.fst.snd.snd), r2.snd))
noncomputable def s60 : Spec := ⟨false, [(.pair (.pair (.int .i64) (.int .i64)) (.pair (.int .i64) (.int .i64)), true), (.bool, false)], true, .pair (.pair (.pair (.int .i64) (.int .i64)) (.pair (.int .i64) (.int .i64))) (.bool), fun k xs => match xs with | [.slc 3 (.int .i64) p, .slc 3 (.int .i64) q, .agg [.int .i64 x_Low_N, .int .i64 x_Low_K, .int .i64 x_High_N, .int .i64 x_High_K], .int .i64 i, .int .i64 fine] => f60 k p q x_Low_N x_Low_K x_High_N x_High_K i fine | _ => none⟩
noncomputable def env94 : List (FuncId × Spec) := (60, s60) :: env93
theorem v60 (k : Nat) (p : List (Int)) (q : List (Int)) (x_Low_N : Int) (x_Low_K : Int) (x_High_N : Int) (x_High_K : Int) (i : Int) (fine : Int) : runFn ti (envOf env93) 32 [] (finT ti true Go.Proofs.Try.f60.results.toList [(.pair (.pair (.int .i64) (.int .i64)) (.pair (.int .i64) (.int .i64)), true), (.bool, false)] (.pair (.pair (.pair (.int .i64) (.int .i64)) (.pair (.int .i64) (.int .i64))) (.bool))) k (bodyOf Go.Proofs.Try.f60) (initS 0 [.slc 3 (.int .i64) p, .slc 3 (.int .i64) q, .agg [.int .i64 x_Low_N, .int .i64 x_Low_K, .int .i64 x_High_N, .int .i64 x_High_K], .int .i64 i, .int .i64 fine]) = f60 k p q x_Low_N x_Low_K x_High_N x_High_K i fine := by kernel_rfl
theorem m60 : Meets Go.Proofs.Try.prog 60 s60 := meets_of_run tiOk env93_ok mo Go.Proofs.Try.func60 (body := bodyOf Go.Proofs.Try.f60) (by kernel_rfl) (N := 32) (by kernel_rfl) (hs := []) (by
  intro k xs r h
  unfold s60 at h
  dsimp only at h
  split at h
  · exact ⟨Nat.le_of_ble_eq_true rfl, (v60 k _ _ _ _ _ _ _ _).trans h⟩
  · cases h)
theorem env94_ok : EnvOk Go.Proofs.Try.prog (envOf env94) := envOf_cons m60 Go.Proofs.Try.func60 (by kernel_rfl) (by kernel_rfl) env93_ok

-- impl.familySign
noncomputable def f137 (k : Nat) (p : List (Int)) (q : List (Int)) (x_N : Int) (x_K : Int) (i : Int) (k_ : Int) (fine : Int) : Option (Int) :=
  (f77 k p q i fine).bind fun r0 =>
  (f131 k r0 x_N x_K).bind fun r1 =>
  (f77 k p q k_ fine).bind fun r2 =>
  (f131 k r2 x_N x_K).bind fun r3 =>
  bif !decide (r3 = r1) then
    some (0)
  else
    some r1
noncomputable def s137 : Spec := ⟨false, [(.int .i64, false)], true, .int .i64, fun k xs => match xs with | [.slc 3 (.int .i64) p, .slc 3 (.int .i64) q, .agg [.int .i64 x_N, .int .i64 x_K], .int .i64 i, .int .i64 k_, .int .i64 fine] => f137 k p q x_N x_K i k_ fine | _ => none⟩
noncomputable def env95 : List (FuncId × Spec) := (137, s137) :: env94
theorem v137 (k : Nat) (p : List (Int)) (q : List (Int)) (x_N : Int) (x_K : Int) (i : Int) (k_ : Int) (fine : Int) : runFn ti (envOf env94) 31 [] (finT ti true Go.Proofs.Try.f137.results.toList [(.int .i64, false)] (.int .i64)) k (bodyOf Go.Proofs.Try.f137) (initS 0 [.slc 3 (.int .i64) p, .slc 3 (.int .i64) q, .agg [.int .i64 x_N, .int .i64 x_K], .int .i64 i, .int .i64 k_, .int .i64 fine]) = f137 k p q x_N x_K i k_ fine := by kernel_rfl
theorem m137 : Meets Go.Proofs.Try.prog 137 s137 := meets_of_run tiOk env94_ok mo Go.Proofs.Try.func137 (body := bodyOf Go.Proofs.Try.f137) (by kernel_rfl) (N := 31) (by kernel_rfl) (hs := []) (by
  intro k xs r h
  unfold s137 at h
  dsimp only at h
  split at h
  · exact ⟨Nat.le_of_ble_eq_true rfl, (v137 k _ _ _ _ _ _ _).trans h⟩
  · cases h)
theorem env95_ok : EnvOk Go.Proofs.Try.prog (envOf env95) := envOf_cons m137 Go.Proofs.Try.func137 (by kernel_rfl) (by kernel_rfl) env94_ok

-- impl.deriveSingle
def h202 : Hints := [(1003, .lab [(0, .one (.frz 3 (Ty.int IntKind.i64))), (3, .one (.own 3 (Ty.int IntKind.i64))), (4, .one (.v))])]
noncomputable def F202_1003 (k : Nat) (rec1003 : List Int → List Int → Int → Option (List (Int))) (p : List Int) (outs : List Int) (i : Int) : Option (List (Int)) :=
  bif decide (i < (↑(List.length p) : Int)) then
    bif boundA i (List.length p) then
      bif decide ((List.length outs + List.length [IntKind.wrap IntKind.i64 (i * List.getD p (Int.toNat i) 0)]) * 8 ≤ 140737488355328) then
        rec1003 p (outs ++ [IntKind.wrap IntKind.i64 (i * List.getD p (Int.toNat i) 0)]) (IntKind.wrap IntKind.i64 (i + 1))
      else
        none
    else
      none
  else
    (f198 k outs).bind fun r0 =>
    some r0
noncomputable def F202 (k : Nat) (rec1003 : List Int → List Int → Int → Option (List (Int))) (p : List (Int)) : Option (List (Int)) :=
  rec1003 p ([]) (1)
noncomputable def l202 : Nat → (List Int → List Int → Int → Option (List (Int)))
  | 0 => fun _ _ _ => none
  | k + 1 => F202_1003 k (l202 k)
noncomputable def f202 (k : Nat) (p : List (Int)) : Option (List (Int)) := F202 k (l202 k) p
noncomputable def s202 : Spec := ⟨false, [(.slice 3 (.int .i64), false)], true, .slice 3 (.int .i64), fun k xs => match xs with | [.slc 3 (.int .i64) p] => f202 k p | _ => none⟩
noncomputable def env96 : List (FuncId × Spec) := (202, s202) :: env95
noncomputable abbrev x202 := exec ti (envOf env95) 22 h202 (finT ti true Go.Proofs.Try.f202.results.toList [(.slice 3 (.int .i64), false)] (.slice 3 (.int .i64)))
noncomputable def k202_1003 : List It := stackAt [.r, .r, .l, .r, .b, .lb none] (bodyOf Go.Proofs.Try.f202) []
def t202_1003 (p : List Int) (outs : List Int) (i : Int) : St := [(0, Cell.val (AVal.slc 3 (Ty.int IntKind.i64) p)), (6, Cell.val (AVal.ref 3 none)), (3, Cell.row true 3 (Ty.int IntKind.i64) outs), (8, Cell.val (AVal.int IntKind.i64 i))]
theorem e202_1003 (k : Nat) (p : List Int) (outs : List Int) (i : Int) : x202 (k + 1) k202_1003 (t202_1003 p outs i) = F202_1003 k (fun (p : List Int) (outs : List Int) (i : Int) => x202 k k202_1003 (t202_1003 p outs i)) p outs i := by kernel_rfl
theorem q202 : ∀ k : Nat, (fun (p : List Int) (outs : List Int) (i : Int) => x202 k k202_1003 (t202_1003 p outs i)) = l202 k
  | 0 => rfl
  | k + 1 => by
    have h := q202 k
    show _ = F202_1003 k (l202 k)
    rw [← h]
    exact (funext fun p => funext fun outs => funext fun i => e202_1003 k p outs i)
theorem w202 (k : Nat) (p : List (Int)) : runFn ti (envOf env95) 22 h202 (finT ti true Go.Proofs.Try.f202.results.toList [(.slice 3 (.int .i64), false)] (.slice 3 (.int .i64))) k (bodyOf Go.Proofs.Try.f202) (initS 0 [.slc 3 (.int .i64) p]) = F202 k (fun (p : List Int) (outs : List Int) (i : Int) => x202 k k202_1003 (t202_1003 p outs i)) p := by kernel_rfl
theorem v202 (k : Nat) (p : List (Int)) : runFn ti (envOf env95) 22 h202 (finT ti true Go.Proofs.Try.f202.results.toList [(.slice 3 (.int .i64), false)] (.slice 3 (.int .i64))) k (bodyOf Go.Proofs.Try.f202) (initS 0 [.slc 3 (.int .i64) p]) = f202 k p := by
  rw [w202]
  have h := q202 k
  unfold f202
  rw [← h]
theorem m202 : Meets Go.Proofs.Try.prog 202 s202 := meets_of_run tiOk env95_ok mo Go.Proofs.Try.func202 (body := bodyOf Go.Proofs.Try.f202) (by kernel_rfl) (N := 22) (by kernel_rfl) (hs := h202) (by
  intro k xs r h
  unfold s202 at h
  dsimp only at h
  split at h
  · exact ⟨Nat.le_of_ble_eq_true rfl, (v202 k _).trans h⟩
  · cases h)
theorem env96_ok : EnvOk Go.Proofs.Try.prog (envOf env96) := envOf_cons m202 Go.Proofs.Try.func202 (by kernel_rfl) (by kernel_rfl) env95_ok

end Go.Proofs.YtbaeikcfchiiaaaE
