/- Functions, by the engine; printed. -/
import Derived.Test.YtbaeikcfchiiaaaCT7
set_option maxRecDepth 100000
set_option maxHeartbeats 4000000
set_option linter.unusedVariables false
namespace Go.Proofs.YtbaeikcfchiiaaaE
-- impl.overInterval
def h203 : Hints := [(1005, .lab [(0, .one (.frz 3 (Ty.int IntKind.i64))), (6, .one (.v)), (7, .one (.v)), (8, .one (.v)), (9, .one (.own 3 (Ty.int IntKind.i64))), (40, .one (.frz 3 (Ty.int IntKind.i64))), (41, .one (.v)), (42, .one (.v))]), (1010, .lab [(0, .one (.frz 3 (Ty.int IntKind.i64))), (9, .one (.own 3 (Ty.int IntKind.i64)))])]
def F203_1005 (k : Nat) (rec1005 : List Int → Int → Int → Int → List Int → List Int → Int → Int → Option (List (Int))) (rec1010 : List Int → List Int → Option (List (Int))) (L : List Int) (o : Int) (A : Int) (r : Int) (r_9s : List Int) (t40 : List Int) (t41 : Int) (t42 : Int) : Option (List (Int)) :=
  bif decide (t42 < t41) then
    bif boundA t42 (List.length t40) then
      (f249 k [o, A] t42).bind fun r0 =>
      (f249 k [r, r] (IntKind.wrap IntKind.i64 (IntKind.wrap IntKind.i64 ((↑(List.length L) : Int) - 1) - t42))).bind fun r1 =>
      (f134 k r0 r1).bind fun r2 =>
      (f134 k r2 [List.getD t40 (Int.toNat t42) 0]).bind fun r3 =>
      (f133 k r_9s r3).bind fun r4 =>
      rec1005 L o A r r4 t40 t41 (IntKind.wrap IntKind.i64 (t42 + 1))
    else
      none
  else
    rec1010 L r_9s
def F203_1010 (k : Nat) (rec1005 : List Int → Int → Int → Int → List Int → List Int → Int → Int → Option (List (Int))) (rec1010 : List Int → List Int → Option (List (Int))) (L : List Int) (rs : List Int) : Option (List (Int)) :=
  bif decide ((↑(List.length rs) : Int) < (↑(List.length L) : Int)) then
    bif decide ((List.length rs + List.length [0]) * 8 ≤ 140737488355328) then
      rec1010 L (rs ++ [0])
    else
      none
  else
    some rs
def F203 (k : Nat) (rec1005 : List Int → Int → Int → Int → List Int → List Int → Int → Int → Option (List (Int))) (rec1010 : List Int → List Int → Option (List (Int))) (L : List (Int)) (i_Low_N : Int) (i_Low_K : Int) (i_High_N : Int) (i_High_K : Int) : Option (List (Int)) :=
  bif !decide (IntKind.wrap IntKind.i64 ((bif decide (i_Low_K < i_High_K) then i_High_K else i_Low_K) - i_Low_K) < 0) then
    bif !decide (IntKind.wrap IntKind.i64 ((bif decide (i_Low_K < i_High_K) then i_High_K else i_Low_K) - i_High_K) < 0) then
      bif !decide ((bif decide (i_Low_K < i_High_K) then i_High_K else i_Low_K) < 0) then
        rec1005 L (IntKind.wrap IntKind.i64 (i_Low_N * 2 ^ min (Int.toNat (IntKind.wrap IntKind.i64 ((bif decide (i_Low_K < i_High_K) then i_High_K else i_Low_K) - i_Low_K))) (IntKind.bits IntKind.i64))) (IntKind.wrap IntKind.i64 (i_High_N * 2 ^ min (Int.toNat (IntKind.wrap IntKind.i64 ((bif decide (i_Low_K < i_High_K) then i_High_K else i_Low_K) - i_High_K))) (IntKind.bits IntKind.i64))) (IntKind.wrap IntKind.i64 (1 * 2 ^ min (Int.toNat (bif decide (i_Low_K < i_High_K) then i_High_K else i_Low_K)) (IntKind.bits IntKind.i64))) ([]) L ((↑(List.length L) : Int)) (0)
      else
        none
    else
      none
  else
    none
def l203 : Nat → (List Int → Int → Int → Int → List Int → List Int → Int → Int → Option (List (Int))) × (List Int → List Int → Option (List (Int)))
  | 0 => (fun _ _ _ _ _ _ _ _ => none, fun _ _ => none)
  | k + 1 => (F203_1005 k ((l203 k).1) ((l203 k).2), F203_1010 k ((l203 k).1) ((l203 k).2))
def f203 (k : Nat) (L : List (Int)) (i_Low_N : Int) (i_Low_K : Int) (i_High_N : Int) (i_High_K : Int) : Option (List (Int)) := F203 k ((l203 k).1) ((l203 k).2) L i_Low_N i_Low_K i_High_N i_High_K
def s203 : Spec := ⟨false, [(.slice 3 (.int .i64), false)], true, .slice 3 (.int .i64), fun k xs => match xs with | [.slc 3 (.int .i64) L, .agg [.int .i64 i_Low_N, .int .i64 i_Low_K, .int .i64 i_High_N, .int .i64 i_High_K]] => f203 k L i_Low_N i_Low_K i_High_N i_High_K | _ => none⟩
def env85 : List (FuncId × Spec) := (203, s203) :: env84
noncomputable abbrev x203 := exec ti (envOf env84) 78 h203 (finT ti true Go.Proofs.Try.f203.results.toList [(.slice 3 (.int .i64), false)] (.slice 3 (.int .i64)))
noncomputable def k203_1005 : List It := stackAt [.r, .r, .r, .r, .l, .r, .b, .lb none] (bodyOf Go.Proofs.Try.f203) []
def t203_1005 (L : List Int) (o : Int) (A : Int) (r : Int) (r_9s : List Int) (t40 : List Int) (t41 : Int) (t42 : Int) : St := [(0, Cell.val (AVal.slc 3 (Ty.int IntKind.i64) L)), (12, Cell.val (AVal.int IntKind.i64 o)), (14, Cell.val (AVal.int IntKind.i64 A)), (16, Cell.val (AVal.int IntKind.i64 r)), (18, Cell.val (AVal.ref 3 none)), (3, Cell.row true 3 (Ty.int IntKind.i64) r_9s), (80, Cell.val (AVal.slc 3 (Ty.int IntKind.i64) t40)), (82, Cell.val (AVal.int IntKind.i64 t41)), (84, Cell.val (AVal.int IntKind.i64 t42))]
noncomputable def k203_1010 : List It := stackAt [.r, .r, .r, .r, .r, .l, .b, .lb none] (bodyOf Go.Proofs.Try.f203) []
def t203_1010 (L : List Int) (rs : List Int) : St := [(0, Cell.val (AVal.slc 3 (Ty.int IntKind.i64) L)), (18, Cell.val (AVal.ref 3 none)), (3, Cell.row true 3 (Ty.int IntKind.i64) rs)]
theorem e203_1005 (k : Nat) (L : List Int) (o : Int) (A : Int) (r : Int) (r_9s : List Int) (t40 : List Int) (t41 : Int) (t42 : Int) : x203 (k + 1) k203_1005 (t203_1005 L o A r r_9s t40 t41 t42) = F203_1005 k (fun (L : List Int) (o : Int) (A : Int) (r : Int) (r_9s : List Int) (t40 : List Int) (t41 : Int) (t42 : Int) => x203 k k203_1005 (t203_1005 L o A r r_9s t40 t41 t42)) (fun (L : List Int) (rs : List Int) => x203 k k203_1010 (t203_1010 L rs)) L o A r r_9s t40 t41 t42 := by kernel_rfl
theorem e203_1010 (k : Nat) (L : List Int) (rs : List Int) : x203 (k + 1) k203_1010 (t203_1010 L rs) = F203_1010 k (fun (L : List Int) (o : Int) (A : Int) (r : Int) (r_9s : List Int) (t40 : List Int) (t41 : Int) (t42 : Int) => x203 k k203_1005 (t203_1005 L o A r r_9s t40 t41 t42)) (fun (L : List Int) (rs : List Int) => x203 k k203_1010 (t203_1010 L rs)) L rs := by kernel_rfl
theorem q203 : ∀ k : Nat, ((fun (L : List Int) (o : Int) (A : Int) (r : Int) (r_9s : List Int) (t40 : List Int) (t41 : Int) (t42 : Int) => x203 k k203_1005 (t203_1005 L o A r r_9s t40 t41 t42)), (fun (L : List Int) (rs : List Int) => x203 k k203_1010 (t203_1010 L rs))) = l203 k
  | 0 => rfl
  | k + 1 => by
    have h := q203 k
    show _ = (F203_1005 k ((l203 k).1) ((l203 k).2), F203_1010 k ((l203 k).1) ((l203 k).2))
    rw [← h]
    exact (Prod.ext (funext fun L => funext fun o => funext fun A => funext fun r => funext fun r_9s => funext fun t40 => funext fun t41 => funext fun t42 => e203_1005 k L o A r r_9s t40 t41 t42) (funext fun L => funext fun rs => e203_1010 k L rs))
theorem w203 (k : Nat) (L : List (Int)) (i_Low_N : Int) (i_Low_K : Int) (i_High_N : Int) (i_High_K : Int) : runFn ti (envOf env84) 78 h203 (finT ti true Go.Proofs.Try.f203.results.toList [(.slice 3 (.int .i64), false)] (.slice 3 (.int .i64))) k (bodyOf Go.Proofs.Try.f203) (initS 0 [.slc 3 (.int .i64) L, .agg [.int .i64 i_Low_N, .int .i64 i_Low_K, .int .i64 i_High_N, .int .i64 i_High_K]]) = F203 k (fun (L : List Int) (o : Int) (A : Int) (r : Int) (r_9s : List Int) (t40 : List Int) (t41 : Int) (t42 : Int) => x203 k k203_1005 (t203_1005 L o A r r_9s t40 t41 t42)) (fun (L : List Int) (rs : List Int) => x203 k k203_1010 (t203_1010 L rs)) L i_Low_N i_Low_K i_High_N i_High_K := by kernel_rfl
theorem v203 (k : Nat) (L : List (Int)) (i_Low_N : Int) (i_Low_K : Int) (i_High_N : Int) (i_High_K : Int) : runFn ti (envOf env84) 78 h203 (finT ti true Go.Proofs.Try.f203.results.toList [(.slice 3 (.int .i64), false)] (.slice 3 (.int .i64))) k (bodyOf Go.Proofs.Try.f203) (initS 0 [.slc 3 (.int .i64) L, .agg [.int .i64 i_Low_N, .int .i64 i_Low_K, .int .i64 i_High_N, .int .i64 i_High_K]]) = f203 k L i_Low_N i_Low_K i_High_N i_High_K := by
  rw [w203]
  have h := q203 k
  unfold f203
  rw [← h]
theorem m203 : Meets Go.Proofs.Try.prog 203 s203 := meets_of_run tiOk env84_ok mo Go.Proofs.Try.func203 (body := bodyOf Go.Proofs.Try.f203) (by kernel_rfl) (N := 78) (by kernel_rfl) (hs := h203) (by
  intro k xs r h
  unfold s203 at h
  dsimp only at h
  split at h
  · exact ⟨Nat.le_of_ble_eq_true rfl, (v203 k _ _ _ _ _).trans h⟩
  · cases h)
theorem env85_ok : EnvOk Go.Proofs.Try.prog (envOf env85) := envOf_cons m203 Go.Proofs.Try.func203 (by kernel_rfl) (by kernel_rfl) env84_ok

-- slices.Min[[]int,int]
def h250 : Hints := [(1005, .lab [(0, .one (.frz 3 (Ty.int IntKind.i64))), (3, .one (.v)), (4, .one (.v))])]
def F250_1005 (k : Nat) (rec1005 : List Int → Int → Int → Option (Int)) (x : List Int) (m : Int) (i : Int) : Option (Int) :=
  bif decide (i < (↑(List.length x) : Int)) then
    bif boundA i (List.length x) then
      rec1005 x (bif decide (List.getD x (Int.toNat i) 0 < m) then List.getD x (Int.toNat i) 0 else m) (IntKind.wrap IntKind.i64 (i + 1))
    else
      none
  else
    some m
def F250 (k : Nat) (rec1005 : List Int → Int → Int → Option (Int)) (x : List (Int)) : Option (Int) :=
  bif decide ((↑(List.length x) : Int) < 1) then
    none
  else
    bif boundA 0 (List.length x) then
      rec1005 x (List.getD x (Int.toNat 0) 0) (1)
    else
      none
def l250 : Nat → (List Int → Int → Int → Option (Int))
  | 0 => fun _ _ _ => none
  | k + 1 => F250_1005 k (l250 k)
def f250 (k : Nat) (x : List (Int)) : Option (Int) := F250 k (l250 k) x
def s250 : Spec := ⟨false, [(.int .i64, false)], true, .int .i64, fun k xs => match xs with | [.slc 3 (.int .i64) x] => f250 k x | _ => none⟩
def env86 : List (FuncId × Spec) := (250, s250) :: env85
noncomputable abbrev x250 := exec ti (envOf env85) 25 h250 (finT ti true Go.Proofs.Try.f250.results.toList [(.int .i64, false)] (.int .i64))
noncomputable def k250_1005 : List It := stackAt [.r, .r, .r, .l, .r, .b, .lb none] (bodyOf Go.Proofs.Try.f250) []
def t250_1005 (x : List Int) (m : Int) (i : Int) : St := [(0, Cell.val (AVal.slc 3 (Ty.int IntKind.i64) x)), (6, Cell.val (AVal.int IntKind.i64 m)), (8, Cell.val (AVal.int IntKind.i64 i))]
theorem e250_1005 (k : Nat) (x : List Int) (m : Int) (i : Int) : x250 (k + 1) k250_1005 (t250_1005 x m i) = F250_1005 k (fun (x : List Int) (m : Int) (i : Int) => x250 k k250_1005 (t250_1005 x m i)) x m i := by kernel_rfl
theorem q250 : ∀ k : Nat, (fun (x : List Int) (m : Int) (i : Int) => x250 k k250_1005 (t250_1005 x m i)) = l250 k
  | 0 => rfl
  | k + 1 => by
    have h := q250 k
    show _ = F250_1005 k (l250 k)
    rw [← h]
    exact (funext fun x => funext fun m => funext fun i => e250_1005 k x m i)
theorem w250 (k : Nat) (x : List (Int)) : runFn ti (envOf env85) 25 h250 (finT ti true Go.Proofs.Try.f250.results.toList [(.int .i64, false)] (.int .i64)) k (bodyOf Go.Proofs.Try.f250) (initS 0 [.slc 3 (.int .i64) x]) = F250 k (fun (x : List Int) (m : Int) (i : Int) => x250 k k250_1005 (t250_1005 x m i)) x := by kernel_rfl
theorem v250 (k : Nat) (x : List (Int)) : runFn ti (envOf env85) 25 h250 (finT ti true Go.Proofs.Try.f250.results.toList [(.int .i64, false)] (.int .i64)) k (bodyOf Go.Proofs.Try.f250) (initS 0 [.slc 3 (.int .i64) x]) = f250 k x := by
  rw [w250]
  have h := q250 k
  unfold f250
  rw [← h]
theorem m250 : Meets Go.Proofs.Try.prog 250 s250 := meets_of_run tiOk env85_ok mo Go.Proofs.Try.func250 (body := bodyOf Go.Proofs.Try.f250) (by kernel_rfl) (N := 25) (by kernel_rfl) (hs := h250) (by
  intro k xs r h
  unfold s250 at h
  dsimp only at h
  split at h
  · exact ⟨Nat.le_of_ble_eq_true rfl, (v250 k _).trans h⟩
  · cases h)
theorem env86_ok : EnvOk Go.Proofs.Try.prog (envOf env86) := envOf_cons m250 Go.Proofs.Try.func250 (by kernel_rfl) (by kernel_rfl) env85_ok

-- slices.Max[[]int,int]
def h251 : Hints := [(1005, .lab [(0, .one (.frz 3 (Ty.int IntKind.i64))), (3, .one (.v)), (4, .one (.v))])]
def F251_1005 (k : Nat) (rec1005 : List Int → Int → Int → Option (Int)) (x : List Int) (m : Int) (i : Int) : Option (Int) :=
  bif decide (i < (↑(List.length x) : Int)) then
    bif boundA i (List.length x) then
      rec1005 x (bif decide (m < List.getD x (Int.toNat i) 0) then List.getD x (Int.toNat i) 0 else m) (IntKind.wrap IntKind.i64 (i + 1))
    else
      none
  else
    some m
def F251 (k : Nat) (rec1005 : List Int → Int → Int → Option (Int)) (x : List (Int)) : Option (Int) :=
  bif decide ((↑(List.length x) : Int) < 1) then
    none
  else
    bif boundA 0 (List.length x) then
      rec1005 x (List.getD x (Int.toNat 0) 0) (1)
    else
      none
def l251 : Nat → (List Int → Int → Int → Option (Int))
  | 0 => fun _ _ _ => none
  | k + 1 => F251_1005 k (l251 k)
def f251 (k : Nat) (x : List (Int)) : Option (Int) := F251 k (l251 k) x
def s251 : Spec := ⟨false, [(.int .i64, false)], true, .int .i64, fun k xs => match xs with | [.slc 3 (.int .i64) x] => f251 k x | _ => none⟩
def env87 : List (FuncId × Spec) := (251, s251) :: env86
noncomputable abbrev x251 := exec ti (envOf env86) 25 h251 (finT ti true Go.Proofs.Try.f251.results.toList [(.int .i64, false)] (.int .i64))
noncomputable def k251_1005 : List It := stackAt [.r, .r, .r, .l, .r, .b, .lb none] (bodyOf Go.Proofs.Try.f251) []
def t251_1005 (x : List Int) (m : Int) (i : Int) : St := [(0, Cell.val (AVal.slc 3 (Ty.int IntKind.i64) x)), (6, Cell.val (AVal.int IntKind.i64 m)), (8, Cell.val (AVal.int IntKind.i64 i))]
theorem e251_1005 (k : Nat) (x : List Int) (m : Int) (i : Int) : x251 (k + 1) k251_1005 (t251_1005 x m i) = F251_1005 k (fun (x : List Int) (m : Int) (i : Int) => x251 k k251_1005 (t251_1005 x m i)) x m i := by kernel_rfl
theorem q251 : ∀ k : Nat, (fun (x : List Int) (m : Int) (i : Int) => x251 k k251_1005 (t251_1005 x m i)) = l251 k
  | 0 => rfl
  | k + 1 => by
    have h := q251 k
    show _ = F251_1005 k (l251 k)
    rw [← h]
    exact (funext fun x => funext fun m => funext fun i => e251_1005 k x m i)
theorem w251 (k : Nat) (x : List (Int)) : runFn ti (envOf env86) 25 h251 (finT ti true Go.Proofs.Try.f251.results.toList [(.int .i64, false)] (.int .i64)) k (bodyOf Go.Proofs.Try.f251) (initS 0 [.slc 3 (.int .i64) x]) = F251 k (fun (x : List Int) (m : Int) (i : Int) => x251 k k251_1005 (t251_1005 x m i)) x := by kernel_rfl
theorem v251 (k : Nat) (x : List (Int)) : runFn ti (envOf env86) 25 h251 (finT ti true Go.Proofs.Try.f251.results.toList [(.int .i64, false)] (.int .i64)) k (bodyOf Go.Proofs.Try.f251) (initS 0 [.slc 3 (.int .i64) x]) = f251 k x := by
  rw [w251]
  have h := q251 k
  unfold f251
  rw [← h]
theorem m251 : Meets Go.Proofs.Try.prog 251 s251 := meets_of_run tiOk env86_ok mo Go.Proofs.Try.func251 (body := bodyOf Go.Proofs.Try.f251) (by kernel_rfl) (N := 25) (by kernel_rfl) (hs := h251) (by
  intro k xs r h
  unfold s251 at h
  dsimp only at h
  split at h
  · exact ⟨Nat.le_of_ble_eq_true rfl, (v251 k _).trans h⟩
  · cases h)
theorem env87_ok : EnvOk Go.Proofs.Try.prog (envOf env87) := envOf_cons m251 Go.Proofs.Try.func251 (by kernel_rfl) (by kernel_rfl) env86_ok

-- impl.commonSign
def f204 (k : Nat) (list : List (Int)) : Option (Int) :=
  (f250 k list).bind fun r0 =>
  bif decide (0 < r0) then
    some (1)
  else
    (f251 k list).bind fun r1 =>
    bif decide (r1 < 0) then
      some (-1)
    else
      some (0)
def s204 : Spec := ⟨false, [(.int .i64, false)], true, .int .i64, fun k xs => match xs with | [.slc 3 (.int .i64) list] => f204 k list | _ => none⟩
def env88 : List (FuncId × Spec) := (204, s204) :: env87
theorem v204 (k : Nat) (list : List (Int)) : runFn ti (envOf env87) 11 [] (finT ti true Go.Proofs.Try.f204.results.toList [(.int .i64, false)] (.int .i64)) k (bodyOf Go.Proofs.Try.f204) (initS 0 [.slc 3 (.int .i64) list]) = f204 k list := by kernel_rfl
theorem m204 : Meets Go.Proofs.Try.prog 204 s204 := meets_of_run tiOk env87_ok mo Go.Proofs.Try.func204 (body := bodyOf Go.Proofs.Try.f204) (by kernel_rfl) (N := 11) (by kernel_rfl) (hs := []) (by
  intro k xs r h
  unfold s204 at h
  dsimp only at h
  split at h
  · exact ⟨Nat.le_of_ble_eq_true rfl, (v204 k _).trans h⟩
  · cases h)
theorem env88_ok : EnvOk Go.Proofs.Try.prog (envOf env88) := envOf_cons m204 Go.Proofs.Try.func204 (by kernel_rfl) (by kernel_rfl) env87_ok

-- impl.slopeSign
def h138 : Hints := [(1003, .lab [(0, .one (.frz 3 (Ty.int IntKind.i64))), (1, .one (.frz 3 (Ty.int IntKind.i64))), (3, .one (.v)), (4, .one (.v)), (7, .box 29 [.v, .v, .v, .v]), (11, .one (.own 3 (Ty.int IntKind.i64))), (12, .one (.v))]), (1006, .lab [(0, .one (.frz 3 (Ty.int IntKind.i64))), (1, .one (.frz 3 (Ty.int IntKind.i64))), (3, .one (.v)), (4, .one (.v)), (7, .box 29 [.v, .v, .v, .v]), (11, .one (.own 3 (Ty.int IntKind.i64))), (12, .one (.v)), (13, .one (.own 3 (Ty.int IntKind.i64)))])]
def F138_1003 (k : Nat) (rec1003 : List Int → List Int → Int → Int → Int → Int → Int → Int → List Int → Int → Option (Int)) (rec1006 : List Int → List Int → Int → Int → Int → Int → Int → Int → List Int → Int → List Int → Option (Int)) (p : List Int) (q : List Int) (i : Int) (fine : Int) (xs_0 : Int) (xs_1 : Int) (xs_2 : Int) (xs_3 : Int) (alls : List Int) (moment : Int) : Option (Int) :=
  bif decide (moment ≤ IntKind.wrap IntKind.i64 (i + 1)) then
    (f77 k p q moment fine).bind fun r0 =>
    (f202 k r0).bind fun r1 =>
    rec1006 p q i fine xs_0 xs_1 xs_2 xs_3 alls moment r1
  else
    (f204 k alls).bind fun r2 =>
    some r2
def F138_1006 (k : Nat) (rec1003 : List Int → List Int → Int → Int → Int → Int → Int → Int → List Int → Int → Option (Int)) (rec1006 : List Int → List Int → Int → Int → Int → Int → Int → Int → List Int → Int → List Int → Option (Int)) (p : List Int) (q : List Int) (i : Int) (fine : Int) (xs_0 : Int) (xs_1 : Int) (xs_2 : Int) (xs_3 : Int) (alls : List Int) (moment : Int) (ds : List Int) : Option (Int) :=
  bif decide ((↑(List.length ds) : Int) < 5) then
    bif decide ((List.length ds + List.length [0]) * 8 ≤ 140737488355328) then
      rec1006 p q i fine xs_0 xs_1 xs_2 xs_3 alls moment (ds ++ [0])
    else
      none
  else
    (f203 k ds xs_0 xs_1 xs_2 xs_3).bind fun r0 =>
    bif decide ((List.length alls + List.length r0) * 8 ≤ 140737488355328) then
      rec1003 p q i fine xs_0 xs_1 xs_2 xs_3 (alls ++ r0) (IntKind.wrap IntKind.i64 (moment + 1))
    else
      none
def F138 (k : Nat) (rec1003 : List Int → List Int → Int → Int → Int → Int → Int → Int → List Int → Int → Option (Int)) (rec1006 : List Int → List Int → Int → Int → Int → Int → Int → Int → List Int → Int → List Int → Option (Int)) (p : List (Int)) (q : List (Int)) (x_Low_N : Int) (x_Low_K : Int) (x_High_N : Int) (x_High_K : Int) (i : Int) (fine : Int) : Option (Int) :=
  rec1003 p q i fine x_Low_N x_Low_K x_High_N x_High_K ([]) i
def l138 : Nat → (List Int → List Int → Int → Int → Int → Int → Int → Int → List Int → Int → Option (Int)) × (List Int → List Int → Int → Int → Int → Int → Int → Int → List Int → Int → List Int → Option (Int))
  | 0 => (fun _ _ _ _ _ _ _ _ _ _ => none, fun _ _ _ _ _ _ _ _ _ _ _ => none)
  | k + 1 => (F138_1003 k ((l138 k).1) ((l138 k).2), F138_1006 k ((l138 k).1) ((l138 k).2))
def f138 (k : Nat) (p : List (Int)) (q : List (Int)) (x_Low_N : Int) (x_Low_K : Int) (x_High_N : Int) (x_High_K : Int) (i : Int) (fine : Int) : Option (Int) := F138 k ((l138 k).1) ((l138 k).2) p q x_Low_N x_Low_K x_High_N x_High_K i fine
def s138 : Spec := ⟨false, [(.int .i64, false)], true, .int .i64, fun k xs => match xs with | [.slc 3 (.int .i64) p, .slc 3 (.int .i64) q, .agg [.int .i64 x_Low_N, .int .i64 x_Low_K, .int .i64 x_High_N, .int .i64 x_High_K], .int .i64 i, .int .i64 fine] => f138 k p q x_Low_N x_Low_K x_High_N x_High_K i fine | _ => none⟩
def env89 : List (FuncId × Spec) := (138, s138) :: env88
noncomputable abbrev x138 := exec ti (envOf env88) 40 h138 (finT ti true Go.Proofs.Try.f138.results.toList [(.int .i64, false)] (.int .i64))
noncomputable def k138_1003 : List It := stackAt [.r, .r, .l, .r, .b, .lb none] (bodyOf Go.Proofs.Try.f138) []
def t138_1003 (p : List Int) (q : List Int) (i : Int) (fine : Int) (xs_0 : Int) (xs_1 : Int) (xs_2 : Int) (xs_3 : Int) (alls : List Int) (moment : Int) : St := [(0, Cell.val (AVal.slc 3 (Ty.int IntKind.i64) p)), (2, Cell.val (AVal.slc 3 (Ty.int IntKind.i64) q)), (6, Cell.val (AVal.int IntKind.i64 i)), (8, Cell.val (AVal.int IntKind.i64 fine)), (14, Cell.val (AVal.ptr 3 0)), (3, Cell.mem true 29 [AVal.int IntKind.i64 xs_0, AVal.int IntKind.i64 xs_1, AVal.int IntKind.i64 xs_2, AVal.int IntKind.i64 xs_3]), (22, Cell.val (AVal.ref 5 none)), (5, Cell.row true 3 (Ty.int IntKind.i64) alls), (24, Cell.val (AVal.int IntKind.i64 moment))]
noncomputable def k138_1006 : List It := stackAt [.r, .r, .l, .r, .b, .lb none, .r, .l, .b, .r, .l, .b, .lb none] (bodyOf Go.Proofs.Try.f138) []
def t138_1006 (p : List Int) (q : List Int) (i : Int) (fine : Int) (xs_0 : Int) (xs_1 : Int) (xs_2 : Int) (xs_3 : Int) (alls : List Int) (moment : Int) (ds : List Int) : St := [(0, Cell.val (AVal.slc 3 (Ty.int IntKind.i64) p)), (2, Cell.val (AVal.slc 3 (Ty.int IntKind.i64) q)), (6, Cell.val (AVal.int IntKind.i64 i)), (8, Cell.val (AVal.int IntKind.i64 fine)), (14, Cell.val (AVal.ptr 3 0)), (3, Cell.mem true 29 [AVal.int IntKind.i64 xs_0, AVal.int IntKind.i64 xs_1, AVal.int IntKind.i64 xs_2, AVal.int IntKind.i64 xs_3]), (22, Cell.val (AVal.ref 5 none)), (5, Cell.row true 3 (Ty.int IntKind.i64) alls), (24, Cell.val (AVal.int IntKind.i64 moment)), (26, Cell.val (AVal.ref 7 none)), (7, Cell.row true 3 (Ty.int IntKind.i64) ds)]
theorem e138_1003 (k : Nat) (p : List Int) (q : List Int) (i : Int) (fine : Int) (xs_0 : Int) (xs_1 : Int) (xs_2 : Int) (xs_3 : Int) (alls : List Int) (moment : Int) : x138 (k + 1) k138_1003 (t138_1003 p q i fine xs_0 xs_1 xs_2 xs_3 alls moment) = F138_1003 k (fun (p : List Int) (q : List Int) (i : Int) (fine : Int) (xs_0 : Int) (xs_1 : Int) (xs_2 : Int) (xs_3 : Int) (alls : List Int) (moment : Int) => x138 k k138_1003 (t138_1003 p q i fine xs_0 xs_1 xs_2 xs_3 alls moment)) (fun (p : List Int) (q : List Int) (i : Int) (fine : Int) (xs_0 : Int) (xs_1 : Int) (xs_2 : Int) (xs_3 : Int) (alls : List Int) (moment : Int) (ds : List Int) => x138 k k138_1006 (t138_1006 p q i fine xs_0 xs_1 xs_2 xs_3 alls moment ds)) p q i fine xs_0 xs_1 xs_2 xs_3 alls moment := by kernel_rfl
theorem e138_1006 (k : Nat) (p : List Int) (q : List Int) (i : Int) (fine : Int) (xs_0 : Int) (xs_1 : Int) (xs_2 : Int) (xs_3 : Int) (alls : List Int) (moment : Int) (ds : List Int) : x138 (k + 1) k138_1006 (t138_1006 p q i fine xs_0 xs_1 xs_2 xs_3 alls moment ds) = F138_1006 k (fun (p : List Int) (q : List Int) (i : Int) (fine : Int) (xs_0 : Int) (xs_1 : Int) (xs_2 : Int) (xs_3 : Int) (alls : List Int) (moment : Int) => x138 k k138_1003 (t138_1003 p q i fine xs_0 xs_1 xs_2 xs_3 alls moment)) (fun (p : List Int) (q : List Int) (i : Int) (fine : Int) (xs_0 : Int) (xs_1 : Int) (xs_2 : Int) (xs_3 : Int) (alls : List Int) (moment : Int) (ds : List Int) => x138 k k138_1006 (t138_1006 p q i fine xs_0 xs_1 xs_2 xs_3 alls moment ds)) p q i fine xs_0 xs_1 xs_2 xs_3 alls moment ds := by kernel_rfl
theorem q138 : ∀ k : Nat, ((fun (p : List Int) (q : List Int) (i : Int) (fine : Int) (xs_0 : Int) (xs_1 : Int) (xs_2 : Int) (xs_3 : Int) (alls : List Int) (moment : Int) => x138 k k138_1003 (t138_1003 p q i fine xs_0 xs_1 xs_2 xs_3 alls moment)), (fun (p : List Int) (q : List Int) (i : Int) (fine : Int) (xs_0 : Int) (xs_1 : Int) (xs_2 : Int) (xs_3 : Int) (alls : List Int) (moment : Int) (ds : List Int) => x138 k k138_1006 (t138_1006 p q i fine xs_0 xs_1 xs_2 xs_3 alls moment ds))) = l138 k
  | 0 => rfl
  | k + 1 => by
    have h := q138 k
    show _ = (F138_1003 k ((l138 k).1) ((l138 k).2), F138_1006 k ((l138 k).1) ((l138 k).2))
    rw [← h]
    exact (Prod.ext (funext fun p => funext fun q => funext fun i => funext fun fine => funext fun xs_0 => funext fun xs_1 => funext fun xs_2 => funext fun xs_3 => funext fun alls => funext fun moment => e138_1003 k p q i fine xs_0 xs_1 xs_2 xs_3 alls moment) (funext fun p => funext fun q => funext fun i => funext fun fine => funext fun xs_0 => funext fun xs_1 => funext fun xs_2 => funext fun xs_3 => funext fun alls => funext fun moment => funext fun ds => e138_1006 k p q i fine xs_0 xs_1 xs_2 xs_3 alls moment ds))
theorem w138 (k : Nat) (p : List (Int)) (q : List (Int)) (x_Low_N : Int) (x_Low_K : Int) (x_High_N : Int) (x_High_K : Int) (i : Int) (fine : Int) : runFn ti (envOf env88) 40 h138 (finT ti true Go.Proofs.Try.f138.results.toList [(.int .i64, false)] (.int .i64)) k (bodyOf Go.Proofs.Try.f138) (initS 0 [.slc 3 (.int .i64) p, .slc 3 (.int .i64) q, .agg [.int .i64 x_Low_N, .int .i64 x_Low_K, .int .i64 x_High_N, .int .i64 x_High_K], .int .i64 i, .int .i64 fine]) = F138 k (fun (p : List Int) (q : List Int) (i : Int) (fine : Int) (xs_0 : Int) (xs_1 : Int) (xs_2 : Int) (xs_3 : Int) (alls : List Int) (moment : Int) => x138 k k138_1003 (t138_1003 p q i fine xs_0 xs_1 xs_2 xs_3 alls moment)) (fun (p : List Int) (q : List Int) (i : Int) (fine : Int) (xs_0 : Int) (xs_1 : Int) (xs_2 : Int) (xs_3 : Int) (alls : List Int) (moment : Int) (ds : List Int) => x138 k k138_1006 (t138_1006 p q i fine xs_0 xs_1 xs_2 xs_3 alls moment ds)) p q x_Low_N x_Low_K x_High_N x_High_K i fine := by kernel_rfl
theorem v138 (k : Nat) (p : List (Int)) (q : List (Int)) (x_Low_N : Int) (x_Low_K : Int) (x_High_N : Int) (x_High_K : Int) (i : Int) (fine : Int) : runFn ti (envOf env88) 40 h138 (finT ti true Go.Proofs.Try.f138.results.toList [(.int .i64, false)] (.int .i64)) k (bodyOf Go.Proofs.Try.f138) (initS 0 [.slc 3 (.int .i64) p, .slc 3 (.int .i64) q, .agg [.int .i64 x_Low_N, .int .i64 x_Low_K, .int .i64 x_High_N, .int .i64 x_High_K], .int .i64 i, .int .i64 fine]) = f138 k p q x_Low_N x_Low_K x_High_N x_High_K i fine := by
  rw [w138]
  have h := q138 k
  unfold f138
  rw [← h]
theorem m138 : Meets Go.Proofs.Try.prog 138 s138 := meets_of_run tiOk env88_ok mo Go.Proofs.Try.func138 (body := bodyOf Go.Proofs.Try.f138) (by kernel_rfl) (N := 40) (by kernel_rfl) (hs := h138) (by
  intro k xs r h
  unfold s138 at h
  dsimp only at h
  split at h
  · exact ⟨Nat.le_of_ble_eq_true rfl, (v138 k _ _ _ _ _ _ _ _).trans h⟩
  · cases h)
theorem env89_ok : EnvOk Go.Proofs.Try.prog (envOf env89) := envOf_cons m138 Go.Proofs.Try.func138 (by kernel_rfl) (by kernel_rfl) env88_ok

-- impl.stepHolds
def f81 (k : Nat) (p : List (Int)) (q : List (Int)) (x_Low_N : Int) (x_Low_K : Int) (x_High_N : Int) (x_High_K : Int) (i : Int) (fine : Int) : Option (Bool) :=
  (f137 k p q x_Low_N x_Low_K i (IntKind.wrap IntKind.i64 (i + 1)) fine).bind fun r0 =>
  (f137 k p q x_High_N x_High_K i (IntKind.wrap IntKind.i64 (i + 1)) fine).bind fun r1 =>
  bif decide (IntKind.wrap IntKind.i64 (r0 * r1) < 0) then
    (f138 k p q x_Low_N x_Low_K x_High_N x_High_K i fine).bind fun r2 =>
    some (!decide (r2 = 0))
  else
    some false
def s81 : Spec := ⟨false, [(.bool, false)], true, .bool, fun k xs => match xs with | [.slc 3 (.int .i64) p, .slc 3 (.int .i64) q, .agg [.int .i64 x_Low_N, .int .i64 x_Low_K, .int .i64 x_High_N, .int .i64 x_High_K], .int .i64 i, .int .i64 fine] => f81 k p q x_Low_N x_Low_K x_High_N x_High_K i fine | _ => none⟩
def env90 : List (FuncId × Spec) := (81, s81) :: env89
theorem v81 (k : Nat) (p : List (Int)) (q : List (Int)) (x_Low_N : Int) (x_Low_K : Int) (x_High_N : Int) (x_High_K : Int) (i : Int) (fine : Int) : runFn ti (envOf env89) 44 [] (finT ti true Go.Proofs.Try.f81.results.toList [(.bool, false)] (.bool)) k (bodyOf Go.Proofs.Try.f81) (initS 0 [.slc 3 (.int .i64) p, .slc 3 (.int .i64) q, .agg [.int .i64 x_Low_N, .int .i64 x_Low_K, .int .i64 x_High_N, .int .i64 x_High_K], .int .i64 i, .int .i64 fine]) = f81 k p q x_Low_N x_Low_K x_High_N x_High_K i fine := by kernel_rfl
theorem m81 : Meets Go.Proofs.Try.prog 81 s81 := meets_of_run tiOk env89_ok mo Go.Proofs.Try.func81 (body := bodyOf Go.Proofs.Try.f81) (by kernel_rfl) (N := 44) (by kernel_rfl) (hs := []) (by
  intro k xs r h
  unfold s81 at h
  dsimp only at h
  split at h
  · exact ⟨Nat.le_of_ble_eq_true rfl, (v81 k _ _ _ _ _ _ _ _).trans h⟩
  · cases h)
theorem env90_ok : EnvOk Go.Proofs.Try.prog (envOf env90) := envOf_cons m81 Go.Proofs.Try.func81 (by kernel_rfl) (by kernel_rfl) env89_ok

-- impl.greater
def f177 (k : Nat) (a_N : Int) (a_K : Int) (b_N : Int) (b_K : Int) : Option (Int × Int) :=
  (f191 k b_N b_K a_N a_K).bind fun r0 =>
  bif decide (0 < r0) then
    some ((b_N, b_K))
  else
    some ((a_N, a_K))
def s177 : Spec := ⟨false, [(.pair (.int .i64) (.int .i64), true)], true, .pair (.int .i64) (.int .i64), fun k xs => match xs with | [.agg [.int .i64 a_N, .int .i64 a_K], .agg [.int .i64 b_N, .int .i64 b_K]] => f177 k a_N a_K b_N b_K | _ => none⟩
def env91 : List (FuncId × Spec) := (177, s177) :: env90
theorem v177 (k : Nat) (a_N : Int) (a_K : Int) (b_N : Int) (b_K : Int) : runFn ti (envOf env90) 11 [] (finT ti true Go.Proofs.Try.f177.results.toList [(.pair (.int .i64) (.int .i64), true)] (.pair (.int .i64) (.int .i64))) k (bodyOf Go.Proofs.Try.f177) (initS 0 [.agg [.int .i64 a_N, .int .i64 a_K], .agg [.int .i64 b_N, .int .i64 b_K]]) = f177 k a_N a_K b_N b_K := by kernel_rfl
theorem m177 : Meets Go.Proofs.Try.prog 177 s177 := meets_of_run tiOk env90_ok mo Go.Proofs.Try.func177 (body := bodyOf Go.Proofs.Try.f177) (by kernel_rfl) (N := 11) (by kernel_rfl) (hs := []) (by
  intro k xs r h
  unfold s177 at h
  dsimp only at h
  split at h
  · exact ⟨Nat.le_of_ble_eq_true rfl, (v177 k _ _ _ _).trans h⟩
  · cases h)
theorem env91_ok : EnvOk Go.Proofs.Try.prog (envOf env91) := envOf_cons m177 Go.Proofs.Try.func177 (by kernel_rfl) (by kernel_rfl) env90_ok

-- impl.lesser
def f179 (k : Nat) (a_N : Int) (a_K : Int) (b_N : Int) (b_K : Int) : Option (Int × Int) :=
  (f191 k b_N b_K a_N a_K).bind fun r0 =>
  bif decide (r0 < 0) then
    some ((b_N, b_K))
  else
    some ((a_N, a_K))
def s179 : Spec := ⟨false, [(.pair (.int .i64) (.int .i64), true)], true, .pair (.int .i64) (.int .i64), fun k xs => match xs with | [.agg [.int .i64 a_N, .int .i64 a_K], .agg [.int .i64 b_N, .int .i64 b_K]] => f179 k a_N a_K b_N b_K | _ => none⟩
def env92 : List (FuncId × Spec) := (179, s179) :: env91
theorem v179 (k : Nat) (a_N : Int) (a_K : Int) (b_N : Int) (b_K : Int) : runFn ti (envOf env91) 11 [] (finT ti true Go.Proofs.Try.f179.results.toList [(.pair (.int .i64) (.int .i64), true)] (.pair (.int .i64) (.int .i64))) k (bodyOf Go.Proofs.Try.f179) (initS 0 [.agg [.int .i64 a_N, .int .i64 a_K], .agg [.int .i64 b_N, .int .i64 b_K]]) = f179 k a_N a_K b_N b_K := by kernel_rfl
theorem m179 : Meets Go.Proofs.Try.prog 179 s179 := meets_of_run tiOk env91_ok mo Go.Proofs.Try.func179 (body := bodyOf Go.Proofs.Try.f179) (by kernel_rfl) (N := 11) (by kernel_rfl) (hs := []) (by
  intro k xs r h
  unfold s179 at h
  dsimp only at h
  split at h
  · exact ⟨Nat.le_of_ble_eq_true rfl, (v179 k _ _ _ _).trans h⟩
  · cases h)
theorem env92_ok : EnvOk Go.Proofs.Try.prog (envOf env92) := envOf_cons m179 Go.Proofs.Try.func179 (by kernel_rfl) (by kernel_rfl) env91_ok

-- impl.commonPart
def f182 (k : Nat) (i_Low_N : Int) (i_Low_K : Int) (i_High_N : Int) (i_High_K : Int) (k__Low_N : Int) (k__Low_K : Int) (k__High_N : Int) (k__High_K : Int) : Option (((Int × Int) × Int × Int) × Bool) :=
  (f177 k i_Low_N i_Low_K k__Low_N k__Low_K).bind fun r0 =>
  (f179 k i_High_N i_High_K k__High_N k__High_K).bind fun r1 =>
  (f191 k r0.fst r0.snd r1.fst r1.snd).bind fun r2 =>
  bif decide (0 < r2) then
    some ((((0, 0), 0, 0), false))
  else
    some ((((r0.fst, r0.snd), r1.fst, r1.snd), true))
def s182 : Spec := ⟨false, [(.pair (.pair (.int .i64) (.int .i64)) (.pair (.int .i64) (.int .i64)), true), (.bool, false)], true, .pair (.pair (.pair (.int .i64) (.int .i64)) (.pair (.int .i64) (.int .i64))) (.bool), fun k xs => match xs with | [.agg [.int .i64 i_Low_N, .int .i64 i_Low_K, .int .i64 i_High_N, .int .i64 i_High_K], .agg [.int .i64 k__Low_N, .int .i64 k__Low_K, .int .i64 k__High_N, .int .i64 k__High_K]] => f182 k i_Low_N i_Low_K i_High_N i_High_K k__Low_N k__Low_K k__High_N k__High_K | _ => none⟩
def env93 : List (FuncId × Spec) := (182, s182) :: env92
theorem v182 (k : Nat) (i_Low_N : Int) (i_Low_K : Int) (i_High_N : Int) (i_High_K : Int) (k__Low_N : Int) (k__Low_K : Int) (k__High_N : Int) (k__High_K : Int) : runFn ti (envOf env92) 26 [] (finT ti true Go.Proofs.Try.f182.results.toList [(.pair (.pair (.int .i64) (.int .i64)) (.pair (.int .i64) (.int .i64)), true), (.bool, false)] (.pair (.pair (.pair (.int .i64) (.int .i64)) (.pair (.int .i64) (.int .i64))) (.bool))) k (bodyOf Go.Proofs.Try.f182) (initS 0 [.agg [.int .i64 i_Low_N, .int .i64 i_Low_K, .int .i64 i_High_N, .int .i64 i_High_K], .agg [.int .i64 k__Low_N, .int .i64 k__Low_K, .int .i64 k__High_N, .int .i64 k__High_K]]) = f182 k i_Low_N i_Low_K i_High_N i_High_K k__Low_N k__Low_K k__High_N k__High_K := by kernel_rfl
theorem m182 : Meets Go.Proofs.Try.prog 182 s182 := meets_of_run tiOk env92_ok mo Go.Proofs.Try.func182 (body := bodyOf Go.Proofs.Try.f182) (by kernel_rfl) (N := 26) (by kernel_rfl) (hs := []) (by
  intro k xs r h
  unfold s182 at h
  dsimp only at h
  split at h
  · exact ⟨Nat.le_of_ble_eq_true rfl, (v182 k _ _ _ _ _ _ _ _).trans h⟩
  · cases h)
theorem env93_ok : EnvOk Go.Proofs.Try.prog (envOf env93) := envOf_cons m182 Go.Proofs.Try.func182 (by kernel_rfl) (by kernel_rfl) env92_ok

-- impl.checkTrack
def h119 : Hints := [(1004, .lab [(0, .one (.frz 3 (Ty.int IntKind.i64))), (1, .one (.frz 3 (Ty.int IntKind.i64))), (2, .one (.frz 29 (Ty.pair (Ty.pair (Ty.int IntKind.i64) (Ty.int IntKind.i64)) (Ty.pair (Ty.int IntKind.i64) (Ty.int IntKind.i64))))), (3, .one (.v)), (19, .one (.frz 29 (Ty.pair (Ty.pair (Ty.int IntKind.i64) (Ty.int IntKind.i64)) (Ty.pair (Ty.int IntKind.i64) (Ty.int IntKind.i64))))), (20, .one (.v)), (21, .one (.v))])]
def F119_1004 (k : Nat) (rec1004 : List Int → List Int → List ((Int × Int) × Int × Int) → Int → List ((Int × Int) × Int × Int) → Int → Int → Option (Bool)) (L : List Int) (i : List Int) (s : List ((Int × Int) × Int × Int)) (t : Int) (t19 : List ((Int × Int) × Int × Int)) (t20 : Int) (t21 : Int) : Option (Bool) :=
  bif decide (t21 < t20) then
    bif boundA t21 (List.length t19) then
      (f74 k (List.getD t19 (Int.toNat t21) ((0, 0), 0, 0)).fst.fst (List.getD t19 (Int.toNat t21) ((0, 0), 0, 0)).fst.snd (List.getD t19 (Int.toNat t21) ((0, 0), 0, 0)).snd.fst (List.getD t19 (Int.toNat t21) ((0, 0), 0, 0)).snd.snd).bind fun r0 =>
      bif !r0 then
        some false
      else
        (f81 k L i (List.getD t19 (Int.toNat t21) ((0, 0), 0, 0)).fst.fst (List.getD t19 (Int.toNat t21) ((0, 0), 0, 0)).fst.snd (List.getD t19 (Int.toNat t21) ((0, 0), 0, 0)).snd.fst (List.getD t19 (Int.toNat t21) ((0, 0), 0, 0)).snd.snd t21 t).bind fun r1 =>
        bif !r1 then
          some false
        else
          bif decide (t21 = 0) then
            rec1004 L i s t t19 t20 (IntKind.wrap IntKind.i64 (t21 + 1))
          else
            bif boundA (IntKind.wrap IntKind.i64 (t21 - 1)) (List.length s) then
              (f182 k (List.getD s (Int.toNat (IntKind.wrap IntKind.i64 (t21 - 1))) ((0, 0), 0, 0)).fst.fst (List.getD s (Int.toNat (IntKind.wrap IntKind.i64 (t21 - 1))) ((0, 0), 0, 0)).fst.snd (List.getD s (Int.toNat (IntKind.wrap IntKind.i64 (t21 - 1))) ((0, 0), 0, 0)).snd.fst (List.getD s (Int.toNat (IntKind.wrap IntKind.i64 (t21 - 1))) ((0, 0), 0, 0)).snd.snd (List.getD t19 (Int.toNat t21) ((0, 0), 0, 0)).fst.fst (List.getD t19 (Int.toNat t21) ((0, 0), 0, 0)).fst.snd (List.getD t19 (Int.toNat t21) ((0, 0), 0, 0)).snd.fst (List.getD t19 (Int.toNat t21) ((0, 0), 0, 0)).snd.snd).bind fun r2 =>
              (f77 k L i t21 t).bind fun r3 =>
              bif !r2.snd then
                some false
              else
                (f131 k r3 r2.fst.fst.fst r2.fst.fst.snd).bind fun r4 =>
                (f131 k r3 r2.fst.snd.fst r2.fst.snd.snd).bind fun r5 =>
                bif decide (0 ≤ IntKind.wrap IntKind.i64 (r4 * r5)) then
                  some false
                else
                  rec1004 L i s t t19 t20 (IntKind.wrap IntKind.i64 (t21 + 1))
            else
              none
    else
      none
  else
    some true
def F119 (k : Nat) (rec1004 : List Int → List Int → List ((Int × Int) × Int × Int) → Int → List ((Int × Int) × Int × Int) → Int → Int → Option (Bool)) (L : List (Int)) (i : List (Int)) (s : List ((Int × Int) × Int × Int)) (t : Int) : Option (Bool) :=
  bif !decide (t < 0) then
    bif !decide ((↑(List.length s) : Int) = IntKind.wrap IntKind.i64 (1 * 2 ^ min (Int.toNat t) (IntKind.bits IntKind.i64))) then
      some false
    else
      rec1004 L i s t s ((↑(List.length s) : Int)) (0)
  else
    none
def l119 : Nat → (List Int → List Int → List ((Int × Int) × Int × Int) → Int → List ((Int × Int) × Int × Int) → Int → Int → Option (Bool))
  | 0 => fun _ _ _ _ _ _ _ => none
  | k + 1 => F119_1004 k (l119 k)
def f119 (k : Nat) (L : List (Int)) (i : List (Int)) (s : List ((Int × Int) × Int × Int)) (t : Int) : Option (Bool) := F119 k (l119 k) L i s t
def s119 : Spec := ⟨false, [(.bool, false)], true, .bool, fun k xs => match xs with | [.slc 3 (.int .i64) L, .slc 3 (.int .i64) i, .slc 29 (.pair (.pair (.int .i64) (.int .i64)) (.pair (.int .i64) (.int .i64))) s, .int .i64 t] => f119 k L i s t | _ => none⟩
def env94 : List (FuncId × Spec) := (119, s119) :: env93
noncomputable abbrev x119 := exec ti (envOf env93) 70 h119 (finT ti true Go.Proofs.Try.f119.results.toList [(.bool, false)] (.bool))
noncomputable def k119_1004 : List It := stackAt [.r, .r, .l, .r, .b, .lb none] (bodyOf Go.Proofs.Try.f119) []
def t119_1004 (L : List Int) (i : List Int) (s : List ((Int × Int) × Int × Int)) (t : Int) (t19 : List ((Int × Int) × Int × Int)) (t20 : Int) (t21 : Int) : St := [(0, Cell.val (AVal.slc 3 (Ty.int IntKind.i64) L)), (2, Cell.val (AVal.slc 3 (Ty.int IntKind.i64) i)), (4, Cell.val (AVal.slc 29 (Ty.pair (Ty.pair (Ty.int IntKind.i64) (Ty.int IntKind.i64)) (Ty.pair (Ty.int IntKind.i64) (Ty.int IntKind.i64))) s)), (6, Cell.val (AVal.int IntKind.i64 t)), (38, Cell.val (AVal.slc 29 (Ty.pair (Ty.pair (Ty.int IntKind.i64) (Ty.int IntKind.i64)) (Ty.pair (Ty.int IntKind.i64) (Ty.int IntKind.i64))) t19)), (40, Cell.val (AVal.int IntKind.i64 t20)), (42, Cell.val (AVal.int IntKind.i64 t21))]
theorem e119_1004 (k : Nat) (L : List Int) (i : List Int) (s : List ((Int × Int) × Int × Int)) (t : Int) (t19 : List ((Int × Int) × Int × Int)) (t20 : Int) (t21 : Int) : x119 (k + 1) k119_1004 (t119_1004 L i s t t19 t20 t21) = F119_1004 k (fun (L : List Int) (i : List Int) (s : List ((Int × Int) × Int × Int)) (t : Int) (t19 : List ((Int × Int) × Int × Int)) (t20 : Int) (t21 : Int) => x119 k k119_1004 (t119_1004 L i s t t19 t20 t21)) L i s t t19 t20 t21 := by kernel_rfl
theorem q119 : ∀ k : Nat, (fun (L : List Int) (i : List Int) (s : List ((Int × Int) × Int × Int)) (t : Int) (t19 : List ((Int × Int) × Int × Int)) (t20 : Int) (t21 : Int) => x119 k k119_1004 (t119_1004 L i s t t19 t20 t21)) = l119 k
  | 0 => rfl
  | k + 1 => by
    have h := q119 k
    show _ = F119_1004 k (l119 k)
    rw [← h]
    exact (funext fun L => funext fun i => funext fun s => funext fun t => funext fun t19 => funext fun t20 => funext fun t21 => e119_1004 k L i s t t19 t20 t21)
theorem w119 (k : Nat) (L : List (Int)) (i : List (Int)) (s : List ((Int × Int) × Int × Int)) (t : Int) : runFn ti (envOf env93) 70 h119 (finT ti true Go.Proofs.Try.f119.results.toList [(.bool, false)] (.bool)) k (bodyOf Go.Proofs.Try.f119) (initS 0 [.slc 3 (.int .i64) L, .slc 3 (.int .i64) i, .slc 29 (.pair (.pair (.int .i64) (.int .i64)) (.pair (.int .i64) (.int .i64))) s, .int .i64 t]) = F119 k (fun (L : List Int) (i : List Int) (s : List ((Int × Int) × Int × Int)) (t : Int) (t19 : List ((Int × Int) × Int × Int)) (t20 : Int) (t21 : Int) => x119 k k119_1004 (t119_1004 L i s t t19 t20 t21)) L i s t := by kernel_rfl
theorem v119 (k : Nat) (L : List (Int)) (i : List (Int)) (s : List ((Int × Int) × Int × Int)) (t : Int) : runFn ti (envOf env93) 70 h119 (finT ti true Go.Proofs.Try.f119.results.toList [(.bool, false)] (.bool)) k (bodyOf Go.Proofs.Try.f119) (initS 0 [.slc 3 (.int .i64) L, .slc 3 (.int .i64) i, .slc 29 (.pair (.pair (.int .i64) (.int .i64)) (.pair (.int .i64) (.int .i64))) s, .int .i64 t]) = f119 k L i s t := by
  rw [w119]
  have h := q119 k
  unfold f119
  rw [← h]
theorem m119 : Meets Go.Proofs.Try.prog 119 s119 := meets_of_run tiOk env93_ok mo Go.Proofs.Try.func119 (body := bodyOf Go.Proofs.Try.f119) (by kernel_rfl) (N := 70) (by kernel_rfl) (hs := h119) (by
  intro k xs r h
  unfold s119 at h
  dsimp only at h
  split at h
  · exact ⟨Nat.le_of_ble_eq_true rfl, (v119 k _ _ _ _).trans h⟩
  · cases h)
theorem env94_ok : EnvOk Go.Proofs.Try.prog (envOf env94) := envOf_cons m119 Go.Proofs.Try.func119 (by kernel_rfl) (by kernel_rfl) env93_ok

-- impl.CheckTrack
def f65 (k : Nat) (p : List (Int)) (q : List (Int)) (track : List ((Int × Int) × Int × Int)) (fine : Int) : Option (Bool × Bool) :=
  (f73 k p q fine).bind fun r0 =>
  bif !r0 then
    some ((false, false))
  else
    bif decide (16 < (↑(List.length track) : Int)) then
      some ((false, false))
    else
      (f119 k p q track fine).bind fun r1 =>
      some ((r1, true))
def s65 : Spec := ⟨false, [(.bool, false), (.bool, false)], true, .pair (.bool) (.bool), fun k xs => match xs with | [.slc 3 (.int .i64) p, .slc 3 (.int .i64) q, .slc 29 (.pair (.pair (.int .i64) (.int .i64)) (.pair (.int .i64) (.int .i64))) track, .int .i64 fine] => f65 k p q track fine | _ => none⟩
def env95 : List (FuncId × Spec) := (65, s65) :: env94
theorem v65 (k : Nat) (p : List (Int)) (q : List (Int)) (track : List ((Int × Int) × Int × Int)) (fine : Int) : runFn ti (envOf env94) 25 [] (finT ti true Go.Proofs.Try.f65.results.toList [(.bool, false), (.bool, false)] (.pair (.bool) (.bool))) k (bodyOf Go.Proofs.Try.f65) (initS 0 [.slc 3 (.int .i64) p, .slc 3 (.int .i64) q, .slc 29 (.pair (.pair (.int .i64) (.int .i64)) (.pair (.int .i64) (.int .i64))) track, .int .i64 fine]) = f65 k p q track fine := by kernel_rfl
theorem m65 : Meets Go.Proofs.Try.prog 65 s65 := meets_of_run tiOk env94_ok mo Go.Proofs.Try.func65 (body := bodyOf Go.Proofs.Try.f65) (by kernel_rfl) (N := 25) (by kernel_rfl) (hs := []) (by
  intro k xs r h
  unfold s65 at h
  dsimp only at h
  split at h
  · exact ⟨Nat.le_of_ble_eq_true rfl, (v65 k _ _ _ _).trans h⟩
  · cases h)
theorem env95_ok : EnvOk Go.Proofs.Try.prog (envOf env95) := envOf_cons m65 Go.Proofs.Try.func65 (by kernel_rfl) (by kernel_rfl) env94_ok

-- laws.eqDyadic
def f78 (k : Nat) (a_N : Int) (a_K : Int) (b_N : Int) (b_K : Int) : Option (Bool) :=
  bif !decide (a_N = b_N) then
    some false
  else
    bif !decide (a_K = b_K) then
      some false
    else
      some true
def s78 : Spec := ⟨false, [(.bool, false)], true, .bool, fun k xs => match xs with | [.agg [.int .i64 a_N, .int .i64 a_K], .agg [.int .i64 b_N, .int .i64 b_K]] => f78 k a_N a_K b_N b_K | _ => none⟩
def env96 : List (FuncId × Spec) := (78, s78) :: env95
theorem v78 (k : Nat) (a_N : Int) (a_K : Int) (b_N : Int) (b_K : Int) : runFn ti (envOf env95) 15 [] (finT ti true Go.Proofs.Try.f78.results.toList [(.bool, false)] (.bool)) k (bodyOf Go.Proofs.Try.f78) (initS 0 [.agg [.int .i64 a_N, .int .i64 a_K], .agg [.int .i64 b_N, .int .i64 b_K]]) = f78 k a_N a_K b_N b_K := by kernel_rfl
theorem m78 : Meets Go.Proofs.Try.prog 78 s78 := meets_of_run tiOk env95_ok mo Go.Proofs.Try.func78 (body := bodyOf Go.Proofs.Try.f78) (by kernel_rfl) (N := 15) (by kernel_rfl) (hs := []) (by
  intro k xs r h
  unfold s78 at h
  dsimp only at h
  split at h
  · exact ⟨Nat.le_of_ble_eq_true rfl, (v78 k _ _ _ _).trans h⟩
  · cases h)
theorem env96_ok : EnvOk Go.Proofs.Try.prog (envOf env96) := envOf_cons m78 Go.Proofs.Try.func78 (by kernel_rfl) (by kernel_rfl) env95_ok

end Go.Proofs.YtbaeikcfchiiaaaE
