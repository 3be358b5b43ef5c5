/- Functions, by the engine; printed. -/
import Derived.Test.YtbaeikcfchiiaaaNF8
set_option maxRecDepth 100000
set_option maxHeartbeats 4000000
set_option linter.unusedVariables false
namespace Go.Proofs.YtbaeikcfchiiaaaE
-- impl.powerSingle
def h249 : Hints := [(1003, .lab [(0, .one (.frz 3 (Ty.int IntKind.i64))), (5, .one (.own 3 (Ty.int IntKind.i64))), (7, .one (.v)), (8, .one (.v))])]
noncomputable def F249_1003 (k : Nat) (rec1003 : List Int → List Int → Int → Int → Option (List (Int))) (p : List Int) (outs : List Int) (t7 : Int) (t8 : Int) : Option (List (Int)) :=
  bif decide (t8 < t7) then
    (f134 k outs p).bind fun r0 =>
    rec1003 p r0 t7 (IntKind.wrap IntKind.i64 (t8 + 1))
  else
    some outs
noncomputable def F249 (k : Nat) (rec1003 : List Int → List Int → Int → Int → Option (List (Int))) (p : List (Int)) (n : Int) : Option (List (Int)) :=
  rec1003 p ([1]) n (0)
noncomputable def l249 : Nat → (List Int → List Int → Int → Int → Option (List (Int)))
  | 0 => fun _ _ _ _ => none
  | k + 1 => F249_1003 k (l249 k)
noncomputable def f249 (k : Nat) (p : List (Int)) (n : Int) : Option (List (Int)) := F249 k (l249 k) p n
noncomputable def s249 : Spec := ⟨false, [(.slice 3 (.int .i64), false)], true, .slice 3 (.int .i64), fun k xs => match xs with | [.slc 3 (.int .i64) p, .int .i64 n] => f249 k p n | _ => none⟩
noncomputable def env97 : List (FuncId × Spec) := (249, s249) :: env96
noncomputable abbrev x249 := exec ti (envOf env96) 15 h249 (finT ti true Go.Proofs.Try.f249.results.toList [(.slice 3 (.int .i64), false)] (.slice 3 (.int .i64)))
noncomputable def k249_1003 : List It := stackAt [.r, .r, .l, .r, .b, .lb none] (bodyOf Go.Proofs.Try.f249) []
def t249_1003 (p : List Int) (outs : List Int) (t7 : Int) (t8 : Int) : St := [(0, Cell.val (AVal.slc 3 (Ty.int IntKind.i64) p)), (10, Cell.val (AVal.ref 3 none)), (3, Cell.row true 3 (Ty.int IntKind.i64) outs), (14, Cell.val (AVal.int IntKind.i64 t7)), (16, Cell.val (AVal.int IntKind.i64 t8))]
theorem e249_1003 (k : Nat) (p : List Int) (outs : List Int) (t7 : Int) (t8 : Int) : x249 (k + 1) k249_1003 (t249_1003 p outs t7 t8) = F249_1003 k (fun (p : List Int) (outs : List Int) (t7 : Int) (t8 : Int) => x249 k k249_1003 (t249_1003 p outs t7 t8)) p outs t7 t8 := by kernel_rfl
theorem q249 : ∀ k : Nat, (fun (p : List Int) (outs : List Int) (t7 : Int) (t8 : Int) => x249 k k249_1003 (t249_1003 p outs t7 t8)) = l249 k
  | 0 => rfl
  | k + 1 => by
    have h := q249 k
    show _ = F249_1003 k (l249 k)
    rw [← h]
    exact (funext fun p => funext fun outs => funext fun t7 => funext fun t8 => e249_1003 k p outs t7 t8)
theorem w249 (k : Nat) (p : List (Int)) (n : Int) : runFn ti (envOf env96) 15 h249 (finT ti true Go.Proofs.Try.f249.results.toList [(.slice 3 (.int .i64), false)] (.slice 3 (.int .i64))) k (bodyOf Go.Proofs.Try.f249) (initS 0 [.slc 3 (.int .i64) p, .int .i64 n]) = F249 k (fun (p : List Int) (outs : List Int) (t7 : Int) (t8 : Int) => x249 k k249_1003 (t249_1003 p outs t7 t8)) p n := by kernel_rfl
theorem v249 (k : Nat) (p : List (Int)) (n : Int) : runFn ti (envOf env96) 15 h249 (finT ti true Go.Proofs.Try.f249.results.toList [(.slice 3 (.int .i64), false)] (.slice 3 (.int .i64))) k (bodyOf Go.Proofs.Try.f249) (initS 0 [.slc 3 (.int .i64) p, .int .i64 n]) = f249 k p n := by
  rw [w249]
  have h := q249 k
  unfold f249
  rw [← h]
theorem m249 : Meets Go.Proofs.Try.prog 249 s249 := meets_of_run tiOk env96_ok mo Go.Proofs.Try.func249 (body := bodyOf Go.Proofs.Try.f249) (by kernel_rfl) (N := 15) (by kernel_rfl) (hs := h249) (by
  intro k xs r h
  unfold s249 at h
  dsimp only at h
  split at h
  · exact ⟨Nat.le_of_ble_eq_true rfl, (v249 k _ _).trans h⟩
  · cases h)
theorem env97_ok : EnvOk Go.Proofs.Try.prog (envOf env97) := envOf_cons m249 Go.Proofs.Try.func249 (by kernel_rfl) (by kernel_rfl) env96_ok

-- impl.overInterval
def h203 : Hints := [(1005, .lab [(0, .one (.frz 3 (Ty.int IntKind.i64))), (6, .one (.v)), (7, .one (.v)), (8, .one (.v)), (9, .one (.own 3 (Ty.int IntKind.i64))), (40, .one (.frz 3 (Ty.int IntKind.i64))), (41, .one (.v)), (42, .one (.v))]), (1010, .lab [(0, .one (.frz 3 (Ty.int IntKind.i64))), (9, .one (.own 3 (Ty.int IntKind.i64)))])]
noncomputable def F203_1005 (k : Nat) (rec1005 : List Int → Int → Int → Int → List Int → List Int → Int → Int → Option (List (Int))) (rec1010 : List Int → List Int → Option (List (Int))) (L : List Int) (o : Int) (A : Int) (r : Int) (r_9s : List Int) (t40 : List Int) (t41 : Int) (t42 : Int) : Option (List (Int)) :=
  bif decide (t42 < t41) then
    bif boundA t42 (List.length t40) then
      (f249 k [o, A] t42).bind fun r0 =>
      (f249 k [r, r] (IntKind.wrap IntKind.i64 (IntKind.wrap IntKind.i64 ((↑(List.length L) : Int) - 1) - t42))).bind fun r1 =>
      (f134 k r0 r1).bind fun r2 =>
      (f134 k r2 [List.getD t40 (Int.toNat t42) 0]).bind fun r3 =>
      (f133 k r_9s r3).bind fun r4 =>
      rec1005 L o A r r4 t40 t41 (IntKind.wrap IntKind.i64 (t42 + 1))
    else
      none
  else
    rec1010 L r_9s
noncomputable def F203_1010 (k : Nat) (rec1005 : List Int → Int → Int → Int → List Int → List Int → Int → Int → Option (List (Int))) (rec1010 : List Int → List Int → Option (List (Int))) (L : List Int) (rs : List Int) : Option (List (Int)) :=
  bif decide ((↑(List.length rs) : Int) < (↑(List.length L) : Int)) then
    bif decide ((List.length rs + List.length [0]) * 8 ≤ 140737488355328) then
      rec1010 L (rs ++ [0])
    else
      none
  else
    some rs
noncomputable def F203 (k : Nat) (rec1005 : List Int → Int → Int → Int → List Int → List Int → Int → Int → Option (List (Int))) (rec1010 : List Int → List Int → Option (List (Int))) (L : List (Int)) (i_Low_N : Int) (i_Low_K : Int) (i_High_N : Int) (i_High_K : Int) : Option (List (Int)) :=
  bif !decide (IntKind.wrap IntKind.i64 ((bif decide (i_Low_K < i_High_K) then i_High_K else i_Low_K) - i_Low_K) < 0) then
    bif !decide (IntKind.wrap IntKind.i64 ((bif decide (i_Low_K < i_High_K) then i_High_K else i_Low_K) - i_High_K) < 0) then
      bif !decide ((bif decide (i_Low_K < i_High_K) then i_High_K else i_Low_K) < 0) then
        rec1005 L (IntKind.wrap IntKind.i64 (i_Low_N * 2 ^ min (Int.toNat (IntKind.wrap IntKind.i64 ((bif decide (i_Low_K < i_High_K) then i_High_K else i_Low_K) - i_Low_K))) (IntKind.bits IntKind.i64))) (IntKind.wrap IntKind.i64 (i_High_N * 2 ^ min (Int.toNat (IntKind.wrap IntKind.i64 ((bif decide (i_Low_K < i_High_K) then i_High_K else i_Low_K) - i_High_K))) (IntKind.bits IntKind.i64))) (IntKind.wrap IntKind.i64 (1 * 2 ^ min (Int.toNat (bif decide (i_Low_K < i_High_K) then i_High_K else i_Low_K)) (IntKind.bits IntKind.i64))) ([]) L ((↑(List.length L) : Int)) (0)
      else
        none
    else
      none
  else
    none
noncomputable def l203 : Nat → (List Int → Int → Int → Int → List Int → List Int → Int → Int → Option (List (Int))) × (List Int → List Int → Option (List (Int)))
  | 0 => (fun _ _ _ _ _ _ _ _ => none, fun _ _ => none)
  | k + 1 => (F203_1005 k ((l203 k).1) ((l203 k).2), F203_1010 k ((l203 k).1) ((l203 k).2))
noncomputable def f203 (k : Nat) (L : List (Int)) (i_Low_N : Int) (i_Low_K : Int) (i_High_N : Int) (i_High_K : Int) : Option (List (Int)) := F203 k ((l203 k).1) ((l203 k).2) L i_Low_N i_Low_K i_High_N i_High_K
noncomputable def s203 : Spec := ⟨false, [(.slice 3 (.int .i64), false)], true, .slice 3 (.int .i64), fun k xs => match xs with | [.slc 3 (.int .i64) L, .agg [.int .i64 i_Low_N, .int .i64 i_Low_K, .int .i64 i_High_N, .int .i64 i_High_K]] => f203 k L i_Low_N i_Low_K i_High_N i_High_K | _ => none⟩
noncomputable def env98 : List (FuncId × Spec) := (203, s203) :: env97
noncomputable abbrev x203 := exec ti (envOf env97) 78 h203 (finT ti true Go.Proofs.Try.f203.results.toList [(.slice 3 (.int .i64), false)] (.slice 3 (.int .i64)))
noncomputable def k203_1005 : List It := stackAt [.r, .r, .r, .r, .l, .r, .b, .lb none] (bodyOf Go.Proofs.Try.f203) []
def t203_1005 (L : List Int) (o : Int) (A : Int) (r : Int) (r_9s : List Int) (t40 : List Int) (t41 : Int) (t42 : Int) : St := [(0, Cell.val (AVal.slc 3 (Ty.int IntKind.i64) L)), (12, Cell.val (AVal.int IntKind.i64 o)), (14, Cell.val (AVal.int IntKind.i64 A)), (16, Cell.val (AVal.int IntKind.i64 r)), (18, Cell.val (AVal.ref 3 none)), (3, Cell.row true 3 (Ty.int IntKind.i64) r_9s), (80, Cell.val (AVal.slc 3 (Ty.int IntKind.i64) t40)), (82, Cell.val (AVal.int IntKind.i64 t41)), (84, Cell.val (AVal.int IntKind.i64 t42))]
noncomputable def k203_1010 : List It := stackAt [.r, .r, .r, .r, .r, .l, .b, .lb none] (bodyOf Go.Proofs.Try.f203) []
def t203_1010 (L : List Int) (rs : List Int) : St := [(0, Cell.val (AVal.slc 3 (Ty.int IntKind.i64) L)), (18, Cell.val (AVal.ref 3 none)), (3, Cell.row true 3 (Ty.int IntKind.i64) rs)]
theorem e203_1005 (k : Nat) (L : List Int) (o : Int) (A : Int) (r : Int) (r_9s : List Int) (t40 : List Int) (t41 : Int) (t42 : Int) : x203 (k + 1) k203_1005 (t203_1005 L o A r r_9s t40 t41 t42) = F203_1005 k (fun (L : List Int) (o : Int) (A : Int) (r : Int) (r_9s : List Int) (t40 : List Int) (t41 : Int) (t42 : Int) => x203 k k203_1005 (t203_1005 L o A r r_9s t40 t41 t42)) (fun (L : List Int) (rs : List Int) => x203 k k203_1010 (t203_1010 L rs)) L o A r r_9s t40 t41 t42 := by kernel_rfl
theorem e203_1010 (k : Nat) (L : List Int) (rs : List Int) : x203 (k + 1) k203_1010 (t203_1010 L rs) = F203_1010 k (fun (L : List Int) (o : Int) (A : Int) (r : Int) (r_9s : List Int) (t40 : List Int) (t41 : Int) (t42 : Int) => x203 k k203_1005 (t203_1005 L o A r r_9s t40 t41 t42)) (fun (L : List Int) (rs : List Int) => x203 k k203_1010 (t203_1010 L rs)) L rs := by kernel_rfl
theorem q203 : ∀ k : Nat, ((fun (L : List Int) (o : Int) (A : Int) (r : Int) (r_9s : List Int) (t40 : List Int) (t41 : Int) (t42 : Int) => x203 k k203_1005 (t203_1005 L o A r r_9s t40 t41 t42)), (fun (L : List Int) (rs : List Int) => x203 k k203_1010 (t203_1010 L rs))) = l203 k
  | 0 => rfl
  | k + 1 => by
    have h := q203 k
    show _ = (F203_1005 k ((l203 k).1) ((l203 k).2), F203_1010 k ((l203 k).1) ((l203 k).2))
    rw [← h]
    exact (Prod.ext (funext fun L => funext fun o => funext fun A => funext fun r => funext fun r_9s => funext fun t40 => funext fun t41 => funext fun t42 => e203_1005 k L o A r r_9s t40 t41 t42) (funext fun L => funext fun rs => e203_1010 k L rs))
theorem w203 (k : Nat) (L : List (Int)) (i_Low_N : Int) (i_Low_K : Int) (i_High_N : Int) (i_High_K : Int) : runFn ti (envOf env97) 78 h203 (finT ti true Go.Proofs.Try.f203.results.toList [(.slice 3 (.int .i64), false)] (.slice 3 (.int .i64))) k (bodyOf Go.Proofs.Try.f203) (initS 0 [.slc 3 (.int .i64) L, .agg [.int .i64 i_Low_N, .int .i64 i_Low_K, .int .i64 i_High_N, .int .i64 i_High_K]]) = F203 k (fun (L : List Int) (o : Int) (A : Int) (r : Int) (r_9s : List Int) (t40 : List Int) (t41 : Int) (t42 : Int) => x203 k k203_1005 (t203_1005 L o A r r_9s t40 t41 t42)) (fun (L : List Int) (rs : List Int) => x203 k k203_1010 (t203_1010 L rs)) L i_Low_N i_Low_K i_High_N i_High_K := by kernel_rfl
theorem v203 (k : Nat) (L : List (Int)) (i_Low_N : Int) (i_Low_K : Int) (i_High_N : Int) (i_High_K : Int) : runFn ti (envOf env97) 78 h203 (finT ti true Go.Proofs.Try.f203.results.toList [(.slice 3 (.int .i64), false)] (.slice 3 (.int .i64))) k (bodyOf Go.Proofs.Try.f203) (initS 0 [.slc 3 (.int .i64) L, .agg [.int .i64 i_Low_N, .int .i64 i_Low_K, .int .i64 i_High_N, .int .i64 i_High_K]]) = f203 k L i_Low_N i_Low_K i_High_N i_High_K := by
  rw [w203]
  have h := q203 k
  unfold f203
  rw [← h]
theorem m203 : Meets Go.Proofs.Try.prog 203 s203 := meets_of_run tiOk env97_ok mo Go.Proofs.Try.func203 (body := bodyOf Go.Proofs.Try.f203) (by kernel_rfl) (N := 78) (by kernel_rfl) (hs := h203) (by
  intro k xs r h
  unfold s203 at h
  dsimp only at h
  split at h
  · exact ⟨Nat.le_of_ble_eq_true rfl, (v203 k _ _ _ _ _).trans h⟩
  · cases h)
theorem env98_ok : EnvOk Go.Proofs.Try.prog (envOf env98) := envOf_cons m203 Go.Proofs.Try.func203 (by kernel_rfl) (by kernel_rfl) env97_ok

-- slices.Min[[]int,int]
def h250 : Hints := [(1005, .lab [(0, .one (.frz 3 (Ty.int IntKind.i64))), (3, .one (.v)), (4, .one (.v))])]
noncomputable def F250_1005 (k : Nat) (rec1005 : List Int → Int → Int → Option (Int)) (x : List Int) (m : Int) (i : Int) : Option (Int) :=
  bif decide (i < (↑(List.length x) : Int)) then
    bif boundA i (List.length x) then
      rec1005 x (bif decide (List.getD x (Int.toNat i) 0 < m) then List.getD x (Int.toNat i) 0 else m) (IntKind.wrap IntKind.i64 (i + 1))
    else
      none
  else
    some m
noncomputable def F250 (k : Nat) (rec1005 : List Int → Int → Int → Option (Int)) (x : List (Int)) : Option (Int) :=
  bif decide ((↑(List.length x) : Int) < 1) then
    none
  else
    bif boundA 0 (List.length x) then
      rec1005 x (List.getD x (Int.toNat 0) 0) (1)
    else
      none
noncomputable def l250 : Nat → (List Int → Int → Int → Option (Int))
  | 0 => fun _ _ _ => none
  | k + 1 => F250_1005 k (l250 k)
noncomputable def f250 (k : Nat) (x : List (Int)) : Option (Int) := F250 k (l250 k) x
noncomputable def s250 : Spec := ⟨false, [(.int .i64, false)], true, .int .i64, fun k xs => match xs with | [.slc 3 (.int .i64) x] => f250 k x | _ => none⟩
noncomputable def env99 : List (FuncId × Spec) := (250, s250) :: env98
noncomputable abbrev x250 := exec ti (envOf env98) 25 h250 (finT ti true Go.Proofs.Try.f250.results.toList [(.int .i64, false)] (.int .i64))
noncomputable def k250_1005 : List It := stackAt [.r, .r, .r, .l, .r, .b, .lb none] (bodyOf Go.Proofs.Try.f250) []
def t250_1005 (x : List Int) (m : Int) (i : Int) : St := [(0, Cell.val (AVal.slc 3 (Ty.int IntKind.i64) x)), (6, Cell.val (AVal.int IntKind.i64 m)), (8, Cell.val (AVal.int IntKind.i64 i))]
theorem e250_1005 (k : Nat) (x : List Int) (m : Int) (i : Int) : x250 (k + 1) k250_1005 (t250_1005 x m i) = F250_1005 k (fun (x : List Int) (m : Int) (i : Int) => x250 k k250_1005 (t250_1005 x m i)) x m i := by kernel_rfl
theorem q250 : ∀ k : Nat, (fun (x : List Int) (m : Int) (i : Int) => x250 k k250_1005 (t250_1005 x m i)) = l250 k
  | 0 => rfl
  | k + 1 => by
    have h := q250 k
    show _ = F250_1005 k (l250 k)
    rw [← h]
    exact (funext fun x => funext fun m => funext fun i => e250_1005 k x m i)
theorem w250 (k : Nat) (x : List (Int)) : runFn ti (envOf env98) 25 h250 (finT ti true Go.Proofs.Try.f250.results.toList [(.int .i64, false)] (.int .i64)) k (bodyOf Go.Proofs.Try.f250) (initS 0 [.slc 3 (.int .i64) x]) = F250 k (fun (x : List Int) (m : Int) (i : Int) => x250 k k250_1005 (t250_1005 x m i)) x := by kernel_rfl
theorem v250 (k : Nat) (x : List (Int)) : runFn ti (envOf env98) 25 h250 (finT ti true Go.Proofs.Try.f250.results.toList [(.int .i64, false)] (.int .i64)) k (bodyOf Go.Proofs.Try.f250) (initS 0 [.slc 3 (.int .i64) x]) = f250 k x := by
  rw [w250]
  have h := q250 k
  unfold f250
  rw [← h]
theorem m250 : Meets Go.Proofs.Try.prog 250 s250 := meets_of_run tiOk env98_ok mo Go.Proofs.Try.func250 (body := bodyOf Go.Proofs.Try.f250) (by kernel_rfl) (N := 25) (by kernel_rfl) (hs := h250) (by
  intro k xs r h
  unfold s250 at h
  dsimp only at h
  split at h
  · exact ⟨Nat.le_of_ble_eq_true rfl, (v250 k _).trans h⟩
  · cases h)
theorem env99_ok : EnvOk Go.Proofs.Try.prog (envOf env99) := envOf_cons m250 Go.Proofs.Try.func250 (by kernel_rfl) (by kernel_rfl) env98_ok

-- slices.Max[[]int,int]
def h251 : Hints := [(1005, .lab [(0, .one (.frz 3 (Ty.int IntKind.i64))), (3, .one (.v)), (4, .one (.v))])]
noncomputable def F251_1005 (k : Nat) (rec1005 : List Int → Int → Int → Option (Int)) (x : List Int) (m : Int) (i : Int) : Option (Int) :=
  bif decide (i < (↑(List.length x) : Int)) then
    bif boundA i (List.length x) then
      rec1005 x (bif decide (m < List.getD x (Int.toNat i) 0) then List.getD x (Int.toNat i) 0 else m) (IntKind.wrap IntKind.i64 (i + 1))
    else
      none
  else
    some m
noncomputable def F251 (k : Nat) (rec1005 : List Int → Int → Int → Option (Int)) (x : List (Int)) : Option (Int) :=
  bif decide ((↑(List.length x) : Int) < 1) then
    none
  else
    bif boundA 0 (List.length x) then
      rec1005 x (List.getD x (Int.toNat 0) 0) (1)
    else
      none
noncomputable def l251 : Nat → (List Int → Int → Int → Option (Int))
  | 0 => fun _ _ _ => none
  | k + 1 => F251_1005 k (l251 k)
noncomputable def f251 (k : Nat) (x : List (Int)) : Option (Int) := F251 k (l251 k) x
noncomputable def s251 : Spec := ⟨false, [(.int .i64, false)], true, .int .i64, fun k xs => match xs with | [.slc 3 (.int .i64) x] => f251 k x | _ => none⟩
noncomputable def env100 : List (FuncId × Spec) := (251, s251) :: env99
noncomputable abbrev x251 := exec ti (envOf env99) 25 h251 (finT ti true Go.Proofs.Try.f251.results.toList [(.int .i64, false)] (.int .i64))
noncomputable def k251_1005 : List It := stackAt [.r, .r, .r, .l, .r, .b, .lb none] (bodyOf Go.Proofs.Try.f251) []
def t251_1005 (x : List Int) (m : Int) (i : Int) : St := [(0, Cell.val (AVal.slc 3 (Ty.int IntKind.i64) x)), (6, Cell.val (AVal.int IntKind.i64 m)), (8, Cell.val (AVal.int IntKind.i64 i))]
theorem e251_1005 (k : Nat) (x : List Int) (m : Int) (i : Int) : x251 (k + 1) k251_1005 (t251_1005 x m i) = F251_1005 k (fun (x : List Int) (m : Int) (i : Int) => x251 k k251_1005 (t251_1005 x m i)) x m i := by kernel_rfl
theorem q251 : ∀ k : Nat, (fun (x : List Int) (m : Int) (i : Int) => x251 k k251_1005 (t251_1005 x m i)) = l251 k
  | 0 => rfl
  | k + 1 => by
    have h := q251 k
    show _ = F251_1005 k (l251 k)
    rw [← h]
    exact (funext fun x => funext fun m => funext fun i => e251_1005 k x m i)
theorem w251 (k : Nat) (x : List (Int)) : runFn ti (envOf env99) 25 h251 (finT ti true Go.Proofs.Try.f251.results.toList [(.int .i64, false)] (.int .i64)) k (bodyOf Go.Proofs.Try.f251) (initS 0 [.slc 3 (.int .i64) x]) = F251 k (fun (x : List Int) (m : Int) (i : Int) => x251 k k251_1005 (t251_1005 x m i)) x := by kernel_rfl
theorem v251 (k : Nat) (x : List (Int)) : runFn ti (envOf env99) 25 h251 (finT ti true Go.Proofs.Try.f251.results.toList [(.int .i64, false)] (.int .i64)) k (bodyOf Go.Proofs.Try.f251) (initS 0 [.slc 3 (.int .i64) x]) = f251 k x := by
  rw [w251]
  have h := q251 k
  unfold f251
  rw [← h]
theorem m251 : Meets Go.Proofs.Try.prog 251 s251 := meets_of_run tiOk env99_ok mo Go.Proofs.Try.func251 (body := bodyOf Go.Proofs.Try.f251) (by kernel_rfl) (N := 25) (by kernel_rfl) (hs := h251) (by
  intro k xs r h
  unfold s251 at h
  dsimp only at h
  split at h
  · exact ⟨Nat.le_of_ble_eq_true rfl, (v251 k _).trans h⟩
  · cases h)
theorem env100_ok : EnvOk Go.Proofs.Try.prog (envOf env100) := envOf_cons m251 Go.Proofs.Try.func251 (by kernel_rfl) (by kernel_rfl) env99_ok

-- impl.commonSign
noncomputable def f204 (k : Nat) (list : List (Int)) : Option (Int) :=
  (f250 k list).bind fun r0 =>
  bif decide (0 < r0) then
    some (1)
  else
    (f251 k list).bind fun r1 =>
    bif decide (r1 < 0) then
      some (-1)
    else
      some (0)
noncomputable def s204 : Spec := ⟨false, [(.int .i64, false)], true, .int .i64, fun k xs => match xs with | [.slc 3 (.int .i64) list] => f204 k list | _ => none⟩
noncomputable def env101 : List (FuncId × Spec) := (204, s204) :: env100
theorem v204 (k : Nat) (list : List (Int)) : runFn ti (envOf env100) 11 [] (finT ti true Go.Proofs.Try.f204.results.toList [(.int .i64, false)] (.int .i64)) k (bodyOf Go.Proofs.Try.f204) (initS 0 [.slc 3 (.int .i64) list]) = f204 k list := by kernel_rfl
theorem m204 : Meets Go.Proofs.Try.prog 204 s204 := meets_of_run tiOk env100_ok mo Go.Proofs.Try.func204 (body := bodyOf Go.Proofs.Try.f204) (by kernel_rfl) (N := 11) (by kernel_rfl) (hs := []) (by
  intro k xs r h
  unfold s204 at h
  dsimp only at h
  split at h
  · exact ⟨Nat.le_of_ble_eq_true rfl, (v204 k _).trans h⟩
  · cases h)
theorem env101_ok : EnvOk Go.Proofs.Try.prog (envOf env101) := envOf_cons m204 Go.Proofs.Try.func204 (by kernel_rfl) (by kernel_rfl) env100_ok

-- impl.slopeSign
def h138 : Hints := [(1003, .lab [(0, .one (.frz 3 (Ty.int IntKind.i64))), (1, .one (.frz 3 (Ty.int IntKind.i64))), (3, .one (.v)), (4, .one (.v)), (7, .box 29 [.v, .v, .v, .v]), (11, .one (.own 3 (Ty.int IntKind.i64))), (12, .one (.v))]), (1006, .lab [(0, .one (.frz 3 (Ty.int IntKind.i64))), (1, .one (.frz 3 (Ty.int IntKind.i64))), (3, .one (.v)), (4, .one (.v)), (7, .box 29 [.v, .v, .v, .v]), (11, .one (.own 3 (Ty.int IntKind.i64))), (12, .one (.v)), (13, .one (.own 3 (Ty.int IntKind.i64)))])]
noncomputable def F138_1003 (k : Nat) (rec1003 : List Int → List Int → Int → Int → Int → Int → Int → Int → List Int → Int → Option (Int)) (rec1006 : List Int → List Int → Int → Int → Int → Int → Int → Int → List Int → Int → List Int → Option (Int)) (p : List Int) (q : List Int) (i : Int) (fine : Int) (xs_0 : Int) (xs_1 : Int) (xs_2 : Int) (xs_3 : Int) (alls : List Int) (moment : Int) : Option (Int) :=
  bif decide (moment ≤ IntKind.wrap IntKind.i64 (i + 1)) then
    (f77 k p q moment fine).bind fun r0 =>
    (f202 k r0).bind fun r1 =>
    rec1006 p q i fine xs_0 xs_1 xs_2 xs_3 alls moment r1
  else
    (f204 k alls).bind fun r2 =>
    some r2
noncomputable def F138_1006 (k : Nat) (rec1003 : List Int → List Int → Int → Int → Int → Int → Int → Int → List Int → Int → Option (Int)) (rec1006 : List Int → List Int → Int → Int → Int → Int → Int → Int → List Int → Int → List Int → Option (Int)) (p : List Int) (q : List Int) (i : Int) (fine : Int) (xs_0 : Int) (xs_1 : Int) (xs_2 : Int) (xs_3 : Int) (alls : List Int) (moment : Int) (ds : List Int) : Option (Int) :=
  bif decide ((↑(List.length ds) : Int) < 5) then
    bif decide ((List.length ds + List.length [0]) * 8 ≤ 140737488355328) then
      rec1006 p q i fine xs_0 xs_1 xs_2 xs_3 alls moment (ds ++ [0])
    else
      none
  else
    (f203 k ds xs_0 xs_1 xs_2 xs_3).bind fun r0 =>
    bif decide ((List.length alls + List.length r0) * 8 ≤ 140737488355328) then
      rec1003 p q i fine xs_0 xs_1 xs_2 xs_3 (alls ++ r0) (IntKind.wrap IntKind.i64 (moment + 1))
    else
      none
noncomputable def F138 (k : Nat) (rec1003 : List Int → List Int → Int → Int → Int → Int → Int → Int → List Int → Int → Option (Int)) (rec1006 : List Int → List Int → Int → Int → Int → Int → Int → Int → List Int → Int → List Int → Option (Int)) (p : List (Int)) (q : List (Int)) (x_Low_N : Int) (x_Low_K : Int) (x_High_N : Int) (x_High_K : Int) (i : Int) (fine : Int) : Option (Int) :=
  rec1003 p q i fine x_Low_N x_Low_K x_High_N x_High_K ([]) i
noncomputable def l138 : Nat → (List Int → List Int → Int → Int → Int → Int → Int → Int → List Int → Int → Option (Int)) × (List Int → List Int → Int → Int → Int → Int → Int → Int → List Int → Int → List Int → Option (Int))
  | 0 => (fun _ _ _ _ _ _ _ _ _ _ => none, fun _ _ _ _ _ _ _ _ _ _ _ => none)
  | k + 1 => (F138_1003 k ((l138 k).1) ((l138 k).2), F138_1006 k ((l138 k).1) ((l138 k).2))
noncomputable def f138 (k : Nat) (p : List (Int)) (q : List (Int)) (x_Low_N : Int) (x_Low_K : Int) (x_High_N : Int) (x_High_K : Int) (i : Int) (fine : Int) : Option (Int) := F138 k ((l138 k).1) ((l138 k).2) p q x_Low_N x_Low_K x_High_N x_High_K i fine
noncomputable def s138 : Spec := ⟨false, [(.int .i64, false)], true, .int .i64, fun k xs => match xs with | [.slc 3 (.int .i64) p, .slc 3 (.int .i64) q, .agg [.int .i64 x_Low_N, .int .i64 x_Low_K, .int .i64 x_High_N, .int .i64 x_High_K], .int .i64 i, .int .i64 fine] => f138 k p q x_Low_N x_Low_K x_High_N x_High_K i fine | _ => none⟩
noncomputable def env102 : List (FuncId × Spec) := (138, s138) :: env101
noncomputable abbrev x138 := exec ti (envOf env101) 40 h138 (finT ti true Go.Proofs.Try.f138.results.toList [(.int .i64, false)] (.int .i64))
noncomputable def k138_1003 : List It := stackAt [.r, .r, .l, .r, .b, .lb none] (bodyOf Go.Proofs.Try.f138) []
def t138_1003 (p : List Int) (q : List Int) (i : Int) (fine : Int) (xs_0 : Int) (xs_1 : Int) (xs_2 : Int) (xs_3 : Int) (alls : List Int) (moment : Int) : St := [(0, Cell.val (AVal.slc 3 (Ty.int IntKind.i64) p)), (2, Cell.val (AVal.slc 3 (Ty.int IntKind.i64) q)), (6, Cell.val (AVal.int IntKind.i64 i)), (8, Cell.val (AVal.int IntKind.i64 fine)), (14, Cell.val (AVal.ptr 3 0)), (3, Cell.mem true 29 [AVal.int IntKind.i64 xs_0, AVal.int IntKind.i64 xs_1, AVal.int IntKind.i64 xs_2, AVal.int IntKind.i64 xs_3]), (22, Cell.val (AVal.ref 5 none)), (5, Cell.row true 3 (Ty.int IntKind.i64) alls), (24, Cell.val (AVal.int IntKind.i64 moment))]
noncomputable def k138_1006 : List It := stackAt [.r, .r, .l, .r, .b, .lb none, .r, .l, .b, .r, .l, .b, .lb none] (bodyOf Go.Proofs.Try.f138) []
def t138_1006 (p : List Int) (q : List Int) (i : Int) (fine : Int) (xs_0 : Int) (xs_1 : Int) (xs_2 : Int) (xs_3 : Int) (alls : List Int) (moment : Int) (ds : List Int) : St := [(0, Cell.val (AVal.slc 3 (Ty.int IntKind.i64) p)), (2, Cell.val (AVal.slc 3 (Ty.int IntKind.i64) q)), (6, Cell.val (AVal.int IntKind.i64 i)), (8, Cell.val (AVal.int IntKind.i64 fine)), (14, Cell.val (AVal.ptr 3 0)), (3, Cell.mem true 29 [AVal.int IntKind.i64 xs_0, AVal.int IntKind.i64 xs_1, AVal.int IntKind.i64 xs_2, AVal.int IntKind.i64 xs_3]), (22, Cell.val (AVal.ref 5 none)), (5, Cell.row true 3 (Ty.int IntKind.i64) alls), (24, Cell.val (AVal.int IntKind.i64 moment)), (26, Cell.val (AVal.ref 7 none)), (7, Cell.row true 3 (Ty.int IntKind.i64) ds)]
theorem e138_1003 (k : Nat) (p : List Int) (q : List Int) (i : Int) (fine : Int) (xs_0 : Int) (xs_1 : Int) (xs_2 : Int) (xs_3 : Int) (alls : List Int) (moment : Int) : x138 (k + 1) k138_1003 (t138_1003 p q i fine xs_0 xs_1 xs_2 xs_3 alls moment) = F138_1003 k (fun (p : List Int) (q : List Int) (i : Int) (fine : Int) (xs_0 : Int) (xs_1 : Int) (xs_2 : Int) (xs_3 : Int) (alls : List Int) (moment : Int) => x138 k k138_1003 (t138_1003 p q i fine xs_0 xs_1 xs_2 xs_3 alls moment)) (fun (p : List Int) (q : List Int) (i : Int) (fine : Int) (xs_0 : Int) (xs_1 : Int) (xs_2 : Int) (xs_3 : Int) (alls : List Int) (moment : Int) (ds : List Int) => x138 k k138_1006 (t138_1006 p q i fine xs_0 xs_1 xs_2 xs_3 alls moment ds)) p q i fine xs_0 xs_1 xs_2 xs_3 alls moment := by kernel_rfl
theorem e138_1006 (k : Nat) (p : List Int) (q : List Int) (i : Int) (fine : Int) (xs_0 : Int) (xs_1 : Int) (xs_2 : Int) (xs_3 : Int) (alls : List Int) (moment : Int) (ds : List Int) : x138 (k + 1) k138_1006 (t138_1006 p q i fine xs_0 xs_1 xs_2 xs_3 alls moment ds) = F138_1006 k (fun (p : List Int) (q : List Int) (i : Int) (fine : Int) (xs_0 : Int) (xs_1 : Int) (xs_2 : Int) (xs_3 : Int) (alls : List Int) (moment : Int) => x138 k k138_1003 (t138_1003 p q i fine xs_0 xs_1 xs_2 xs_3 alls moment)) (fun (p : List Int) (q : List Int) (i : Int) (fine : Int) (xs_0 : Int) (xs_1 : Int) (xs_2 : Int) (xs_3 : Int) (alls : List Int) (moment : Int) (ds : List Int) => x138 k k138_1006 (t138_1006 p q i fine xs_0 xs_1 xs_2 xs_3 alls moment ds)) p q i fine xs_0 xs_1 xs_2 xs_3 alls moment ds := by kernel_rfl
theorem q138 : ∀ k : Nat, ((fun (p : List Int) (q : List Int) (i : Int) (fine : Int) (xs_0 : Int) (xs_1 : Int) (xs_2 : Int) (xs_3 : Int) (alls : List Int) (moment : Int) => x138 k k138_1003 (t138_1003 p q i fine xs_0 xs_1 xs_2 xs_3 alls moment)), (fun (p : List Int) (q : List Int) (i : Int) (fine : Int) (xs_0 : Int) (xs_1 : Int) (xs_2 : Int) (xs_3 : Int) (alls : List Int) (moment : Int) (ds : List Int) => x138 k k138_1006 (t138_1006 p q i fine xs_0 xs_1 xs_2 xs_3 alls moment ds))) = l138 k
  | 0 => rfl
  | k + 1 => by
    have h := q138 k
    show _ = (F138_1003 k ((l138 k).1) ((l138 k).2), F138_1006 k ((l138 k).1) ((l138 k).2))
    rw [← h]
    exact (Prod.ext (funext fun p => funext fun q => funext fun i => funext fun fine => funext fun xs_0 => funext fun xs_1 => funext fun xs_2 => funext fun xs_3 => funext fun alls => funext fun moment => e138_1003 k p q i fine xs_0 xs_1 xs_2 xs_3 alls moment) (funext fun p => funext fun q => funext fun i => funext fun fine => funext fun xs_0 => funext fun xs_1 => funext fun xs_2 => funext fun xs_3 => funext fun alls => funext fun moment => funext fun ds => e138_1006 k p q i fine xs_0 xs_1 xs_2 xs_3 alls moment ds))
theorem w138 (k : Nat) (p : List (Int)) (q : List (Int)) (x_Low_N : Int) (x_Low_K : Int) (x_High_N : Int) (x_High_K : Int) (i : Int) (fine : Int) : runFn ti (envOf env101) 40 h138 (finT ti true Go.Proofs.Try.f138.results.toList [(.int .i64, false)] (.int .i64)) k (bodyOf Go.Proofs.Try.f138) (initS 0 [.slc 3 (.int .i64) p, .slc 3 (.int .i64) q, .agg [.int .i64 x_Low_N, .int .i64 x_Low_K, .int .i64 x_High_N, .int .i64 x_High_K], .int .i64 i, .int .i64 fine]) = F138 k (fun (p : List Int) (q : List Int) (i : Int) (fine : Int) (xs_0 : Int) (xs_1 : Int) (xs_2 : Int) (xs_3 : Int) (alls : List Int) (moment : Int) => x138 k k138_1003 (t138_1003 p q i fine xs_0 xs_1 xs_2 xs_3 alls moment)) (fun (p : List Int) (q : List Int) (i : Int) (fine : Int) (xs_0 : Int) (xs_1 : Int) (xs_2 : Int) (xs_3 : Int) (alls : List Int) (moment : Int) (ds : List Int) => x138 k k138_1006 (t138_1006 p q i fine xs_0 xs_1 xs_2 xs_3 alls moment ds)) p q x_Low_N x_Low_K x_High_N x_High_K i fine := by kernel_rfl
theorem v138 (k : Nat) (p : List (Int)) (q : List (Int)) (x_Low_N : Int) (x_Low_K : Int) (x_High_N : Int) (x_High_K : Int) (i : Int) (fine : Int) : runFn ti (envOf env101) 40 h138 (finT ti true Go.Proofs.Try.f138.results.toList [(.int .i64, false)] (.int .i64)) k (bodyOf Go.Proofs.Try.f138) (initS 0 [.slc 3 (.int .i64) p, .slc 3 (.int .i64) q, .agg [.int .i64 x_Low_N, .int .i64 x_Low_K, .int .i64 x_High_N, .int .i64 x_High_K], .int .i64 i, .int .i64 fine]) = f138 k p q x_Low_N x_Low_K x_High_N x_High_K i fine := by
  rw [w138]
  have h := q138 k
  unfold f138
  rw [← h]
theorem m138 : Meets Go.Proofs.Try.prog 138 s138 := meets_of_run tiOk env101_ok mo Go.Proofs.Try.func138 (body := bodyOf Go.Proofs.Try.f138) (by kernel_rfl) (N := 40) (by kernel_rfl) (hs := h138) (by
  intro k xs r h
  unfold s138 at h
  dsimp only at h
  split at h
  · exact ⟨Nat.le_of_ble_eq_true rfl, (v138 k _ _ _ _ _ _ _ _).trans h⟩
  · cases h)
theorem env102_ok : EnvOk Go.Proofs.Try.prog (envOf env102) := envOf_cons m138 Go.Proofs.Try.func138 (by kernel_rfl) (by kernel_rfl) env101_ok

-- impl.stepHolds
noncomputable def f81 (k : Nat) (p : List (Int)) (q : List (Int)) (x_Low_N : Int) (x_Low_K : Int) (x_High_N : Int) (x_High_K : Int) (i : Int) (fine : Int) : Option (Bool) :=
  (f137 k p q x_Low_N x_Low_K i (IntKind.wrap IntKind.i64 (i + 1)) fine).bind fun r0 =>
  (f137 k p q x_High_N x_High_K i (IntKind.wrap IntKind.i64 (i + 1)) fine).bind fun r1 =>
  bif decide (IntKind.wrap IntKind.i64 (r0 * r1) < 0) then
    (f138 k p q x_Low_N x_Low_K x_High_N x_High_K i fine).bind fun r2 =>
    some (!decide (r2 = 0))
  else
    some false
noncomputable def s81 : Spec := ⟨false, [(.bool, false)], true, .bool, fun k xs => match xs with | [.slc 3 (.int .i64) p, .slc 3 (.int .i64) q, .agg [.int .i64 x_Low_N, .int .i64 x_Low_K, .int .i64 x_High_N, .int .i64 x_High_K], .int .i64 i, .int .i64 fine] => f81 k p q x_Low_N x_Low_K x_High_N x_High_K i fine | _ => none⟩
noncomputable def env103 : List (FuncId × Spec) := (81, s81) :: env102
theorem v81 (k : Nat) (p : List (Int)) (q : List (Int)) (x_Low_N : Int) (x_Low_K : Int) (x_High_N : Int) (x_High_K : Int) (i : Int) (fine : Int) : runFn ti (envOf env102) 44 [] (finT ti true Go.Proofs.Try.f81.results.toList [(.bool, false)] (.bool)) k (bodyOf Go.Proofs.Try.f81) (initS 0 [.slc 3 (.int .i64) p, .slc 3 (.int .i64) q, .agg [.int .i64 x_Low_N, .int .i64 x_Low_K, .int .i64 x_High_N, .int .i64 x_High_K], .int .i64 i, .int .i64 fine]) = f81 k p q x_Low_N x_Low_K x_High_N x_High_K i fine := by kernel_rfl
theorem m81 : Meets Go.Proofs.Try.prog 81 s81 := meets_of_run tiOk env102_ok mo Go.Proofs.Try.func81 (body := bodyOf Go.Proofs.Try.f81) (by kernel_rfl) (N := 44) (by kernel_rfl) (hs := []) (by
  intro k xs r h
  unfold s81 at h
  dsimp only at h
  split at h
  · exact ⟨Nat.le_of_ble_eq_true rfl, (v81 k _ _ _ _ _ _ _ _).trans h⟩
  · cases h)
theorem env103_ok : EnvOk Go.Proofs.Try.prog (envOf env103) := envOf_cons m81 Go.Proofs.Try.func81 (by kernel_rfl) (by kernel_rfl) env102_ok

-- impl.sumOf
noncomputable def f175 (k : Nat) (a_N : Int) (a_K : Int) (b_N : Int) (b_K : Int) : Option ((Int × Int) × Bool) :=
  (f173 k a_N).bind fun r0 =>
  (f196 k r0.fst r0.snd.fst r0.snd.snd (IntKind.wrap IntKind.i64 ((bif decide (a_K < b_K) then b_K else a_K) - a_K))).bind fun r1 =>
  (f173 k b_N).bind fun r2 =>
  (f196 k r2.fst r2.snd.fst r2.snd.snd (IntKind.wrap IntKind.i64 ((bif decide (a_K < b_K) then b_K else a_K) - b_K))).bind fun r3 =>
  (f197 k r1.fst r1.snd.fst r1.snd.snd r3.fst r3.snd.fst r3.snd.snd).bind fun r4 =>
  (f174 k r4.fst r4.snd.fst r4.snd.snd (bif decide (a_K < b_K) then b_K else a_K)).bind fun r5 =>
  some (((r5.fst.fst, r5.fst.snd), r5.snd))
noncomputable def s175 : Spec := ⟨false, [(.pair (.int .i64) (.int .i64), true), (.bool, false)], true, .pair (.pair (.int .i64) (.int .i64)) (.bool), fun k xs => match xs with | [.agg [.int .i64 a_N, .int .i64 a_K], .agg [.int .i64 b_N, .int .i64 b_K]] => f175 k a_N a_K b_N b_K | _ => none⟩
noncomputable def env104 : List (FuncId × Spec) := (175, s175) :: env103
theorem v175 (k : Nat) (a_N : Int) (a_K : Int) (b_N : Int) (b_K : Int) : runFn ti (envOf env103) 33 [] (finT ti true Go.Proofs.Try.f175.results.toList [(.pair (.int .i64) (.int .i64), true), (.bool, false)] (.pair (.pair (.int .i64) (.int .i64)) (.bool))) k (bodyOf Go.Proofs.Try.f175) (initS 0 [.agg [.int .i64 a_N, .int .i64 a_K], .agg [.int .i64 b_N, .int .i64 b_K]]) = f175 k a_N a_K b_N b_K := by kernel_rfl
theorem m175 : Meets Go.Proofs.Try.prog 175 s175 := meets_of_run tiOk env103_ok mo Go.Proofs.Try.func175 (body := bodyOf Go.Proofs.Try.f175) (by kernel_rfl) (N := 33) (by kernel_rfl) (hs := []) (by
  intro k xs r h
  unfold s175 at h
  dsimp only at h
  split at h
  · exact ⟨Nat.le_of_ble_eq_true rfl, (v175 k _ _ _ _).trans h⟩
  · cases h)
theorem env104_ok : EnvOk Go.Proofs.Try.prog (envOf env104) := envOf_cons m175 Go.Proofs.Try.func175 (by kernel_rfl) (by kernel_rfl) env103_ok

-- impl.minus
noncomputable def f176 (k : Nat) (a_N : Int) (a_K : Int) : Option (Int × Int) :=
  some ((IntKind.wrap IntKind.i64 (0 - a_N), a_K))
noncomputable def s176 : Spec := ⟨false, [(.pair (.int .i64) (.int .i64), true)], true, .pair (.int .i64) (.int .i64), fun k xs => match xs with | [.agg [.int .i64 a_N, .int .i64 a_K]] => f176 k a_N a_K | _ => none⟩
noncomputable def env105 : List (FuncId × Spec) := (176, s176) :: env104
theorem v176 (k : Nat) (a_N : Int) (a_K : Int) : runFn ti (envOf env104) 9 [] (finT ti true Go.Proofs.Try.f176.results.toList [(.pair (.int .i64) (.int .i64), true)] (.pair (.int .i64) (.int .i64))) k (bodyOf Go.Proofs.Try.f176) (initS 0 [.agg [.int .i64 a_N, .int .i64 a_K]]) = f176 k a_N a_K := by kernel_rfl
theorem m176 : Meets Go.Proofs.Try.prog 176 s176 := meets_of_run tiOk env104_ok mo Go.Proofs.Try.func176 (body := bodyOf Go.Proofs.Try.f176) (by kernel_rfl) (N := 9) (by kernel_rfl) (hs := []) (by
  intro k xs r h
  unfold s176 at h
  dsimp only at h
  split at h
  · exact ⟨Nat.le_of_ble_eq_true rfl, (v176 k _ _).trans h⟩
  · cases h)
theorem env105_ok : EnvOk Go.Proofs.Try.prog (envOf env105) := envOf_cons m176 Go.Proofs.Try.func176 (by kernel_rfl) (by kernel_rfl) env104_ok

-- impl.greater
noncomputable def f177 (k : Nat) (a_N : Int) (a_K : Int) (b_N : Int) (b_K : Int) : Option (Int × Int) :=
  (f191 k b_N b_K a_N a_K).bind fun r0 =>
  bif decide (0 < r0) then
    some ((b_N, b_K))
  else
    some ((a_N, a_K))
noncomputable def s177 : Spec := ⟨false, [(.pair (.int .i64) (.int .i64), true)], true, .pair (.int .i64) (.int .i64), fun k xs => match xs with | [.agg [.int .i64 a_N, .int .i64 a_K], .agg [.int .i64 b_N, .int .i64 b_K]] => f177 k a_N a_K b_N b_K | _ => none⟩
noncomputable def env106 : List (FuncId × Spec) := (177, s177) :: env105
theorem v177 (k : Nat) (a_N : Int) (a_K : Int) (b_N : Int) (b_K : Int) : runFn ti (envOf env105) 11 [] (finT ti true Go.Proofs.Try.f177.results.toList [(.pair (.int .i64) (.int .i64), true)] (.pair (.int .i64) (.int .i64))) k (bodyOf Go.Proofs.Try.f177) (initS 0 [.agg [.int .i64 a_N, .int .i64 a_K], .agg [.int .i64 b_N, .int .i64 b_K]]) = f177 k a_N a_K b_N b_K := by kernel_rfl
theorem m177 : Meets Go.Proofs.Try.prog 177 s177 := meets_of_run tiOk env105_ok mo Go.Proofs.Try.func177 (body := bodyOf Go.Proofs.Try.f177) (by kernel_rfl) (N := 11) (by kernel_rfl) (hs := []) (by
  intro k xs r h
  unfold s177 at h
  dsimp only at h
  split at h
  · exact ⟨Nat.le_of_ble_eq_true rfl, (v177 k _ _ _ _).trans h⟩
  · cases h)
theorem env106_ok : EnvOk Go.Proofs.Try.prog (envOf env106) := envOf_cons m177 Go.Proofs.Try.func177 (by kernel_rfl) (by kernel_rfl) env105_ok

-- impl.lesser
noncomputable def f179 (k : Nat) (a_N : Int) (a_K : Int) (b_N : Int) (b_K : Int) : Option (Int × Int) :=
  (f191 k b_N b_K a_N a_K).bind fun r0 =>
  bif decide (r0 < 0) then
    some ((b_N, b_K))
  else
    some ((a_N, a_K))
noncomputable def s179 : Spec := ⟨false, [(.pair (.int .i64) (.int .i64), true)], true, .pair (.int .i64) (.int .i64), fun k xs => match xs with | [.agg [.int .i64 a_N, .int .i64 a_K], .agg [.int .i64 b_N, .int .i64 b_K]] => f179 k a_N a_K b_N b_K | _ => none⟩
noncomputable def env107 : List (FuncId × Spec) := (179, s179) :: env106
theorem v179 (k : Nat) (a_N : Int) (a_K : Int) (b_N : Int) (b_K : Int) : runFn ti (envOf env106) 11 [] (finT ti true Go.Proofs.Try.f179.results.toList [(.pair (.int .i64) (.int .i64), true)] (.pair (.int .i64) (.int .i64))) k (bodyOf Go.Proofs.Try.f179) (initS 0 [.agg [.int .i64 a_N, .int .i64 a_K], .agg [.int .i64 b_N, .int .i64 b_K]]) = f179 k a_N a_K b_N b_K := by kernel_rfl
theorem m179 : Meets Go.Proofs.Try.prog 179 s179 := meets_of_run tiOk env106_ok mo Go.Proofs.Try.func179 (body := bodyOf Go.Proofs.Try.f179) (by kernel_rfl) (N := 11) (by kernel_rfl) (hs := []) (by
  intro k xs r h
  unfold s179 at h
  dsimp only at h
  split at h
  · exact ⟨Nat.le_of_ble_eq_true rfl, (v179 k _ _ _ _).trans h⟩
  · cases h)
theorem env107_ok : EnvOk Go.Proofs.Try.prog (envOf env107) := envOf_cons m179 Go.Proofs.Try.func179 (by kernel_rfl) (by kernel_rfl) env106_ok

-- impl.findStep
def h116 : Hints := [(1002, .lab [(0, .one (.frz 3 (Ty.int IntKind.i64))), (1, .one (.frz 3 (Ty.int IntKind.i64))), (3, .one (.v)), (4, .one (.v)), (7, .box 29 [.v, .v, .v, .v]), (10, .box 29 [.v, .v, .v, .v]), (18, .one (.v))])]
noncomputable def F116_1002 (k : Nat) (rec1002 : List Int → List Int → Int → Int → Int → Int → Int → Int → Int → Int → Int → Int → Int → Option (((Int × Int) × Int × Int) × Bool)) (L : List Int) (i : List Int) (t : Int) (t4 : Int) (As_0 : Int) (As_1 : Int) (As_2 : Int) (As_3 : Int) (as_0 : Int) (as_1 : Int) (as_2 : Int) (as_3 : Int) (t18 : Int) : Option (((Int × Int) × Int × Int) × Bool) :=
  bif decide (t18 < 7) then
    bif decide (0 < t18) then
      bif !decide (IntKind.wrap IntKind.i64 (t18 - 1) < 0) then
        (f173 k (IntKind.wrap IntKind.i64 (1 * 2 ^ min (Int.toNat (IntKind.wrap IntKind.i64 (t18 - 1))) (IntKind.bits IntKind.i64)))).bind fun r0 =>
        (f174 k r0.fst r0.snd.fst r0.snd.snd 5).bind fun r1 =>
        (f175 k As_0 As_1 (IntKind.wrap IntKind.i64 (0 - r1.fst.fst)) r1.fst.snd).bind fun r2 =>
        (f175 k As_2 As_3 r1.fst.fst r1.fst.snd).bind fun r3 =>
        (f177 k r2.fst.fst r2.fst.snd (-8) 0).bind fun r4 =>
        (f179 k r3.fst.fst r3.fst.snd 8 0).bind fun r5 =>
        (f81 k L i r4.fst r4.snd r5.fst r5.snd t t4).bind fun r6 =>
        bif r6 then
          some ((((r4.fst, r4.snd), r5.fst, r5.snd), true))
        else
          rec1002 L i t t4 (r4.fst) (r4.snd) (r5.fst) (r5.snd) as_0 as_1 as_2 as_3 (IntKind.wrap IntKind.i64 (t18 + 1))
      else
        none
    else
      (f81 k L i As_0 As_1 As_2 As_3 t t4).bind fun r7 =>
      bif r7 then
        some ((((As_0, As_1), As_2, As_3), true))
      else
        rec1002 L i t t4 As_0 As_1 As_2 As_3 as_0 as_1 as_2 as_3 (IntKind.wrap IntKind.i64 (t18 + 1))
  else
    some ((((0, 0), 0, 0), false))
noncomputable def F116 (k : Nat) (rec1002 : List Int → List Int → Int → Int → Int → Int → Int → Int → Int → Int → Int → Int → Int → Option (((Int × Int) × Int × Int) × Bool)) (L : List (Int)) (i : List (Int)) (s_Low_N : Int) (s_Low_K : Int) (s_High_N : Int) (s_High_K : Int) (t : Int) (t4 : Int) : Option (((Int × Int) × Int × Int) × Bool) :=
  rec1002 L i t t4 s_Low_N s_Low_K s_High_N s_High_K (0) (0) (0) (0) (0)
noncomputable def l116 : Nat → (List Int → List Int → Int → Int → Int → Int → Int → Int → Int → Int → Int → Int → Int → Option (((Int × Int) × Int × Int) × Bool))
  | 0 => fun _ _ _ _ _ _ _ _ _ _ _ _ _ => none
  | k + 1 => F116_1002 k (l116 k)
noncomputable def f116 (k : Nat) (L : List (Int)) (i : List (Int)) (s_Low_N : Int) (s_Low_K : Int) (s_High_N : Int) (s_High_K : Int) (t : Int) (t4 : Int) : Option (((Int × Int) × Int × Int) × Bool) := F116 k (l116 k) L i s_Low_N s_Low_K s_High_N s_High_K t t4
noncomputable def s116 : Spec := ⟨false, [(.pair (.pair (.int .i64) (.int .i64)) (.pair (.int .i64) (.int .i64)), true), (.bool, false)], true, .pair (.pair (.pair (.int .i64) (.int .i64)) (.pair (.int .i64) (.int .i64))) (.bool), fun k xs => match xs with | [.slc 3 (.int .i64) L, .slc 3 (.int .i64) i, .agg [.int .i64 s_Low_N, .int .i64 s_Low_K, .int .i64 s_High_N, .int .i64 s_High_K], .int .i64 t, .int .i64 t4] => f116 k L i s_Low_N s_Low_K s_High_N s_High_K t t4 | _ => none⟩
noncomputable def env108 : List (FuncId × Spec) := (116, s116) :: env107
noncomputable abbrev x116 := exec ti (envOf env107) 67 h116 (finT ti true Go.Proofs.Try.f116.results.toList [(.pair (.pair (.int .i64) (.int .i64)) (.pair (.int .i64) (.int .i64)), true), (.bool, false)] (.pair (.pair (.pair (.int .i64) (.int .i64)) (.pair (.int .i64) (.int .i64))) (.bool)))
noncomputable def k116_1002 : List It := stackAt [.r, .l, .r, .b, .lb none] (bodyOf Go.Proofs.Try.f116) []
def t116_1002 (L : List Int) (i : List Int) (t : Int) (t4 : Int) (As_0 : Int) (As_1 : Int) (As_2 : Int) (As_3 : Int) (as_0 : Int) (as_1 : Int) (as_2 : Int) (as_3 : Int) (t18 : Int) : St := [(0, Cell.val (AVal.slc 3 (Ty.int IntKind.i64) L)), (2, Cell.val (AVal.slc 3 (Ty.int IntKind.i64) i)), (6, Cell.val (AVal.int IntKind.i64 t)), (8, Cell.val (AVal.int IntKind.i64 t4)), (14, Cell.val (AVal.ptr 3 0)), (3, Cell.mem true 29 [AVal.int IntKind.i64 As_0, AVal.int IntKind.i64 As_1, AVal.int IntKind.i64 As_2, AVal.int IntKind.i64 As_3]), (20, Cell.val (AVal.ptr 5 0)), (5, Cell.mem true 29 [AVal.int IntKind.i64 as_0, AVal.int IntKind.i64 as_1, AVal.int IntKind.i64 as_2, AVal.int IntKind.i64 as_3]), (36, Cell.val (AVal.int IntKind.i64 t18))]
theorem e116_1002 (k : Nat) (L : List Int) (i : List Int) (t : Int) (t4 : Int) (As_0 : Int) (As_1 : Int) (As_2 : Int) (As_3 : Int) (as_0 : Int) (as_1 : Int) (as_2 : Int) (as_3 : Int) (t18 : Int) : x116 (k + 1) k116_1002 (t116_1002 L i t t4 As_0 As_1 As_2 As_3 as_0 as_1 as_2 as_3 t18) = F116_1002 k (fun (L : List Int) (i : List Int) (t : Int) (t4 : Int) (As_0 : Int) (As_1 : Int) (As_2 : Int) (As_3 : Int) (as_0 : Int) (as_1 : Int) (as_2 : Int) (as_3 : Int) (t18 : Int) => x116 k k116_1002 (t116_1002 L i t t4 As_0 As_1 As_2 As_3 as_0 as_1 as_2 as_3 t18)) L i t t4 As_0 As_1 As_2 As_3 as_0 as_1 as_2 as_3 t18 := by kernel_rfl
theorem q116 : ∀ k : Nat, (fun (L : List Int) (i : List Int) (t : Int) (t4 : Int) (As_0 : Int) (As_1 : Int) (As_2 : Int) (As_3 : Int) (as_0 : Int) (as_1 : Int) (as_2 : Int) (as_3 : Int) (t18 : Int) => x116 k k116_1002 (t116_1002 L i t t4 As_0 As_1 As_2 As_3 as_0 as_1 as_2 as_3 t18)) = l116 k
  | 0 => rfl
  | k + 1 => by
    have h := q116 k
    show _ = F116_1002 k (l116 k)
    rw [← h]
    exact (funext fun L => funext fun i => funext fun t => funext fun t4 => funext fun As_0 => funext fun As_1 => funext fun As_2 => funext fun As_3 => funext fun as_0 => funext fun as_1 => funext fun as_2 => funext fun as_3 => funext fun t18 => e116_1002 k L i t t4 As_0 As_1 As_2 As_3 as_0 as_1 as_2 as_3 t18)
theorem w116 (k : Nat) (L : List (Int)) (i : List (Int)) (s_Low_N : Int) (s_Low_K : Int) (s_High_N : Int) (s_High_K : Int) (t : Int) (t4 : Int) : runFn ti (envOf env107) 67 h116 (finT ti true Go.Proofs.Try.f116.results.toList [(.pair (.pair (.int .i64) (.int .i64)) (.pair (.int .i64) (.int .i64)), true), (.bool, false)] (.pair (.pair (.pair (.int .i64) (.int .i64)) (.pair (.int .i64) (.int .i64))) (.bool))) k (bodyOf Go.Proofs.Try.f116) (initS 0 [.slc 3 (.int .i64) L, .slc 3 (.int .i64) i, .agg [.int .i64 s_Low_N, .int .i64 s_Low_K, .int .i64 s_High_N, .int .i64 s_High_K], .int .i64 t, .int .i64 t4]) = F116 k (fun (L : List Int) (i : List Int) (t : Int) (t4 : Int) (As_0 : Int) (As_1 : Int) (As_2 : Int) (As_3 : Int) (as_0 : Int) (as_1 : Int) (as_2 : Int) (as_3 : Int) (t18 : Int) => x116 k k116_1002 (t116_1002 L i t t4 As_0 As_1 As_2 As_3 as_0 as_1 as_2 as_3 t18)) L i s_Low_N s_Low_K s_High_N s_High_K t t4 := by kernel_rfl
theorem v116 (k : Nat) (L : List (Int)) (i : List (Int)) (s_Low_N : Int) (s_Low_K : Int) (s_High_N : Int) (s_High_K : Int) (t : Int) (t4 : Int) : runFn ti (envOf env107) 67 h116 (finT ti true Go.Proofs.Try.f116.results.toList [(.pair (.pair (.int .i64) (.int .i64)) (.pair (.int .i64) (.int .i64)), true), (.bool, false)] (.pair (.pair (.pair (.int .i64) (.int .i64)) (.pair (.int .i64) (.int .i64))) (.bool))) k (bodyOf Go.Proofs.Try.f116) (initS 0 [.slc 3 (.int .i64) L, .slc 3 (.int .i64) i, .agg [.int .i64 s_Low_N, .int .i64 s_Low_K, .int .i64 s_High_N, .int .i64 s_High_K], .int .i64 t, .int .i64 t4]) = f116 k L i s_Low_N s_Low_K s_High_N s_High_K t t4 := by
  rw [w116]
  have h := q116 k
  unfold f116
  rw [← h]
theorem m116 : Meets Go.Proofs.Try.prog 116 s116 := meets_of_run tiOk env107_ok mo Go.Proofs.Try.func116 (body := bodyOf Go.Proofs.Try.f116) (by kernel_rfl) (N := 67) (by kernel_rfl) (hs := h116) (by
  intro k xs r h
  unfold s116 at h
  dsimp only at h
  split at h
  · exact ⟨Nat.le_of_ble_eq_true rfl, (v116 k _ _ _ _ _ _ _ _).trans h⟩
  · cases h)
theorem env108_ok : EnvOk Go.Proofs.Try.prog (envOf env108) := envOf_cons m116 Go.Proofs.Try.func116 (by kernel_rfl) (by kernel_rfl) env107_ok

end Go.Proofs.YtbaeikcfchiiaaaE
