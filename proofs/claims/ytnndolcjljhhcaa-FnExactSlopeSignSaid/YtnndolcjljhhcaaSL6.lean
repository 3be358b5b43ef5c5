/- Functions, by the engine; printed. -/
import Derived.Test.YtnndolcjljhhcaaSL5
set_option maxRecDepth 100000
set_option maxHeartbeats 4000000
set_option linter.unusedVariables false
namespace Go.Proofs.YtnndolcjljhhcaaE
-- impl.powerSingle
def h164 : Hints := [(1003, .lab [(0, .one (.frz 3 (Ty.int IntKind.i64))), (5, .one (.own 3 (Ty.int IntKind.i64))), (7, .one (.v)), (8, .one (.v))])]
def F164_1003 (k : Nat) (rec1003 : List Int → List Int → Int → Int → Option (List (Int))) (p : List Int) (outs : List Int) (t7 : Int) (t8 : Int) : Option (List (Int)) :=
  bif decide (t8 < t7) then
    (f111 k outs p).bind fun r0 =>
    rec1003 p r0 t7 (IntKind.wrap IntKind.i64 (t8 + 1))
  else
    some outs
def F164 (k : Nat) (rec1003 : List Int → List Int → Int → Int → Option (List (Int))) (p : List (Int)) (n : Int) : Option (List (Int)) :=
  rec1003 p ([1]) n (0)
def l164 : Nat → (List Int → List Int → Int → Int → Option (List (Int)))
  | 0 => fun _ _ _ _ => none
  | k + 1 => F164_1003 k (l164 k)
def f164 (k : Nat) (p : List (Int)) (n : Int) : Option (List (Int)) := F164 k (l164 k) p n
def s164 : Spec := ⟨false, [(.slice 3 (.int .i64), false)], true, .slice 3 (.int .i64), fun k xs => match xs with | [.slc 3 (.int .i64) p, .int .i64 n] => f164 k p n | _ => none⟩
def env61 : List (FuncId × Spec) := (164, s164) :: env60
noncomputable abbrev x164 := exec ti (envOf env60) 15 h164 (finT ti true Go.Proofs.Try.f164.results.toList [(.slice 3 (.int .i64), false)] (.slice 3 (.int .i64)))
noncomputable def k164_1003 : List It := stackAt [.r, .r, .l, .r, .b, .lb none] (bodyOf Go.Proofs.Try.f164) []
def t164_1003 (p : List Int) (outs : List Int) (t7 : Int) (t8 : Int) : St := [(0, Cell.val (AVal.slc 3 (Ty.int IntKind.i64) p)), (10, Cell.val (AVal.ref 3 none)), (3, Cell.row true 3 (Ty.int IntKind.i64) outs), (14, Cell.val (AVal.int IntKind.i64 t7)), (16, Cell.val (AVal.int IntKind.i64 t8))]
theorem e164_1003 (k : Nat) (p : List Int) (outs : List Int) (t7 : Int) (t8 : Int) : x164 (k + 1) k164_1003 (t164_1003 p outs t7 t8) = F164_1003 k (fun (p : List Int) (outs : List Int) (t7 : Int) (t8 : Int) => x164 k k164_1003 (t164_1003 p outs t7 t8)) p outs t7 t8 := by kernel_rfl
theorem q164 : ∀ k : Nat, (fun (p : List Int) (outs : List Int) (t7 : Int) (t8 : Int) => x164 k k164_1003 (t164_1003 p outs t7 t8)) = l164 k
  | 0 => rfl
  | k + 1 => by
    have h := q164 k
    show _ = F164_1003 k (l164 k)
    rw [← h]
    exact (funext fun p => funext fun outs => funext fun t7 => funext fun t8 => e164_1003 k p outs t7 t8)
theorem w164 (k : Nat) (p : List (Int)) (n : Int) : runFn ti (envOf env60) 15 h164 (finT ti true Go.Proofs.Try.f164.results.toList [(.slice 3 (.int .i64), false)] (.slice 3 (.int .i64))) k (bodyOf Go.Proofs.Try.f164) (initS 0 [.slc 3 (.int .i64) p, .int .i64 n]) = F164 k (fun (p : List Int) (outs : List Int) (t7 : Int) (t8 : Int) => x164 k k164_1003 (t164_1003 p outs t7 t8)) p n := by kernel_rfl
theorem v164 (k : Nat) (p : List (Int)) (n : Int) : runFn ti (envOf env60) 15 h164 (finT ti true Go.Proofs.Try.f164.results.toList [(.slice 3 (.int .i64), false)] (.slice 3 (.int .i64))) k (bodyOf Go.Proofs.Try.f164) (initS 0 [.slc 3 (.int .i64) p, .int .i64 n]) = f164 k p n := by
  rw [w164]
  have h := q164 k
  unfold f164
  rw [← h]
theorem m164 : Meets Go.Proofs.Try.prog 164 s164 := meets_of_run tiOk env60_ok mo Go.Proofs.Try.func164 (body := bodyOf Go.Proofs.Try.f164) (by kernel_rfl) (N := 15) (by kernel_rfl) (hs := h164) (by
  intro k xs r h
  unfold s164 at h
  dsimp only at h
  split at h
  · exact ⟨Nat.le_of_ble_eq_true rfl, (v164 k _ _).trans h⟩
  · cases h)
theorem env61_ok : EnvOk Go.Proofs.Try.prog (envOf env61) := envOf_cons m164 Go.Proofs.Try.func164 (by kernel_rfl) (by kernel_rfl) env60_ok

-- impl.overInterval
def h137 : Hints := [(1005, .lab [(0, .one (.frz 3 (Ty.int IntKind.i64))), (6, .one (.v)), (7, .one (.v)), (8, .one (.v)), (9, .one (.own 3 (Ty.int IntKind.i64))), (40, .one (.frz 3 (Ty.int IntKind.i64))), (41, .one (.v)), (42, .one (.v))]), (1010, .lab [(0, .one (.frz 3 (Ty.int IntKind.i64))), (9, .one (.own 3 (Ty.int IntKind.i64)))])]
def F137_1005 (k : Nat) (rec1005 : List Int → Int → Int → Int → List Int → List Int → Int → Int → Option (List (Int))) (rec1010 : List Int → List Int → Option (List (Int))) (L : List Int) (o : Int) (A : Int) (r : Int) (r_9s : List Int) (t40 : List Int) (t41 : Int) (t42 : Int) : Option (List (Int)) :=
  bif decide (t42 < t41) then
    bif boundA t42 (List.length t40) then
      (f164 k [o, A] t42).bind fun r0 =>
      (f164 k [r, r] (IntKind.wrap IntKind.i64 (IntKind.wrap IntKind.i64 ((↑(List.length L) : Int) - 1) - t42))).bind fun r1 =>
      (f111 k r0 r1).bind fun r2 =>
      (f111 k r2 [List.getD t40 (Int.toNat t42) 0]).bind fun r3 =>
      (f110 k r_9s r3).bind fun r4 =>
      rec1005 L o A r r4 t40 t41 (IntKind.wrap IntKind.i64 (t42 + 1))
    else
      none
  else
    rec1010 L r_9s
def F137_1010 (k : Nat) (rec1005 : List Int → Int → Int → Int → List Int → List Int → Int → Int → Option (List (Int))) (rec1010 : List Int → List Int → Option (List (Int))) (L : List Int) (rs : List Int) : Option (List (Int)) :=
  bif decide ((↑(List.length rs) : Int) < (↑(List.length L) : Int)) then
    bif decide ((List.length rs + List.length [0]) * 8 ≤ 140737488355328) then
      rec1010 L (rs ++ [0])
    else
      none
  else
    some rs
def F137 (k : Nat) (rec1005 : List Int → Int → Int → Int → List Int → List Int → Int → Int → Option (List (Int))) (rec1010 : List Int → List Int → Option (List (Int))) (L : List (Int)) (i_Low_N : Int) (i_Low_K : Int) (i_High_N : Int) (i_High_K : Int) : Option (List (Int)) :=
  bif !decide (IntKind.wrap IntKind.i64 ((bif decide (i_Low_K < i_High_K) then i_High_K else i_Low_K) - i_Low_K) < 0) then
    bif !decide (IntKind.wrap IntKind.i64 ((bif decide (i_Low_K < i_High_K) then i_High_K else i_Low_K) - i_High_K) < 0) then
      bif !decide ((bif decide (i_Low_K < i_High_K) then i_High_K else i_Low_K) < 0) then
        rec1005 L (IntKind.wrap IntKind.i64 (i_Low_N * 2 ^ min (Int.toNat (IntKind.wrap IntKind.i64 ((bif decide (i_Low_K < i_High_K) then i_High_K else i_Low_K) - i_Low_K))) (IntKind.bits IntKind.i64))) (IntKind.wrap IntKind.i64 (i_High_N * 2 ^ min (Int.toNat (IntKind.wrap IntKind.i64 ((bif decide (i_Low_K < i_High_K) then i_High_K else i_Low_K) - i_High_K))) (IntKind.bits IntKind.i64))) (IntKind.wrap IntKind.i64 (1 * 2 ^ min (Int.toNat (bif decide (i_Low_K < i_High_K) then i_High_K else i_Low_K)) (IntKind.bits IntKind.i64))) ([]) L ((↑(List.length L) : Int)) (0)
      else
        none
    else
      none
  else
    none
def l137 : Nat → (List Int → Int → Int → Int → List Int → List Int → Int → Int → Option (List (Int))) × (List Int → List Int → Option (List (Int)))
  | 0 => (fun _ _ _ _ _ _ _ _ => none, fun _ _ => none)
  | k + 1 => (F137_1005 k ((l137 k).1) ((l137 k).2), F137_1010 k ((l137 k).1) ((l137 k).2))
def f137 (k : Nat) (L : List (Int)) (i_Low_N : Int) (i_Low_K : Int) (i_High_N : Int) (i_High_K : Int) : Option (List (Int)) := F137 k ((l137 k).1) ((l137 k).2) L i_Low_N i_Low_K i_High_N i_High_K
def s137 : Spec := ⟨false, [(.slice 3 (.int .i64), false)], true, .slice 3 (.int .i64), fun k xs => match xs with | [.slc 3 (.int .i64) L, .agg [.int .i64 i_Low_N, .int .i64 i_Low_K, .int .i64 i_High_N, .int .i64 i_High_K]] => f137 k L i_Low_N i_Low_K i_High_N i_High_K | _ => none⟩
def env62 : List (FuncId × Spec) := (137, s137) :: env61
noncomputable abbrev x137 := exec ti (envOf env61) 78 h137 (finT ti true Go.Proofs.Try.f137.results.toList [(.slice 3 (.int .i64), false)] (.slice 3 (.int .i64)))
noncomputable def k137_1005 : List It := stackAt [.r, .r, .r, .r, .l, .r, .b, .lb none] (bodyOf Go.Proofs.Try.f137) []
def t137_1005 (L : List Int) (o : Int) (A : Int) (r : Int) (r_9s : List Int) (t40 : List Int) (t41 : Int) (t42 : Int) : St := [(0, Cell.val (AVal.slc 3 (Ty.int IntKind.i64) L)), (12, Cell.val (AVal.int IntKind.i64 o)), (14, Cell.val (AVal.int IntKind.i64 A)), (16, Cell.val (AVal.int IntKind.i64 r)), (18, Cell.val (AVal.ref 3 none)), (3, Cell.row true 3 (Ty.int IntKind.i64) r_9s), (80, Cell.val (AVal.slc 3 (Ty.int IntKind.i64) t40)), (82, Cell.val (AVal.int IntKind.i64 t41)), (84, Cell.val (AVal.int IntKind.i64 t42))]
noncomputable def k137_1010 : List It := stackAt [.r, .r, .r, .r, .r, .l, .b, .lb none] (bodyOf Go.Proofs.Try.f137) []
def t137_1010 (L : List Int) (rs : List Int) : St := [(0, Cell.val (AVal.slc 3 (Ty.int IntKind.i64) L)), (18, Cell.val (AVal.ref 3 none)), (3, Cell.row true 3 (Ty.int IntKind.i64) rs)]
theorem e137_1005 (k : Nat) (L : List Int) (o : Int) (A : Int) (r : Int) (r_9s : List Int) (t40 : List Int) (t41 : Int) (t42 : Int) : x137 (k + 1) k137_1005 (t137_1005 L o A r r_9s t40 t41 t42) = F137_1005 k (fun (L : List Int) (o : Int) (A : Int) (r : Int) (r_9s : List Int) (t40 : List Int) (t41 : Int) (t42 : Int) => x137 k k137_1005 (t137_1005 L o A r r_9s t40 t41 t42)) (fun (L : List Int) (rs : List Int) => x137 k k137_1010 (t137_1010 L rs)) L o A r r_9s t40 t41 t42 := by kernel_rfl
theorem e137_1010 (k : Nat) (L : List Int) (rs : List Int) : x137 (k + 1) k137_1010 (t137_1010 L rs) = F137_1010 k (fun (L : List Int) (o : Int) (A : Int) (r : Int) (r_9s : List Int) (t40 : List Int) (t41 : Int) (t42 : Int) => x137 k k137_1005 (t137_1005 L o A r r_9s t40 t41 t42)) (fun (L : List Int) (rs : List Int) => x137 k k137_1010 (t137_1010 L rs)) L rs := by kernel_rfl
theorem q137 : ∀ k : Nat, ((fun (L : List Int) (o : Int) (A : Int) (r : Int) (r_9s : List Int) (t40 : List Int) (t41 : Int) (t42 : Int) => x137 k k137_1005 (t137_1005 L o A r r_9s t40 t41 t42)), (fun (L : List Int) (rs : List Int) => x137 k k137_1010 (t137_1010 L rs))) = l137 k
  | 0 => rfl
  | k + 1 => by
    have h := q137 k
    show _ = (F137_1005 k ((l137 k).1) ((l137 k).2), F137_1010 k ((l137 k).1) ((l137 k).2))
    rw [← h]
    exact (Prod.ext (funext fun L => funext fun o => funext fun A => funext fun r => funext fun r_9s => funext fun t40 => funext fun t41 => funext fun t42 => e137_1005 k L o A r r_9s t40 t41 t42) (funext fun L => funext fun rs => e137_1010 k L rs))
theorem w137 (k : Nat) (L : List (Int)) (i_Low_N : Int) (i_Low_K : Int) (i_High_N : Int) (i_High_K : Int) : runFn ti (envOf env61) 78 h137 (finT ti true Go.Proofs.Try.f137.results.toList [(.slice 3 (.int .i64), false)] (.slice 3 (.int .i64))) k (bodyOf Go.Proofs.Try.f137) (initS 0 [.slc 3 (.int .i64) L, .agg [.int .i64 i_Low_N, .int .i64 i_Low_K, .int .i64 i_High_N, .int .i64 i_High_K]]) = F137 k (fun (L : List Int) (o : Int) (A : Int) (r : Int) (r_9s : List Int) (t40 : List Int) (t41 : Int) (t42 : Int) => x137 k k137_1005 (t137_1005 L o A r r_9s t40 t41 t42)) (fun (L : List Int) (rs : List Int) => x137 k k137_1010 (t137_1010 L rs)) L i_Low_N i_Low_K i_High_N i_High_K := by kernel_rfl
theorem v137 (k : Nat) (L : List (Int)) (i_Low_N : Int) (i_Low_K : Int) (i_High_N : Int) (i_High_K : Int) : runFn ti (envOf env61) 78 h137 (finT ti true Go.Proofs.Try.f137.results.toList [(.slice 3 (.int .i64), false)] (.slice 3 (.int .i64))) k (bodyOf Go.Proofs.Try.f137) (initS 0 [.slc 3 (.int .i64) L, .agg [.int .i64 i_Low_N, .int .i64 i_Low_K, .int .i64 i_High_N, .int .i64 i_High_K]]) = f137 k L i_Low_N i_Low_K i_High_N i_High_K := by
  rw [w137]
  have h := q137 k
  unfold f137
  rw [← h]
theorem m137 : Meets Go.Proofs.Try.prog 137 s137 := meets_of_run tiOk env61_ok mo Go.Proofs.Try.func137 (body := bodyOf Go.Proofs.Try.f137) (by kernel_rfl) (N := 78) (by kernel_rfl) (hs := h137) (by
  intro k xs r h
  unfold s137 at h
  dsimp only at h
  split at h
  · exact ⟨Nat.le_of_ble_eq_true rfl, (v137 k _ _ _ _ _).trans h⟩
  · cases h)
theorem env62_ok : EnvOk Go.Proofs.Try.prog (envOf env62) := envOf_cons m137 Go.Proofs.Try.func137 (by kernel_rfl) (by kernel_rfl) env61_ok

-- slices.Min[[]int,int]
def h165 : Hints := [(1005, .lab [(0, .one (.frz 3 (Ty.int IntKind.i64))), (3, .one (.v)), (4, .one (.v))])]
def F165_1005 (k : Nat) (rec1005 : List Int → Int → Int → Option (Int)) (x : List Int) (m : Int) (i : Int) : Option (Int) :=
  bif decide (i < (↑(List.length x) : Int)) then
    bif boundA i (List.length x) then
      rec1005 x (bif decide (List.getD x (Int.toNat i) 0 < m) then List.getD x (Int.toNat i) 0 else m) (IntKind.wrap IntKind.i64 (i + 1))
    else
      none
  else
    some m
def F165 (k : Nat) (rec1005 : List Int → Int → Int → Option (Int)) (x : List (Int)) : Option (Int) :=
  bif decide ((↑(List.length x) : Int) < 1) then
    none
  else
    bif boundA 0 (List.length x) then
      rec1005 x (List.getD x (Int.toNat 0) 0) (1)
    else
      none
def l165 : Nat → (List Int → Int → Int → Option (Int))
  | 0 => fun _ _ _ => none
  | k + 1 => F165_1005 k (l165 k)
def f165 (k : Nat) (x : List (Int)) : Option (Int) := F165 k (l165 k) x
def s165 : Spec := ⟨false, [(.int .i64, false)], true, .int .i64, fun k xs => match xs with | [.slc 3 (.int .i64) x] => f165 k x | _ => none⟩
def env63 : List (FuncId × Spec) := (165, s165) :: env62
noncomputable abbrev x165 := exec ti (envOf env62) 25 h165 (finT ti true Go.Proofs.Try.f165.results.toList [(.int .i64, false)] (.int .i64))
noncomputable def k165_1005 : List It := stackAt [.r, .r, .r, .l, .r, .b, .lb none] (bodyOf Go.Proofs.Try.f165) []
def t165_1005 (x : List Int) (m : Int) (i : Int) : St := [(0, Cell.val (AVal.slc 3 (Ty.int IntKind.i64) x)), (6, Cell.val (AVal.int IntKind.i64 m)), (8, Cell.val (AVal.int IntKind.i64 i))]
theorem e165_1005 (k : Nat) (x : List Int) (m : Int) (i : Int) : x165 (k + 1) k165_1005 (t165_1005 x m i) = F165_1005 k (fun (x : List Int) (m : Int) (i : Int) => x165 k k165_1005 (t165_1005 x m i)) x m i := by kernel_rfl
theorem q165 : ∀ k : Nat, (fun (x : List Int) (m : Int) (i : Int) => x165 k k165_1005 (t165_1005 x m i)) = l165 k
  | 0 => rfl
  | k + 1 => by
    have h := q165 k
    show _ = F165_1005 k (l165 k)
    rw [← h]
    exact (funext fun x => funext fun m => funext fun i => e165_1005 k x m i)
theorem w165 (k : Nat) (x : List (Int)) : runFn ti (envOf env62) 25 h165 (finT ti true Go.Proofs.Try.f165.results.toList [(.int .i64, false)] (.int .i64)) k (bodyOf Go.Proofs.Try.f165) (initS 0 [.slc 3 (.int .i64) x]) = F165 k (fun (x : List Int) (m : Int) (i : Int) => x165 k k165_1005 (t165_1005 x m i)) x := by kernel_rfl
theorem v165 (k : Nat) (x : List (Int)) : runFn ti (envOf env62) 25 h165 (finT ti true Go.Proofs.Try.f165.results.toList [(.int .i64, false)] (.int .i64)) k (bodyOf Go.Proofs.Try.f165) (initS 0 [.slc 3 (.int .i64) x]) = f165 k x := by
  rw [w165]
  have h := q165 k
  unfold f165
  rw [← h]
theorem m165 : Meets Go.Proofs.Try.prog 165 s165 := meets_of_run tiOk env62_ok mo Go.Proofs.Try.func165 (body := bodyOf Go.Proofs.Try.f165) (by kernel_rfl) (N := 25) (by kernel_rfl) (hs := h165) (by
  intro k xs r h
  unfold s165 at h
  dsimp only at h
  split at h
  · exact ⟨Nat.le_of_ble_eq_true rfl, (v165 k _).trans h⟩
  · cases h)
theorem env63_ok : EnvOk Go.Proofs.Try.prog (envOf env63) := envOf_cons m165 Go.Proofs.Try.func165 (by kernel_rfl) (by kernel_rfl) env62_ok

-- slices.Max[[]int,int]
def h166 : Hints := [(1005, .lab [(0, .one (.frz 3 (Ty.int IntKind.i64))), (3, .one (.v)), (4, .one (.v))])]
def F166_1005 (k : Nat) (rec1005 : List Int → Int → Int → Option (Int)) (x : List Int) (m : Int) (i : Int) : Option (Int) :=
  bif decide (i < (↑(List.length x) : Int)) then
    bif boundA i (List.length x) then
      rec1005 x (bif decide (m < List.getD x (Int.toNat i) 0) then List.getD x (Int.toNat i) 0 else m) (IntKind.wrap IntKind.i64 (i + 1))
    else
      none
  else
    some m
def F166 (k : Nat) (rec1005 : List Int → Int → Int → Option (Int)) (x : List (Int)) : Option (Int) :=
  bif decide ((↑(List.length x) : Int) < 1) then
    none
  else
    bif boundA 0 (List.length x) then
      rec1005 x (List.getD x (Int.toNat 0) 0) (1)
    else
      none
def l166 : Nat → (List Int → Int → Int → Option (Int))
  | 0 => fun _ _ _ => none
  | k + 1 => F166_1005 k (l166 k)
def f166 (k : Nat) (x : List (Int)) : Option (Int) := F166 k (l166 k) x
def s166 : Spec := ⟨false, [(.int .i64, false)], true, .int .i64, fun k xs => match xs with | [.slc 3 (.int .i64) x] => f166 k x | _ => none⟩
def env64 : List (FuncId × Spec) := (166, s166) :: env63
noncomputable abbrev x166 := exec ti (envOf env63) 25 h166 (finT ti true Go.Proofs.Try.f166.results.toList [(.int .i64, false)] (.int .i64))
noncomputable def k166_1005 : List It := stackAt [.r, .r, .r, .l, .r, .b, .lb none] (bodyOf Go.Proofs.Try.f166) []
def t166_1005 (x : List Int) (m : Int) (i : Int) : St := [(0, Cell.val (AVal.slc 3 (Ty.int IntKind.i64) x)), (6, Cell.val (AVal.int IntKind.i64 m)), (8, Cell.val (AVal.int IntKind.i64 i))]
theorem e166_1005 (k : Nat) (x : List Int) (m : Int) (i : Int) : x166 (k + 1) k166_1005 (t166_1005 x m i) = F166_1005 k (fun (x : List Int) (m : Int) (i : Int) => x166 k k166_1005 (t166_1005 x m i)) x m i := by kernel_rfl
theorem q166 : ∀ k : Nat, (fun (x : List Int) (m : Int) (i : Int) => x166 k k166_1005 (t166_1005 x m i)) = l166 k
  | 0 => rfl
  | k + 1 => by
    have h := q166 k
    show _ = F166_1005 k (l166 k)
    rw [← h]
    exact (funext fun x => funext fun m => funext fun i => e166_1005 k x m i)
theorem w166 (k : Nat) (x : List (Int)) : runFn ti (envOf env63) 25 h166 (finT ti true Go.Proofs.Try.f166.results.toList [(.int .i64, false)] (.int .i64)) k (bodyOf Go.Proofs.Try.f166) (initS 0 [.slc 3 (.int .i64) x]) = F166 k (fun (x : List Int) (m : Int) (i : Int) => x166 k k166_1005 (t166_1005 x m i)) x := by kernel_rfl
theorem v166 (k : Nat) (x : List (Int)) : runFn ti (envOf env63) 25 h166 (finT ti true Go.Proofs.Try.f166.results.toList [(.int .i64, false)] (.int .i64)) k (bodyOf Go.Proofs.Try.f166) (initS 0 [.slc 3 (.int .i64) x]) = f166 k x := by
  rw [w166]
  have h := q166 k
  unfold f166
  rw [← h]
theorem m166 : Meets Go.Proofs.Try.prog 166 s166 := meets_of_run tiOk env63_ok mo Go.Proofs.Try.func166 (body := bodyOf Go.Proofs.Try.f166) (by kernel_rfl) (N := 25) (by kernel_rfl) (hs := h166) (by
  intro k xs r h
  unfold s166 at h
  dsimp only at h
  split at h
  · exact ⟨Nat.le_of_ble_eq_true rfl, (v166 k _).trans h⟩
  · cases h)
theorem env64_ok : EnvOk Go.Proofs.Try.prog (envOf env64) := envOf_cons m166 Go.Proofs.Try.func166 (by kernel_rfl) (by kernel_rfl) env63_ok

-- impl.commonSign
def f138 (k : Nat) (list : List (Int)) : Option (Int) :=
  (f165 k list).bind fun r0 =>
  bif decide (0 < r0) then
    some (1)
  else
    (f166 k list).bind fun r1 =>
    bif decide (r1 < 0) then
      some (-1)
    else
      some (0)
def s138 : Spec := ⟨false, [(.int .i64, false)], true, .int .i64, fun k xs => match xs with | [.slc 3 (.int .i64) list] => f138 k list | _ => none⟩
def env65 : List (FuncId × Spec) := (138, s138) :: env64
theorem v138 (k : Nat) (list : List (Int)) : runFn ti (envOf env64) 11 [] (finT ti true Go.Proofs.Try.f138.results.toList [(.int .i64, false)] (.int .i64)) k (bodyOf Go.Proofs.Try.f138) (initS 0 [.slc 3 (.int .i64) list]) = f138 k list := by kernel_rfl
theorem m138 : Meets Go.Proofs.Try.prog 138 s138 := meets_of_run tiOk env64_ok mo Go.Proofs.Try.func138 (body := bodyOf Go.Proofs.Try.f138) (by kernel_rfl) (N := 11) (by kernel_rfl) (hs := []) (by
  intro k xs r h
  unfold s138 at h
  dsimp only at h
  split at h
  · exact ⟨Nat.le_of_ble_eq_true rfl, (v138 k _).trans h⟩
  · cases h)
theorem env65_ok : EnvOk Go.Proofs.Try.prog (envOf env65) := envOf_cons m138 Go.Proofs.Try.func138 (by kernel_rfl) (by kernel_rfl) env64_ok

-- impl.slopeSign
def h99 : Hints := [(1003, .lab [(0, .one (.frz 3 (Ty.int IntKind.i64))), (1, .one (.frz 3 (Ty.int IntKind.i64))), (3, .one (.v)), (4, .one (.v)), (7, .box 73 [.v, .v, .v, .v]), (11, .one (.own 3 (Ty.int IntKind.i64))), (12, .one (.v))]), (1006, .lab [(0, .one (.frz 3 (Ty.int IntKind.i64))), (1, .one (.frz 3 (Ty.int IntKind.i64))), (3, .one (.v)), (4, .one (.v)), (7, .box 73 [.v, .v, .v, .v]), (11, .one (.own 3 (Ty.int IntKind.i64))), (12, .one (.v)), (13, .one (.own 3 (Ty.int IntKind.i64)))])]
def F99_1003 (k : Nat) (rec1003 : List Int → List Int → Int → Int → Int → Int → Int → Int → List Int → Int → Option (Int)) (rec1006 : List Int → List Int → Int → Int → Int → Int → Int → Int → List Int → Int → List Int → Option (Int)) (p : List Int) (q : List Int) (i : Int) (fine : Int) (xs_0 : Int) (xs_1 : Int) (xs_2 : Int) (xs_3 : Int) (alls : List Int) (moment : Int) : Option (Int) :=
  bif decide (moment ≤ IntKind.wrap IntKind.i64 (i + 1)) then
    (f68 k p q moment fine).bind fun r0 =>
    (f136 k r0).bind fun r1 =>
    rec1006 p q i fine xs_0 xs_1 xs_2 xs_3 alls moment r1
  else
    (f138 k alls).bind fun r2 =>
    some r2
def F99_1006 (k : Nat) (rec1003 : List Int → List Int → Int → Int → Int → Int → Int → Int → List Int → Int → Option (Int)) (rec1006 : List Int → List Int → Int → Int → Int → Int → Int → Int → List Int → Int → List Int → Option (Int)) (p : List Int) (q : List Int) (i : Int) (fine : Int) (xs_0 : Int) (xs_1 : Int) (xs_2 : Int) (xs_3 : Int) (alls : List Int) (moment : Int) (ds : List Int) : Option (Int) :=
  bif decide ((↑(List.length ds) : Int) < 5) then
    bif decide ((List.length ds + List.length [0]) * 8 ≤ 140737488355328) then
      rec1006 p q i fine xs_0 xs_1 xs_2 xs_3 alls moment (ds ++ [0])
    else
      none
  else
    (f137 k ds xs_0 xs_1 xs_2 xs_3).bind fun r0 =>
    bif decide ((List.length alls + List.length r0) * 8 ≤ 140737488355328) then
      rec1003 p q i fine xs_0 xs_1 xs_2 xs_3 (alls ++ r0) (IntKind.wrap IntKind.i64 (moment + 1))
    else
      none
def F99 (k : Nat) (rec1003 : List Int → List Int → Int → Int → Int → Int → Int → Int → List Int → Int → Option (Int)) (rec1006 : List Int → List Int → Int → Int → Int → Int → Int → Int → List Int → Int → List Int → Option (Int)) (p : List (Int)) (q : List (Int)) (x_Low_N : Int) (x_Low_K : Int) (x_High_N : Int) (x_High_K : Int) (i : Int) (fine : Int) : Option (Int) :=
  rec1003 p q i fine x_Low_N x_Low_K x_High_N x_High_K ([]) i
def l99 : Nat → (List Int → List Int → Int → Int → Int → Int → Int → Int → List Int → Int → Option (Int)) × (List Int → List Int → Int → Int → Int → Int → Int → Int → List Int → Int → List Int → Option (Int))
  | 0 => (fun _ _ _ _ _ _ _ _ _ _ => none, fun _ _ _ _ _ _ _ _ _ _ _ => none)
  | k + 1 => (F99_1003 k ((l99 k).1) ((l99 k).2), F99_1006 k ((l99 k).1) ((l99 k).2))
def f99 (k : Nat) (p : List (Int)) (q : List (Int)) (x_Low_N : Int) (x_Low_K : Int) (x_High_N : Int) (x_High_K : Int) (i : Int) (fine : Int) : Option (Int) := F99 k ((l99 k).1) ((l99 k).2) p q x_Low_N x_Low_K x_High_N x_High_K i fine
def s99 : Spec := ⟨false, [(.int .i64, false)], true, .int .i64, fun k xs => match xs with | [.slc 3 (.int .i64) p, .slc 3 (.int .i64) q, .agg [.int .i64 x_Low_N, .int .i64 x_Low_K, .int .i64 x_High_N, .int .i64 x_High_K], .int .i64 i, .int .i64 fine] => f99 k p q x_Low_N x_Low_K x_High_N x_High_K i fine | _ => none⟩
def env66 : List (FuncId × Spec) := (99, s99) :: env65
noncomputable abbrev x99 := exec ti (envOf env65) 40 h99 (finT ti true Go.Proofs.Try.f99.results.toList [(.int .i64, false)] (.int .i64))
noncomputable def k99_1003 : List It := stackAt [.r, .r, .l, .r, .b, .lb none] (bodyOf Go.Proofs.Try.f99) []
def t99_1003 (p : List Int) (q : List Int) (i : Int) (fine : Int) (xs_0 : Int) (xs_1 : Int) (xs_2 : Int) (xs_3 : Int) (alls : List Int) (moment : Int) : St := [(0, Cell.val (AVal.slc 3 (Ty.int IntKind.i64) p)), (2, Cell.val (AVal.slc 3 (Ty.int IntKind.i64) q)), (6, Cell.val (AVal.int IntKind.i64 i)), (8, Cell.val (AVal.int IntKind.i64 fine)), (14, Cell.val (AVal.ptr 3 0)), (3, Cell.mem true 73 [AVal.int IntKind.i64 xs_0, AVal.int IntKind.i64 xs_1, AVal.int IntKind.i64 xs_2, AVal.int IntKind.i64 xs_3]), (22, Cell.val (AVal.ref 5 none)), (5, Cell.row true 3 (Ty.int IntKind.i64) alls), (24, Cell.val (AVal.int IntKind.i64 moment))]
noncomputable def k99_1006 : List It := stackAt [.r, .r, .l, .r, .b, .lb none, .r, .l, .b, .r, .l, .b, .lb none] (bodyOf Go.Proofs.Try.f99) []
def t99_1006 (p : List Int) (q : List Int) (i : Int) (fine : Int) (xs_0 : Int) (xs_1 : Int) (xs_2 : Int) (xs_3 : Int) (alls : List Int) (moment : Int) (ds : List Int) : St := [(0, Cell.val (AVal.slc 3 (Ty.int IntKind.i64) p)), (2, Cell.val (AVal.slc 3 (Ty.int IntKind.i64) q)), (6, Cell.val (AVal.int IntKind.i64 i)), (8, Cell.val (AVal.int IntKind.i64 fine)), (14, Cell.val (AVal.ptr 3 0)), (3, Cell.mem true 73 [AVal.int IntKind.i64 xs_0, AVal.int IntKind.i64 xs_1, AVal.int IntKind.i64 xs_2, AVal.int IntKind.i64 xs_3]), (22, Cell.val (AVal.ref 5 none)), (5, Cell.row true 3 (Ty.int IntKind.i64) alls), (24, Cell.val (AVal.int IntKind.i64 moment)), (26, Cell.val (AVal.ref 7 none)), (7, Cell.row true 3 (Ty.int IntKind.i64) ds)]
theorem e99_1003 (k : Nat) (p : List Int) (q : List Int) (i : Int) (fine : Int) (xs_0 : Int) (xs_1 : Int) (xs_2 : Int) (xs_3 : Int) (alls : List Int) (moment : Int) : x99 (k + 1) k99_1003 (t99_1003 p q i fine xs_0 xs_1 xs_2 xs_3 alls moment) = F99_1003 k (fun (p : List Int) (q : List Int) (i : Int) (fine : Int) (xs_0 : Int) (xs_1 : Int) (xs_2 : Int) (xs_3 : Int) (alls : List Int) (moment : Int) => x99 k k99_1003 (t99_1003 p q i fine xs_0 xs_1 xs_2 xs_3 alls moment)) (fun (p : List Int) (q : List Int) (i : Int) (fine : Int) (xs_0 : Int) (xs_1 : Int) (xs_2 : Int) (xs_3 : Int) (alls : List Int) (moment : Int) (ds : List Int) => x99 k k99_1006 (t99_1006 p q i fine xs_0 xs_1 xs_2 xs_3 alls moment ds)) p q i fine xs_0 xs_1 xs_2 xs_3 alls moment := by kernel_rfl
theorem e99_1006 (k : Nat) (p : List Int) (q : List Int) (i : Int) (fine : Int) (xs_0 : Int) (xs_1 : Int) (xs_2 : Int) (xs_3 : Int) (alls : List Int) (moment : Int) (ds : List Int) : x99 (k + 1) k99_1006 (t99_1006 p q i fine xs_0 xs_1 xs_2 xs_3 alls moment ds) = F99_1006 k (fun (p : List Int) (q : List Int) (i : Int) (fine : Int) (xs_0 : Int) (xs_1 : Int) (xs_2 : Int) (xs_3 : Int) (alls : List Int) (moment : Int) => x99 k k99_1003 (t99_1003 p q i fine xs_0 xs_1 xs_2 xs_3 alls moment)) (fun (p : List Int) (q : List Int) (i : Int) (fine : Int) (xs_0 : Int) (xs_1 : Int) (xs_2 : Int) (xs_3 : Int) (alls : List Int) (moment : Int) (ds : List Int) => x99 k k99_1006 (t99_1006 p q i fine xs_0 xs_1 xs_2 xs_3 alls moment ds)) p q i fine xs_0 xs_1 xs_2 xs_3 alls moment ds := by kernel_rfl
theorem q99 : ∀ k : Nat, ((fun (p : List Int) (q : List Int) (i : Int) (fine : Int) (xs_0 : Int) (xs_1 : Int) (xs_2 : Int) (xs_3 : Int) (alls : List Int) (moment : Int) => x99 k k99_1003 (t99_1003 p q i fine xs_0 xs_1 xs_2 xs_3 alls moment)), (fun (p : List Int) (q : List Int) (i : Int) (fine : Int) (xs_0 : Int) (xs_1 : Int) (xs_2 : Int) (xs_3 : Int) (alls : List Int) (moment : Int) (ds : List Int) => x99 k k99_1006 (t99_1006 p q i fine xs_0 xs_1 xs_2 xs_3 alls moment ds))) = l99 k
  | 0 => rfl
  | k + 1 => by
    have h := q99 k
    show _ = (F99_1003 k ((l99 k).1) ((l99 k).2), F99_1006 k ((l99 k).1) ((l99 k).2))
    rw [← h]
    exact (Prod.ext (funext fun p => funext fun q => funext fun i => funext fun fine => funext fun xs_0 => funext fun xs_1 => funext fun xs_2 => funext fun xs_3 => funext fun alls => funext fun moment => e99_1003 k p q i fine xs_0 xs_1 xs_2 xs_3 alls moment) (funext fun p => funext fun q => funext fun i => funext fun fine => funext fun xs_0 => funext fun xs_1 => funext fun xs_2 => funext fun xs_3 => funext fun alls => funext fun moment => funext fun ds => e99_1006 k p q i fine xs_0 xs_1 xs_2 xs_3 alls moment ds))
theorem w99 (k : Nat) (p : List (Int)) (q : List (Int)) (x_Low_N : Int) (x_Low_K : Int) (x_High_N : Int) (x_High_K : Int) (i : Int) (fine : Int) : runFn ti (envOf env65) 40 h99 (finT ti true Go.Proofs.Try.f99.results.toList [(.int .i64, false)] (.int .i64)) k (bodyOf Go.Proofs.Try.f99) (initS 0 [.slc 3 (.int .i64) p, .slc 3 (.int .i64) q, .agg [.int .i64 x_Low_N, .int .i64 x_Low_K, .int .i64 x_High_N, .int .i64 x_High_K], .int .i64 i, .int .i64 fine]) = F99 k (fun (p : List Int) (q : List Int) (i : Int) (fine : Int) (xs_0 : Int) (xs_1 : Int) (xs_2 : Int) (xs_3 : Int) (alls : List Int) (moment : Int) => x99 k k99_1003 (t99_1003 p q i fine xs_0 xs_1 xs_2 xs_3 alls moment)) (fun (p : List Int) (q : List Int) (i : Int) (fine : Int) (xs_0 : Int) (xs_1 : Int) (xs_2 : Int) (xs_3 : Int) (alls : List Int) (moment : Int) (ds : List Int) => x99 k k99_1006 (t99_1006 p q i fine xs_0 xs_1 xs_2 xs_3 alls moment ds)) p q x_Low_N x_Low_K x_High_N x_High_K i fine := by kernel_rfl
theorem v99 (k : Nat) (p : List (Int)) (q : List (Int)) (x_Low_N : Int) (x_Low_K : Int) (x_High_N : Int) (x_High_K : Int) (i : Int) (fine : Int) : runFn ti (envOf env65) 40 h99 (finT ti true Go.Proofs.Try.f99.results.toList [(.int .i64, false)] (.int .i64)) k (bodyOf Go.Proofs.Try.f99) (initS 0 [.slc 3 (.int .i64) p, .slc 3 (.int .i64) q, .agg [.int .i64 x_Low_N, .int .i64 x_Low_K, .int .i64 x_High_N, .int .i64 x_High_K], .int .i64 i, .int .i64 fine]) = f99 k p q x_Low_N x_Low_K x_High_N x_High_K i fine := by
  rw [w99]
  have h := q99 k
  unfold f99
  rw [← h]
theorem m99 : Meets Go.Proofs.Try.prog 99 s99 := meets_of_run tiOk env65_ok mo Go.Proofs.Try.func99 (body := bodyOf Go.Proofs.Try.f99) (by kernel_rfl) (N := 40) (by kernel_rfl) (hs := h99) (by
  intro k xs r h
  unfold s99 at h
  dsimp only at h
  split at h
  · exact ⟨Nat.le_of_ble_eq_true rfl, (v99 k _ _ _ _ _ _ _ _).trans h⟩
  · cases h)
theorem env66_ok : EnvOk Go.Proofs.Try.prog (envOf env66) := envOf_cons m99 Go.Proofs.Try.func99 (by kernel_rfl) (by kernel_rfl) env65_ok

-- impl.SlopeSign
def f52 (k : Nat) (p : List (Int)) (q : List (Int)) (x_Low_N : Int) (x_Low_K : Int) (x_High_N : Int) (x_High_K : Int) (i : Int) (fine : Int) : Option (Int × Bool) :=
  (f66 k p q fine).bind fun r0 =>
  bif !r0 then
    some ((0, false))
  else
    (f98 k x_Low_N x_Low_K x_High_N x_High_K).bind fun r1 =>
    bif !r1 then
      some ((0, false))
    else
      (f67 k (IntKind.wrap IntKind.i64 (i + 1)) fine).bind fun r2 =>
      bif !r2 then
        some ((0, false))
      else
        bif decide (i < 0) then
          some ((0, false))
        else
          (f99 k p q x_Low_N x_Low_K x_High_N x_High_K i fine).bind fun r3 =>
          some ((r3, true))
def s52 : Spec := ⟨false, [(.int .i64, false), (.bool, false)], true, .pair (.int .i64) (.bool), fun k xs => match xs with | [.slc 3 (.int .i64) p, .slc 3 (.int .i64) q, .agg [.int .i64 x_Low_N, .int .i64 x_Low_K, .int .i64 x_High_N, .int .i64 x_High_K], .int .i64 i, .int .i64 fine] => f52 k p q x_Low_N x_Low_K x_High_N x_High_K i fine | _ => none⟩
def env67 : List (FuncId × Spec) := (52, s52) :: env66
theorem v52 (k : Nat) (p : List (Int)) (q : List (Int)) (x_Low_N : Int) (x_Low_K : Int) (x_High_N : Int) (x_High_K : Int) (i : Int) (fine : Int) : runFn ti (envOf env66) 39 [] (finT ti true Go.Proofs.Try.f52.results.toList [(.int .i64, false), (.bool, false)] (.pair (.int .i64) (.bool))) k (bodyOf Go.Proofs.Try.f52) (initS 0 [.slc 3 (.int .i64) p, .slc 3 (.int .i64) q, .agg [.int .i64 x_Low_N, .int .i64 x_Low_K, .int .i64 x_High_N, .int .i64 x_High_K], .int .i64 i, .int .i64 fine]) = f52 k p q x_Low_N x_Low_K x_High_N x_High_K i fine := by kernel_rfl
theorem m52 : Meets Go.Proofs.Try.prog 52 s52 := meets_of_run tiOk env66_ok mo Go.Proofs.Try.func52 (body := bodyOf Go.Proofs.Try.f52) (by kernel_rfl) (N := 39) (by kernel_rfl) (hs := []) (by
  intro k xs r h
  unfold s52 at h
  dsimp only at h
  split at h
  · exact ⟨Nat.le_of_ble_eq_true rfl, (v52 k _ _ _ _ _ _ _ _).trans h⟩
  · cases h)
theorem env67_ok : EnvOk Go.Proofs.Try.prog (envOf env67) := envOf_cons m52 Go.Proofs.Try.func52 (by kernel_rfl) (by kernel_rfl) env66_ok

-- laws.FnExactSlopeSign
def f12 (k : Nat) (L : List (Int)) (i : List (Int)) (s_Low_N : Int) (s_Low_K : Int) (s_High_N : Int) (s_High_K : Int) (t : Int) (t4 : Int) : Option (Bool) :=
  bif decide (1000000 < IntKind.wrap IntKind.i64 ((↑(List.length L) : Int) + (↑(List.length i) : Int))) then
    some true
  else
    (f15 k L false).bind fun r0 =>
    (f15 k i false).bind fun r1 =>
    (f50 k (List.take r0.snd r0.fst) (List.take r1.snd r1.fst) s_Low_N s_Low_K s_High_N s_High_K t t4).bind fun r2 =>
    (f15 k L false).bind fun r3 =>
    (f15 k i false).bind fun r4 =>
    (f52 k (List.take r3.snd r3.fst) (List.take r4.snd r4.fst) s_Low_N s_Low_K s_High_N s_High_K t t4).bind fun r5 =>
    bif !decide (r5.fst = r2.fst) then
      some false
    else
      bif !r5.snd == r2.snd then
        some false
      else
        (f15 k L false).bind fun r6 =>
        (f18 k r3.fst r3.snd r6.fst r6.snd).bind fun r7 =>
        bif !r7 then
          some false
        else
          (f15 k i false).bind fun r8 =>
          (f18 k r4.fst r4.snd r8.fst r8.snd).bind fun r9 =>
          bif !r9 then
            some false
          else
            (f15 k L true).bind fun r10 =>
            (f15 k i true).bind fun r11 =>
            (f52 k (List.take r10.snd r10.fst) (List.take r11.snd r11.fst) s_Low_N s_Low_K s_High_N s_High_K t t4).bind fun r12 =>
            bif !decide (r12.fst = r2.fst) then
              some false
            else
              bif !r12.snd == r2.snd then
                some false
              else
                some true
def s12 : Spec := ⟨false, [(.bool, false)], true, .bool, fun k xs => match xs with | [.slc 3 (.int .i64) L, .slc 3 (.int .i64) i, .agg [.int .i64 s_Low_N, .int .i64 s_Low_K, .int .i64 s_High_N, .int .i64 s_High_K], .int .i64 t, .int .i64 t4] => f12 k L i s_Low_N s_Low_K s_High_N s_High_K t t4 | _ => none⟩
def env68 : List (FuncId × Spec) := (12, s12) :: env67
theorem v12 (k : Nat) (L : List (Int)) (i : List (Int)) (s_Low_N : Int) (s_Low_K : Int) (s_High_N : Int) (s_High_K : Int) (t : Int) (t4 : Int) : runFn tiV (envOf env67) 89 [] (finT tiV true Go.Proofs.Try.f12.results.toList [(.bool, false)] (.bool)) k (bodyOf Go.Proofs.Try.f12) (initS 0 [.slc 3 (.int .i64) L, .slc 3 (.int .i64) i, .agg [.int .i64 s_Low_N, .int .i64 s_Low_K, .int .i64 s_High_N, .int .i64 s_High_K], .int .i64 t, .int .i64 t4]) = f12 k L i s_Low_N s_Low_K s_High_N s_High_K t t4 := by kernel_rfl
theorem m12 : Meets Go.Proofs.Try.prog 12 s12 := meets_of_run tiVOk env67_ok mo Go.Proofs.Try.func12 (body := bodyOf Go.Proofs.Try.f12) (by kernel_rfl) (N := 89) (by kernel_rfl) (hs := []) (by
  intro k xs r h
  unfold s12 at h
  dsimp only at h
  split at h
  · exact ⟨Nat.le_of_ble_eq_true rfl, (v12 k _ _ _ _ _ _ _ _).trans h⟩
  · cases h)
theorem env68_ok : EnvOk Go.Proofs.Try.prog (envOf env68) := envOf_cons m12 Go.Proofs.Try.func12 (by kernel_rfl) (by kernel_rfl) env67_ok

end Go.Proofs.YtnndolcjljhhcaaE
