/- Functions, by the engine; printed. -/
import Derived.Test.YtnndolcjljhhcaaFS2
set_option maxRecDepth 100000
set_option maxHeartbeats 4000000
set_option linter.unusedVariables false
namespace Go.Proofs.YtnndolcjljhhcaaE
-- laws.toDyadic
def f43 (k : Nat) (a_N : Int) (a_K : Int) : Option (Int × Int) :=
  some ((a_N, a_K))
def s43 : Spec := ⟨false, [(.pair (.int .i64) (.int .i64), true)], true, .pair (.int .i64) (.int .i64), fun k xs => match xs with | [.agg [.int .i64 a_N, .int .i64 a_K]] => f43 k a_N a_K | _ => none⟩
def env25 : List (FuncId × Spec) := (43, s43) :: env24
theorem v43 (k : Nat) (a_N : Int) (a_K : Int) : runFn tiV (envOf env24) 11 [] (finT tiV true Go.Proofs.Try.f43.results.toList [(.pair (.int .i64) (.int .i64), true)] (.pair (.int .i64) (.int .i64))) k (bodyOf Go.Proofs.Try.f43) (initS 0 [.agg [.int .i64 a_N, .int .i64 a_K]]) = f43 k a_N a_K := by kernel_rfl
theorem m43 : Meets Go.Proofs.Try.prog 43 s43 := meets_of_run tiVOk env24_ok mo Go.Proofs.Try.func43 (body := bodyOf Go.Proofs.Try.f43) (by kernel_rfl) (N := 11) (by kernel_rfl) (hs := []) (by
  intro k xs r h
  unfold s43 at h
  dsimp only at h
  split at h
  · exact ⟨Nat.le_of_ble_eq_true rfl, (v43 k _ _).trans h⟩
  · cases h)
theorem env25_ok : EnvOk Go.Proofs.Try.prog (envOf env25) := envOf_cons m43 Go.Proofs.Try.func43 (by kernel_rfl) (by kernel_rfl) env24_ok

-- impl.inside
def f74 (k : Nat) (n : Int) (low : Int) (high : Int) : Option (Bool) :=
  bif decide (low ≤ n) then
    some (decide (n ≤ high))
  else
    some false
def s74 : Spec := ⟨false, [(.bool, false)], true, .bool, fun k xs => match xs with | [.int .i64 n, .int .i64 low, .int .i64 high] => f74 k n low high | _ => none⟩
def env26 : List (FuncId × Spec) := (74, s74) :: env25
theorem v74 (k : Nat) (n : Int) (low : Int) (high : Int) : runFn ti (envOf env25) 15 [] (finT ti true Go.Proofs.Try.f74.results.toList [(.bool, false)] (.bool)) k (bodyOf Go.Proofs.Try.f74) (initS 0 [.int .i64 n, .int .i64 low, .int .i64 high]) = f74 k n low high := by kernel_rfl
theorem m74 : Meets Go.Proofs.Try.prog 74 s74 := meets_of_run tiOk env25_ok mo Go.Proofs.Try.func74 (body := bodyOf Go.Proofs.Try.f74) (by kernel_rfl) (N := 15) (by kernel_rfl) (hs := []) (by
  intro k xs r h
  unfold s74 at h
  dsimp only at h
  split at h
  · exact ⟨Nat.le_of_ble_eq_true rfl, (v74 k _ _ _).trans h⟩
  · cases h)
theorem env26_ok : EnvOk Go.Proofs.Try.prog (envOf env26) := envOf_cons m74 Go.Proofs.Try.func74 (by kernel_rfl) (by kernel_rfl) env25_ok

-- impl.isSingle
def h143 : Hints := [(1002, .lab [(0, .one (.frz 3 (Ty.int IntKind.i64))), (5, .one (.frz 3 (Ty.int IntKind.i64))), (6, .one (.v)), (7, .one (.v))])]
def F143_1002 (k : Nat) (rec1002 : List Int → List Int → Int → Int → Option (Bool)) (p : List Int) (t5 : List Int) (t6 : Int) (t7 : Int) : Option (Bool) :=
  bif decide (t7 < t6) then
    bif boundA t7 (List.length t5) then
      (f74 k (List.getD t5 (Int.toNat t7) 0) (-1000000) 1000000).bind fun r0 =>
      bif !r0 then
        some false
      else
        rec1002 p t5 t6 (IntKind.wrap IntKind.i64 (t7 + 1))
    else
      none
  else
    bif decide ((↑(List.length p) : Int) = 0) then
      some true
    else
      bif decide ((↑(List.length p) : Int) ≤ 9) then
        bif boundA (IntKind.wrap IntKind.i64 ((↑(List.length p) : Int) - 1)) (List.length p) then
          some (!decide (List.getD p (Int.toNat (IntKind.wrap IntKind.i64 ((↑(List.length p) : Int) - 1))) 0 = 0))
        else
          none
      else
        some false
def F143 (k : Nat) (rec1002 : List Int → List Int → Int → Int → Option (Bool)) (p : List (Int)) : Option (Bool) :=
  rec1002 p p ((↑(List.length p) : Int)) (0)
def l143 : Nat → (List Int → List Int → Int → Int → Option (Bool))
  | 0 => fun _ _ _ _ => none
  | k + 1 => F143_1002 k (l143 k)
def f143 (k : Nat) (p : List (Int)) : Option (Bool) := F143 k (l143 k) p
def s143 : Spec := ⟨false, [(.bool, false)], true, .bool, fun k xs => match xs with | [.slc 3 (.int .i64) p] => f143 k p | _ => none⟩
def env27 : List (FuncId × Spec) := (143, s143) :: env26
noncomputable abbrev x143 := exec ti (envOf env26) 32 h143 (finT ti true Go.Proofs.Try.f143.results.toList [(.bool, false)] (.bool))
noncomputable def k143_1002 : List It := stackAt [.r, .l, .r, .b, .lb none] (bodyOf Go.Proofs.Try.f143) []
def t143_1002 (p : List Int) (t5 : List Int) (t6 : Int) (t7 : Int) : St := [(0, Cell.val (AVal.slc 3 (Ty.int IntKind.i64) p)), (10, Cell.val (AVal.slc 3 (Ty.int IntKind.i64) t5)), (12, Cell.val (AVal.int IntKind.i64 t6)), (14, Cell.val (AVal.int IntKind.i64 t7))]
theorem e143_1002 (k : Nat) (p : List Int) (t5 : List Int) (t6 : Int) (t7 : Int) : x143 (k + 1) k143_1002 (t143_1002 p t5 t6 t7) = F143_1002 k (fun (p : List Int) (t5 : List Int) (t6 : Int) (t7 : Int) => x143 k k143_1002 (t143_1002 p t5 t6 t7)) p t5 t6 t7 := by kernel_rfl
theorem q143 : ∀ k : Nat, (fun (p : List Int) (t5 : List Int) (t6 : Int) (t7 : Int) => x143 k k143_1002 (t143_1002 p t5 t6 t7)) = l143 k
  | 0 => rfl
  | k + 1 => by
    have h := q143 k
    show _ = F143_1002 k (l143 k)
    rw [← h]
    exact (funext fun p => funext fun t5 => funext fun t6 => funext fun t7 => e143_1002 k p t5 t6 t7)
theorem w143 (k : Nat) (p : List (Int)) : runFn ti (envOf env26) 32 h143 (finT ti true Go.Proofs.Try.f143.results.toList [(.bool, false)] (.bool)) k (bodyOf Go.Proofs.Try.f143) (initS 0 [.slc 3 (.int .i64) p]) = F143 k (fun (p : List Int) (t5 : List Int) (t6 : Int) (t7 : Int) => x143 k k143_1002 (t143_1002 p t5 t6 t7)) p := by kernel_rfl
theorem v143 (k : Nat) (p : List (Int)) : runFn ti (envOf env26) 32 h143 (finT ti true Go.Proofs.Try.f143.results.toList [(.bool, false)] (.bool)) k (bodyOf Go.Proofs.Try.f143) (initS 0 [.slc 3 (.int .i64) p]) = f143 k p := by
  rw [w143]
  have h := q143 k
  unfold f143
  rw [← h]
theorem m143 : Meets Go.Proofs.Try.prog 143 s143 := meets_of_run tiOk env26_ok mo Go.Proofs.Try.func143 (body := bodyOf Go.Proofs.Try.f143) (by kernel_rfl) (N := 32) (by kernel_rfl) (hs := h143) (by
  intro k xs r h
  unfold s143 at h
  dsimp only at h
  split at h
  · exact ⟨Nat.le_of_ble_eq_true rfl, (v143 k _).trans h⟩
  · cases h)
theorem env27_ok : EnvOk Go.Proofs.Try.prog (envOf env27) := envOf_cons m143 Go.Proofs.Try.func143 (by kernel_rfl) (by kernel_rfl) env26_ok

-- impl.isSmall$1
def f145 (k : Nat) (c : Int) : Option (Bool) :=
  (f74 k c (-1000) 1000).bind fun r0 =>
  some (!r0)
def s145 : Spec := ⟨false, [(.bool, false)], true, .bool, fun k xs => match xs with | [.int .i64 c] => f145 k c | _ => none⟩
def env28 : List (FuncId × Spec) := (145, s145) :: env27
theorem v145 (k : Nat) (c : Int) : runFn ti (envOf env27) 6 [] (finT ti true Go.Proofs.Try.f145.results.toList [(.bool, false)] (.bool)) k (bodyOf Go.Proofs.Try.f145) (initS 0 [.int .i64 c]) = f145 k c := by kernel_rfl
theorem m145 : Meets Go.Proofs.Try.prog 145 s145 := meets_of_run tiOk env27_ok mo Go.Proofs.Try.func145 (body := bodyOf Go.Proofs.Try.f145) (by kernel_rfl) (N := 6) (by kernel_rfl) (hs := []) (by
  intro k xs r h
  unfold s145 at h
  dsimp only at h
  split at h
  · exact ⟨Nat.le_of_ble_eq_true rfl, (v145 k _).trans h⟩
  · cases h)
theorem env28_ok : EnvOk Go.Proofs.Try.prog (envOf env28) := envOf_cons m145 Go.Proofs.Try.func145 (by kernel_rfl) (by kernel_rfl) env27_ok

-- slices.IndexFunc[[]int,int]
def h174_145 : Hints := [(1002, .lab [(0, .one (.frz 3 (Ty.int IntKind.i64))), (1, .one (.v)), (7, .one (.v)), (8, .one (.v))])]
def F174_145_1002 (k : Nat) (rec1002 : List Int → Int → Int → Option (Int)) (s : List Int) (t7 : Int) (t8 : Int) : Option (Int) :=
  bif decide (t8 < t7) then
    bif boundA t8 (List.length s) then
      (f145 k (List.getD s (Int.toNat t8) 0)).bind fun r0 =>
      bif r0 then
        some t8
      else
        rec1002 s t7 (IntKind.wrap IntKind.i64 (t8 + 1))
    else
      none
  else
    some (-1)
def F174_145 (k : Nat) (rec1002 : List Int → Int → Int → Option (Int)) (s : List (Int)) : Option (Int) :=
  rec1002 s ((↑(List.length s) : Int)) (0)
def l174_145 : Nat → (List Int → Int → Int → Option (Int))
  | 0 => fun _ _ _ => none
  | k + 1 => F174_145_1002 k (l174_145 k)
def f174_145 (k : Nat) (s : List (Int)) : Option (Int) := F174_145 k (l174_145 k) s
def s174 : Spec := ⟨false, [(.int .i64, false)], true, .int .i64, fun k xs => match xs with | [.slc 3 (.int .i64) s, .fn 145] => f174_145 k s | _ => none⟩
def env29 : List (FuncId × Spec) := (174, s174) :: env28
noncomputable abbrev x174_145 := exec ti (envOf env28) 19 h174_145 (finT ti true Go.Proofs.Try.f174.results.toList [(.int .i64, false)] (.int .i64))
noncomputable def k174_145_1002 : List It := stackAt [.r, .l, .r, .b, .lb none] (bodyOf Go.Proofs.Try.f174) []
def t174_145_1002 (s : List Int) (t7 : Int) (t8 : Int) : St := [(0, Cell.val (AVal.slc 3 (Ty.int IntKind.i64) s)), (2, Cell.val (AVal.fn 145)), (14, Cell.val (AVal.int IntKind.i64 t7)), (16, Cell.val (AVal.int IntKind.i64 t8))]
theorem e174_145_1002 (k : Nat) (s : List Int) (t7 : Int) (t8 : Int) : x174_145 (k + 1) k174_145_1002 (t174_145_1002 s t7 t8) = F174_145_1002 k (fun (s : List Int) (t7 : Int) (t8 : Int) => x174_145 k k174_145_1002 (t174_145_1002 s t7 t8)) s t7 t8 := by kernel_rfl
theorem q174_145 : ∀ k : Nat, (fun (s : List Int) (t7 : Int) (t8 : Int) => x174_145 k k174_145_1002 (t174_145_1002 s t7 t8)) = l174_145 k
  | 0 => rfl
  | k + 1 => by
    have h := q174_145 k
    show _ = F174_145_1002 k (l174_145 k)
    rw [← h]
    exact (funext fun s => funext fun t7 => funext fun t8 => e174_145_1002 k s t7 t8)
theorem w174_145 (k : Nat) (s : List (Int)) : runFn ti (envOf env28) 19 h174_145 (finT ti true Go.Proofs.Try.f174.results.toList [(.int .i64, false)] (.int .i64)) k (bodyOf Go.Proofs.Try.f174) (initS 0 [.slc 3 (.int .i64) s, .fn 145]) = F174_145 k (fun (s : List Int) (t7 : Int) (t8 : Int) => x174_145 k k174_145_1002 (t174_145_1002 s t7 t8)) s := by kernel_rfl
theorem v174_145 (k : Nat) (s : List (Int)) : runFn ti (envOf env28) 19 h174_145 (finT ti true Go.Proofs.Try.f174.results.toList [(.int .i64, false)] (.int .i64)) k (bodyOf Go.Proofs.Try.f174) (initS 0 [.slc 3 (.int .i64) s, .fn 145]) = f174_145 k s := by
  rw [w174_145]
  have h := q174_145 k
  unfold f174_145
  rw [← h]
theorem m174 : Meets Go.Proofs.Try.prog 174 s174 := meets_of_run tiOk env28_ok mo Go.Proofs.Try.func174 (body := bodyOf Go.Proofs.Try.f174) (by kernel_rfl) (N := 19) (by kernel_rfl) (hs := h174_145) (by
  intro k xs r h
  unfold s174 at h
  dsimp only at h
  split at h
  · exact ⟨Nat.le_of_ble_eq_true rfl, (v174_145 k _).trans h⟩
  · cases h)
theorem env29_ok : EnvOk Go.Proofs.Try.prog (envOf env29) := envOf_cons m174 Go.Proofs.Try.func174 (by kernel_rfl) (by kernel_rfl) env28_ok

-- slices.ContainsFunc[[]int,int]
def f144_145 (k : Nat) (s : List (Int)) : Option (Bool) :=
  (f174_145 k s).bind fun r0 =>
  some (decide (0 ≤ r0))
def s144 : Spec := ⟨false, [(.bool, false)], true, .bool, fun k xs => match xs with | [.slc 3 (.int .i64) s, .fn 145] => f144_145 k s | _ => none⟩
def env30 : List (FuncId × Spec) := (144, s144) :: env29
theorem v144_145 (k : Nat) (s : List (Int)) : runFn ti (envOf env29) 9 [] (finT ti true Go.Proofs.Try.f144.results.toList [(.bool, false)] (.bool)) k (bodyOf Go.Proofs.Try.f144) (initS 0 [.slc 3 (.int .i64) s, .fn 145]) = f144_145 k s := by kernel_rfl
theorem m144 : Meets Go.Proofs.Try.prog 144 s144 := meets_of_run tiOk env29_ok mo Go.Proofs.Try.func144 (body := bodyOf Go.Proofs.Try.f144) (by kernel_rfl) (N := 9) (by kernel_rfl) (hs := []) (by
  intro k xs r h
  unfold s144 at h
  dsimp only at h
  split at h
  · exact ⟨Nat.le_of_ble_eq_true rfl, (v144_145 k _).trans h⟩
  · cases h)
theorem env30_ok : EnvOk Go.Proofs.Try.prog (envOf env30) := envOf_cons m144 Go.Proofs.Try.func144 (by kernel_rfl) (by kernel_rfl) env29_ok

-- impl.isSmall
def f109 (k : Nat) (p : List (Int)) : Option (Bool) :=
  (f143 k p).bind fun r0 =>
  bif r0 then
    (f74 k (↑(List.length p) : Int) 1 6).bind fun r1 =>
    bif r1 then
      (f144_145 k p).bind fun r2 =>
      some (!r2)
    else
      some false
  else
    some false
def s109 : Spec := ⟨false, [(.bool, false)], true, .bool, fun k xs => match xs with | [.slc 3 (.int .i64) p] => f109 k p | _ => none⟩
def env31 : List (FuncId × Spec) := (109, s109) :: env30
theorem v109 (k : Nat) (p : List (Int)) : runFn ti (envOf env30) 15 [] (finT ti true Go.Proofs.Try.f109.results.toList [(.bool, false)] (.bool)) k (bodyOf Go.Proofs.Try.f109) (initS 0 [.slc 3 (.int .i64) p]) = f109 k p := by kernel_rfl
theorem m109 : Meets Go.Proofs.Try.prog 109 s109 := meets_of_run tiOk env30_ok mo Go.Proofs.Try.func109 (body := bodyOf Go.Proofs.Try.f109) (by kernel_rfl) (N := 15) (by kernel_rfl) (hs := []) (by
  intro k xs r h
  unfold s109 at h
  dsimp only at h
  split at h
  · exact ⟨Nat.le_of_ble_eq_true rfl, (v109 k _).trans h⟩
  · cases h)
theorem env31_ok : EnvOk Go.Proofs.Try.prog (envOf env31) := envOf_cons m109 Go.Proofs.Try.func109 (by kernel_rfl) (by kernel_rfl) env30_ok

-- impl.isFamily
def f66 (k : Nat) (p : List (Int)) (q : List (Int)) (fine : Int) : Option (Bool) :=
  (f109 k p).bind fun r0 =>
  bif r0 then
    (f109 k q).bind fun r1 =>
    bif r1 then
      (f74 k fine 0 4).bind fun r2 =>
      some r2
    else
      some false
  else
    some false
def s66 : Spec := ⟨false, [(.bool, false)], true, .bool, fun k xs => match xs with | [.slc 3 (.int .i64) p, .slc 3 (.int .i64) q, .int .i64 fine] => f66 k p q fine | _ => none⟩
def env32 : List (FuncId × Spec) := (66, s66) :: env31
theorem v66 (k : Nat) (p : List (Int)) (q : List (Int)) (fine : Int) : runFn ti (envOf env31) 17 [] (finT ti true Go.Proofs.Try.f66.results.toList [(.bool, false)] (.bool)) k (bodyOf Go.Proofs.Try.f66) (initS 0 [.slc 3 (.int .i64) p, .slc 3 (.int .i64) q, .int .i64 fine]) = f66 k p q fine := by kernel_rfl
theorem m66 : Meets Go.Proofs.Try.prog 66 s66 := meets_of_run tiOk env31_ok mo Go.Proofs.Try.func66 (body := bodyOf Go.Proofs.Try.f66) (by kernel_rfl) (N := 17) (by kernel_rfl) (hs := []) (by
  intro k xs r h
  unfold s66 at h
  dsimp only at h
  split at h
  · exact ⟨Nat.le_of_ble_eq_true rfl, (v66 k _ _ _).trans h⟩
  · cases h)
theorem env32_ok : EnvOk Go.Proofs.Try.prog (envOf env32) := envOf_cons m66 Go.Proofs.Try.func66 (by kernel_rfl) (by kernel_rfl) env31_ok

-- impl.isMoment
def f67 (k : Nat) (i : Int) (fine : Int) : Option (Bool) :=
  bif !decide (fine < 0) then
    (f74 k i 0 (IntKind.wrap IntKind.i64 (1 * 2 ^ min (Int.toNat fine) (IntKind.bits IntKind.i64)))).bind fun r0 =>
    some r0
  else
    none
def s67 : Spec := ⟨false, [(.bool, false)], true, .bool, fun k xs => match xs with | [.int .i64 i, .int .i64 fine] => f67 k i fine | _ => none⟩
def env33 : List (FuncId × Spec) := (67, s67) :: env32
theorem v67 (k : Nat) (i : Int) (fine : Int) : runFn ti (envOf env32) 9 [] (finT ti true Go.Proofs.Try.f67.results.toList [(.bool, false)] (.bool)) k (bodyOf Go.Proofs.Try.f67) (initS 0 [.int .i64 i, .int .i64 fine]) = f67 k i fine := by kernel_rfl
theorem m67 : Meets Go.Proofs.Try.prog 67 s67 := meets_of_run tiOk env32_ok mo Go.Proofs.Try.func67 (body := bodyOf Go.Proofs.Try.f67) (by kernel_rfl) (N := 9) (by kernel_rfl) (hs := []) (by
  intro k xs r h
  unfold s67 at h
  dsimp only at h
  split at h
  · exact ⟨Nat.le_of_ble_eq_true rfl, (v67 k _ _).trans h⟩
  · cases h)
theorem env33_ok : EnvOk Go.Proofs.Try.prog (envOf env33) := envOf_cons m67 Go.Proofs.Try.func67 (by kernel_rfl) (by kernel_rfl) env32_ok

-- impl.isPlaces
def f151 (k : Nat) (places : Int) : Option (Bool) :=
  (f74 k places 0 24).bind fun r0 =>
  some r0
def s151 : Spec := ⟨false, [(.bool, false)], true, .bool, fun k xs => match xs with | [.int .i64 places] => f151 k places | _ => none⟩
def env34 : List (FuncId × Spec) := (151, s151) :: env33
theorem v151 (k : Nat) (places : Int) : runFn ti (envOf env33) 5 [] (finT ti true Go.Proofs.Try.f151.results.toList [(.bool, false)] (.bool)) k (bodyOf Go.Proofs.Try.f151) (initS 0 [.int .i64 places]) = f151 k places := by kernel_rfl
theorem m151 : Meets Go.Proofs.Try.prog 151 s151 := meets_of_run tiOk env33_ok mo Go.Proofs.Try.func151 (body := bodyOf Go.Proofs.Try.f151) (by kernel_rfl) (N := 5) (by kernel_rfl) (hs := []) (by
  intro k xs r h
  unfold s151 at h
  dsimp only at h
  split at h
  · exact ⟨Nat.le_of_ble_eq_true rfl, (v151 k _).trans h⟩
  · cases h)
theorem env34_ok : EnvOk Go.Proofs.Try.prog (envOf env34) := envOf_cons m151 Go.Proofs.Try.func151 (by kernel_rfl) (by kernel_rfl) env33_ok

-- impl.isDyadic
def f120 (k : Nat) (a_N : Int) (a_K : Int) : Option (Bool) :=
  (f151 k a_K).bind fun r0 =>
  bif r0 then
    (f74 k a_N (-1099511627776) 1099511627776).bind fun r1 =>
    bif r1 then
      bif decide (a_K = 0) then
        some true
      else
        some (!decide (Int.tmod a_N 2 = 0))
    else
      some false
  else
    some false
def s120 : Spec := ⟨false, [(.bool, false)], true, .bool, fun k xs => match xs with | [.agg [.int .i64 a_N, .int .i64 a_K]] => f120 k a_N a_K | _ => none⟩
def env35 : List (FuncId × Spec) := (120, s120) :: env34
theorem v120 (k : Nat) (a_N : Int) (a_K : Int) : runFn ti (envOf env34) 22 [] (finT ti true Go.Proofs.Try.f120.results.toList [(.bool, false)] (.bool)) k (bodyOf Go.Proofs.Try.f120) (initS 0 [.agg [.int .i64 a_N, .int .i64 a_K]]) = f120 k a_N a_K := by kernel_rfl
theorem m120 : Meets Go.Proofs.Try.prog 120 s120 := meets_of_run tiOk env34_ok mo Go.Proofs.Try.func120 (body := bodyOf Go.Proofs.Try.f120) (by kernel_rfl) (N := 22) (by kernel_rfl) (hs := []) (by
  intro k xs r h
  unfold s120 at h
  dsimp only at h
  split at h
  · exact ⟨Nat.le_of_ble_eq_true rfl, (v120 k _ _).trans h⟩
  · cases h)
theorem env35_ok : EnvOk Go.Proofs.Try.prog (envOf env35) := envOf_cons m120 Go.Proofs.Try.func120 (by kernel_rfl) (by kernel_rfl) env34_ok

-- impl.wide).isZero
def f192 (k : Nat) (w_negative : Bool) (w_high : Int) (w_low : Int) : Option (Bool) :=
  bif decide (w_high = 0) then
    some (decide (w_low = 0))
  else
    some false
def s192 : Spec := ⟨false, [(.bool, false)], true, .bool, fun k xs => match xs with | [.agg [.bool w_negative, .int .u64 w_high, .int .u64 w_low]] => f192 k w_negative w_high w_low | _ => none⟩
def env36 : List (FuncId × Spec) := (192, s192) :: env35
theorem v192 (k : Nat) (w_negative : Bool) (w_high : Int) (w_low : Int) : runFn ti (envOf env35) 11 [] (finT ti true Go.Proofs.Try.f192.results.toList [(.bool, false)] (.bool)) k (bodyOf Go.Proofs.Try.f192) (initS 0 [.agg [.bool w_negative, .int .u64 w_high, .int .u64 w_low]]) = f192 k w_negative w_high w_low := by kernel_rfl
theorem m192 : Meets Go.Proofs.Try.prog 192 s192 := meets_of_run tiOk env35_ok mo Go.Proofs.Try.func192 (body := bodyOf Go.Proofs.Try.f192) (by kernel_rfl) (N := 11) (by kernel_rfl) (hs := []) (by
  intro k xs r h
  unfold s192 at h
  dsimp only at h
  split at h
  · exact ⟨Nat.le_of_ble_eq_true rfl, (v192 k _ _ _).trans h⟩
  · cases h)
theorem env36_ok : EnvOk Go.Proofs.Try.prog (envOf env36) := envOf_cons m192 Go.Proofs.Try.func192 (by kernel_rfl) (by kernel_rfl) env35_ok

end Go.Proofs.YtnndolcjljhhcaaE
