/- Functions, by the engine; printed. -/
import Derived.Test.YtbaeikcfchiiaaaST4
set_option maxRecDepth 100000
set_option maxHeartbeats 4000000
set_option linter.unusedVariables false
namespace Go.Proofs.YtbaeikcfchiiaaaE
-- cmp.isNaN[uint64]
def f287 (k : Nat) (x : Int) : Option (Bool) :=
  some (!decide (x = x))
def s287 : Spec := ⟨false, [(.bool, false)], true, .bool, fun k xs => match xs with | [.int .u64 x] => f287 k x | _ => none⟩
def env49 : List (FuncId × Spec) := (287, s287) :: env48
theorem v287 (k : Nat) (x : Int) : runFn ti (envOf env48) 6 [] (finT ti true Go.Proofs.Try.f287.results.toList [(.bool, false)] (.bool)) k (bodyOf Go.Proofs.Try.f287) (initS 0 [.int .u64 x]) = f287 k x := by kernel_rfl
theorem m287 : Meets Go.Proofs.Try.prog 287 s287 := meets_of_run tiOk env48_ok mo Go.Proofs.Try.func287 (body := bodyOf Go.Proofs.Try.f287) (by kernel_rfl) (N := 6) (by kernel_rfl) (hs := []) (by
  intro k xs r h
  unfold s287 at h
  dsimp only at h
  split at h
  · exact ⟨Nat.le_of_ble_eq_true rfl, (v287 k _).trans h⟩
  · cases h)
theorem env49_ok : EnvOk Go.Proofs.Try.prog (envOf env49) := envOf_cons m287 Go.Proofs.Try.func287 (by kernel_rfl) (by kernel_rfl) env48_ok

-- cmp.Compare[uint64]
def f276 (k : Nat) (x : Int) (y : Int) : Option (Int) :=
  bif !decide (x = x) then
    bif !decide (y = y) then
      some (0)
    else
      some (-1)
  else
    bif !decide (y = y) then
      some (1)
    else
      bif decide (x < y) then
        some (-1)
      else
        bif decide (y < x) then
          some (1)
        else
          some (0)
def s276 : Spec := ⟨false, [(.int .i64, false)], true, .int .i64, fun k xs => match xs with | [.int .u64 x, .int .u64 y] => f276 k x y | _ => none⟩
def env50 : List (FuncId × Spec) := (276, s276) :: env49
theorem v276 (k : Nat) (x : Int) (y : Int) : runFn ti (envOf env49) 20 [] (finT ti true Go.Proofs.Try.f276.results.toList [(.int .i64, false)] (.int .i64)) k (bodyOf Go.Proofs.Try.f276) (initS 0 [.int .u64 x, .int .u64 y]) = f276 k x y := by kernel_rfl
theorem m276 : Meets Go.Proofs.Try.prog 276 s276 := meets_of_run tiOk env49_ok mo Go.Proofs.Try.func276 (body := bodyOf Go.Proofs.Try.f276) (by kernel_rfl) (N := 20) (by kernel_rfl) (hs := []) (by
  intro k xs r h
  unfold s276 at h
  dsimp only at h
  split at h
  · exact ⟨Nat.le_of_ble_eq_true rfl, (v276 k _ _).trans h⟩
  · cases h)
theorem env50_ok : EnvOk Go.Proofs.Try.prog (envOf env50) := envOf_cons m276 Go.Proofs.Try.func276 (by kernel_rfl) (by kernel_rfl) env49_ok

-- impl.compareSizes
def f246 (k : Nat) (a_negative : Bool) (a_high : Int) (a_low : Int) (b_negative : Bool) (b_high : Int) (b_low : Int) : Option (Int) :=
  (f276 k a_high b_high).bind fun r0 =>
  (f276 k a_low b_low).bind fun r1 =>
  (f275 k [r0, r1]).bind fun r2 =>
  some r2
def s246 : Spec := ⟨false, [(.int .i64, false)], true, .int .i64, fun k xs => match xs with | [.agg [.bool a_negative, .int .u64 a_high, .int .u64 a_low], .agg [.bool b_negative, .int .u64 b_high, .int .u64 b_low]] => f246 k a_negative a_high a_low b_negative b_high b_low | _ => none⟩
def env51 : List (FuncId × Spec) := (246, s246) :: env50
theorem v246 (k : Nat) (a_negative : Bool) (a_high : Int) (a_low : Int) (b_negative : Bool) (b_high : Int) (b_low : Int) : runFn ti (envOf env50) 17 [] (finT ti true Go.Proofs.Try.f246.results.toList [(.int .i64, false)] (.int .i64)) k (bodyOf Go.Proofs.Try.f246) (initS 0 [.agg [.bool a_negative, .int .u64 a_high, .int .u64 a_low], .agg [.bool b_negative, .int .u64 b_high, .int .u64 b_low]]) = f246 k a_negative a_high a_low b_negative b_high b_low := by kernel_rfl
theorem m246 : Meets Go.Proofs.Try.prog 246 s246 := meets_of_run tiOk env50_ok mo Go.Proofs.Try.func246 (body := bodyOf Go.Proofs.Try.f246) (by kernel_rfl) (N := 17) (by kernel_rfl) (hs := []) (by
  intro k xs r h
  unfold s246 at h
  dsimp only at h
  split at h
  · exact ⟨Nat.le_of_ble_eq_true rfl, (v246 k _ _ _ _ _ _).trans h⟩
  · cases h)
theorem env51_ok : EnvOk Go.Proofs.Try.prog (envOf env51) := envOf_cons m246 Go.Proofs.Try.func246 (by kernel_rfl) (by kernel_rfl) env50_ok

-- impl.compareWide
def f240 (k : Nat) (a_negative : Bool) (a_high : Int) (a_low : Int) (b_negative : Bool) (b_high : Int) (b_low : Int) : Option (Int) :=
  (f235 k a_negative a_high a_low).bind fun r0 =>
  bif r0 then
    (f235 k b_negative b_high b_low).bind fun r1 =>
    bif r1 then
      some (0)
    else
      bif !a_negative == b_negative then
        bif a_negative then
          some (-1)
        else
          some (1)
      else
        bif a_negative then
          (f246 k b_negative b_high b_low a_negative a_high a_low).bind fun r2 =>
          some r2
        else
          (f246 k a_negative a_high a_low b_negative b_high b_low).bind fun r3 =>
          some r3
  else
    bif !a_negative == b_negative then
      bif a_negative then
        some (-1)
      else
        some (1)
    else
      bif a_negative then
        (f246 k b_negative b_high b_low a_negative a_high a_low).bind fun r4 =>
        some r4
      else
        (f246 k a_negative a_high a_low b_negative b_high b_low).bind fun r5 =>
        some r5
def s240 : Spec := ⟨false, [(.int .i64, false)], true, .int .i64, fun k xs => match xs with | [.agg [.bool a_negative, .int .u64 a_high, .int .u64 a_low], .agg [.bool b_negative, .int .u64 b_high, .int .u64 b_low]] => f240 k a_negative a_high a_low b_negative b_high b_low | _ => none⟩
def env52 : List (FuncId × Spec) := (240, s240) :: env51
theorem v240 (k : Nat) (a_negative : Bool) (a_high : Int) (a_low : Int) (b_negative : Bool) (b_high : Int) (b_low : Int) : runFn ti (envOf env51) 29 [] (finT ti true Go.Proofs.Try.f240.results.toList [(.int .i64, false)] (.int .i64)) k (bodyOf Go.Proofs.Try.f240) (initS 0 [.agg [.bool a_negative, .int .u64 a_high, .int .u64 a_low], .agg [.bool b_negative, .int .u64 b_high, .int .u64 b_low]]) = f240 k a_negative a_high a_low b_negative b_high b_low := by kernel_rfl
theorem m240 : Meets Go.Proofs.Try.prog 240 s240 := meets_of_run tiOk env51_ok mo Go.Proofs.Try.func240 (body := bodyOf Go.Proofs.Try.f240) (by kernel_rfl) (N := 29) (by kernel_rfl) (hs := []) (by
  intro k xs r h
  unfold s240 at h
  dsimp only at h
  split at h
  · exact ⟨Nat.le_of_ble_eq_true rfl, (v240 k _ _ _ _ _ _).trans h⟩
  · cases h)
theorem env52_ok : EnvOk Go.Proofs.Try.prog (envOf env52) := envOf_cons m240 Go.Proofs.Try.func240 (by kernel_rfl) (by kernel_rfl) env51_ok

-- impl.compareD
def f191 (k : Nat) (a_N : Int) (a_K : Int) (b_N : Int) (b_K : Int) : Option (Int) :=
  (f173 k a_N).bind fun r0 =>
  (f196 k r0.fst r0.snd.fst r0.snd.snd (IntKind.wrap IntKind.i64 ((bif decide (a_K < b_K) then b_K else a_K) - a_K))).bind fun r1 =>
  (f173 k b_N).bind fun r2 =>
  (f196 k r2.fst r2.snd.fst r2.snd.snd (IntKind.wrap IntKind.i64 ((bif decide (a_K < b_K) then b_K else a_K) - b_K))).bind fun r3 =>
  (f240 k r1.fst r1.snd.fst r1.snd.snd r3.fst r3.snd.fst r3.snd.snd).bind fun r4 =>
  some r4
def s191 : Spec := ⟨false, [(.int .i64, false)], true, .int .i64, fun k xs => match xs with | [.agg [.int .i64 a_N, .int .i64 a_K], .agg [.int .i64 b_N, .int .i64 b_K]] => f191 k a_N a_K b_N b_K | _ => none⟩
def env53 : List (FuncId × Spec) := (191, s191) :: env52
theorem v191 (k : Nat) (a_N : Int) (a_K : Int) (b_N : Int) (b_K : Int) : runFn ti (envOf env52) 28 [] (finT ti true Go.Proofs.Try.f191.results.toList [(.int .i64, false)] (.int .i64)) k (bodyOf Go.Proofs.Try.f191) (initS 0 [.agg [.int .i64 a_N, .int .i64 a_K], .agg [.int .i64 b_N, .int .i64 b_K]]) = f191 k a_N a_K b_N b_K := by kernel_rfl
theorem m191 : Meets Go.Proofs.Try.prog 191 s191 := meets_of_run tiOk env52_ok mo Go.Proofs.Try.func191 (body := bodyOf Go.Proofs.Try.f191) (by kernel_rfl) (N := 28) (by kernel_rfl) (hs := []) (by
  intro k xs r h
  unfold s191 at h
  dsimp only at h
  split at h
  · exact ⟨Nat.le_of_ble_eq_true rfl, (v191 k _ _ _ _).trans h⟩
  · cases h)
theorem env53_ok : EnvOk Go.Proofs.Try.prog (envOf env53) := envOf_cons m191 Go.Proofs.Try.func191 (by kernel_rfl) (by kernel_rfl) env52_ok

-- impl.isInterval
def f129 (k : Nat) (i_Low_N : Int) (i_Low_K : Int) (i_High_N : Int) (i_High_K : Int) : Option (Bool) :=
  (f190 k i_Low_N i_Low_K).bind fun r0 =>
  bif r0 then
    (f190 k i_High_N i_High_K).bind fun r1 =>
    bif r1 then
      (f191 k i_Low_N i_Low_K i_High_N i_High_K).bind fun r2 =>
      some (decide (r2 ≤ 0))
    else
      some false
  else
    some false
def s129 : Spec := ⟨false, [(.bool, false)], true, .bool, fun k xs => match xs with | [.agg [.int .i64 i_Low_N, .int .i64 i_Low_K, .int .i64 i_High_N, .int .i64 i_High_K]] => f129 k i_Low_N i_Low_K i_High_N i_High_K | _ => none⟩
def env54 : List (FuncId × Spec) := (129, s129) :: env53
theorem v129 (k : Nat) (i_Low_N : Int) (i_Low_K : Int) (i_High_N : Int) (i_High_K : Int) : runFn ti (envOf env53) 19 [] (finT ti true Go.Proofs.Try.f129.results.toList [(.bool, false)] (.bool)) k (bodyOf Go.Proofs.Try.f129) (initS 0 [.agg [.int .i64 i_Low_N, .int .i64 i_Low_K, .int .i64 i_High_N, .int .i64 i_High_K]]) = f129 k i_Low_N i_Low_K i_High_N i_High_K := by kernel_rfl
theorem m129 : Meets Go.Proofs.Try.prog 129 s129 := meets_of_run tiOk env53_ok mo Go.Proofs.Try.func129 (body := bodyOf Go.Proofs.Try.f129) (by kernel_rfl) (N := 19) (by kernel_rfl) (hs := []) (by
  intro k xs r h
  unfold s129 at h
  dsimp only at h
  split at h
  · exact ⟨Nat.le_of_ble_eq_true rfl, (v129 k _ _ _ _).trans h⟩
  · cases h)
theorem env54_ok : EnvOk Go.Proofs.Try.prog (envOf env54) := envOf_cons m129 Go.Proofs.Try.func129 (by kernel_rfl) (by kernel_rfl) env53_ok

-- impl.integer
def f178 (k : Nat) (n : Int) : Option (Int × Int) :=
  some ((n, 0))
def s178 : Spec := ⟨false, [(.pair (.int .i64) (.int .i64), true)], true, .pair (.int .i64) (.int .i64), fun k xs => match xs with | [.int .i64 n] => f178 k n | _ => none⟩
def env55 : List (FuncId × Spec) := (178, s178) :: env54
theorem v178 (k : Nat) (n : Int) : runFn ti (envOf env54) 5 [] (finT ti true Go.Proofs.Try.f178.results.toList [(.pair (.int .i64) (.int .i64), true)] (.pair (.int .i64) (.int .i64))) k (bodyOf Go.Proofs.Try.f178) (initS 0 [.int .i64 n]) = f178 k n := by kernel_rfl
theorem m178 : Meets Go.Proofs.Try.prog 178 s178 := meets_of_run tiOk env54_ok mo Go.Proofs.Try.func178 (body := bodyOf Go.Proofs.Try.f178) (by kernel_rfl) (N := 5) (by kernel_rfl) (hs := []) (by
  intro k xs r h
  unfold s178 at h
  dsimp only at h
  split at h
  · exact ⟨Nat.le_of_ble_eq_true rfl, (v178 k _).trans h⟩
  · cases h)
theorem env55_ok : EnvOk Go.Proofs.Try.prog (envOf env55) := envOf_cons m178 Go.Proofs.Try.func178 (by kernel_rfl) (by kernel_rfl) env54_ok

-- impl.inRange
def f130 (k : Nat) (a_N : Int) (a_K : Int) : Option (Bool) :=
  (f191 k (-8) 0 a_N a_K).bind fun r0 =>
  bif decide (r0 ≤ 0) then
    (f191 k a_N a_K 8 0).bind fun r1 =>
    some (decide (r1 ≤ 0))
  else
    some false
def s130 : Spec := ⟨false, [(.bool, false)], true, .bool, fun k xs => match xs with | [.agg [.int .i64 a_N, .int .i64 a_K]] => f130 k a_N a_K | _ => none⟩
def env56 : List (FuncId × Spec) := (130, s130) :: env55
theorem v130 (k : Nat) (a_N : Int) (a_K : Int) : runFn ti (envOf env55) 13 [] (finT ti true Go.Proofs.Try.f130.results.toList [(.bool, false)] (.bool)) k (bodyOf Go.Proofs.Try.f130) (initS 0 [.agg [.int .i64 a_N, .int .i64 a_K]]) = f130 k a_N a_K := by kernel_rfl
theorem m130 : Meets Go.Proofs.Try.prog 130 s130 := meets_of_run tiOk env55_ok mo Go.Proofs.Try.func130 (body := bodyOf Go.Proofs.Try.f130) (by kernel_rfl) (N := 13) (by kernel_rfl) (hs := []) (by
  intro k xs r h
  unfold s130 at h
  dsimp only at h
  split at h
  · exact ⟨Nat.le_of_ble_eq_true rfl, (v130 k _ _).trans h⟩
  · cases h)
theorem env56_ok : EnvOk Go.Proofs.Try.prog (envOf env56) := envOf_cons m130 Go.Proofs.Try.func130 (by kernel_rfl) (by kernel_rfl) env55_ok

-- impl.isFit
def f74 (k : Nat) (i_Low_N : Int) (i_Low_K : Int) (i_High_N : Int) (i_High_K : Int) : Option (Bool) :=
  (f129 k i_Low_N i_Low_K i_High_N i_High_K).bind fun r0 =>
  bif r0 then
    (f130 k i_Low_N i_Low_K).bind fun r1 =>
    bif r1 then
      (f130 k i_High_N i_High_K).bind fun r2 =>
      bif r2 then
        bif decide (i_Low_K ≤ 5) then
          bif decide (i_High_K ≤ 5) then
            some (!(decide (i_Low_N = i_High_N) && (decide (i_Low_K = i_High_K) && true)))
          else
            some false
        else
          some false
      else
        some false
    else
      some false
  else
    some false
def s74 : Spec := ⟨false, [(.bool, false)], true, .bool, fun k xs => match xs with | [.agg [.int .i64 i_Low_N, .int .i64 i_Low_K, .int .i64 i_High_N, .int .i64 i_High_K]] => f74 k i_Low_N i_Low_K i_High_N i_High_K | _ => none⟩
def env57 : List (FuncId × Spec) := (74, s74) :: env56
theorem v74 (k : Nat) (i_Low_N : Int) (i_Low_K : Int) (i_High_N : Int) (i_High_K : Int) : runFn ti (envOf env56) 34 [] (finT ti true Go.Proofs.Try.f74.results.toList [(.bool, false)] (.bool)) k (bodyOf Go.Proofs.Try.f74) (initS 0 [.agg [.int .i64 i_Low_N, .int .i64 i_Low_K, .int .i64 i_High_N, .int .i64 i_High_K]]) = f74 k i_Low_N i_Low_K i_High_N i_High_K := by kernel_rfl
theorem m74 : Meets Go.Proofs.Try.prog 74 s74 := meets_of_run tiOk env56_ok mo Go.Proofs.Try.func74 (body := bodyOf Go.Proofs.Try.f74) (by kernel_rfl) (N := 34) (by kernel_rfl) (hs := []) (by
  intro k xs r h
  unfold s74 at h
  dsimp only at h
  split at h
  · exact ⟨Nat.le_of_ble_eq_true rfl, (v74 k _ _ _ _).trans h⟩
  · cases h)
theorem env57_ok : EnvOk Go.Proofs.Try.prog (envOf env57) := envOf_cons m74 Go.Proofs.Try.func74 (by kernel_rfl) (by kernel_rfl) env56_ok

-- impl.isMoment
def f75 (k : Nat) (i : Int) (fine : Int) : Option (Bool) :=
  bif !decide (fine < 0) then
    (f128 k i 0 (IntKind.wrap IntKind.i64 (1 * 2 ^ min (Int.toNat fine) (IntKind.bits IntKind.i64)))).bind fun r0 =>
    some r0
  else
    none
def s75 : Spec := ⟨false, [(.bool, false)], true, .bool, fun k xs => match xs with | [.int .i64 i, .int .i64 fine] => f75 k i fine | _ => none⟩
def env58 : List (FuncId × Spec) := (75, s75) :: env57
theorem v75 (k : Nat) (i : Int) (fine : Int) : runFn ti (envOf env57) 9 [] (finT ti true Go.Proofs.Try.f75.results.toList [(.bool, false)] (.bool)) k (bodyOf Go.Proofs.Try.f75) (initS 0 [.int .i64 i, .int .i64 fine]) = f75 k i fine := by kernel_rfl
theorem m75 : Meets Go.Proofs.Try.prog 75 s75 := meets_of_run tiOk env57_ok mo Go.Proofs.Try.func75 (body := bodyOf Go.Proofs.Try.f75) (by kernel_rfl) (N := 9) (by kernel_rfl) (hs := []) (by
  intro k xs r h
  unfold s75 at h
  dsimp only at h
  split at h
  · exact ⟨Nat.le_of_ble_eq_true rfl, (v75 k _ _).trans h⟩
  · cases h)
theorem env58_ok : EnvOk Go.Proofs.Try.prog (envOf env58) := envOf_cons m75 Go.Proofs.Try.func75 (by kernel_rfl) (by kernel_rfl) env57_ok

-- slices.Clone[[]int,int]
def f232 (k : Nat) (s : List (Int)) : Option (List (Int)) :=
  bif decide ((0 + List.length s) * 8 ≤ 140737488355328) then
    some s
  else
    none
def s232 : Spec := ⟨false, [(.slice 3 (.int .i64), false)], true, .slice 3 (.int .i64), fun k xs => match xs with | [.slc 3 (.int .i64) s] => f232 k s | _ => none⟩
def env59 : List (FuncId × Spec) := (232, s232) :: env58
theorem m232 : Meets Go.Proofs.Try.prog 232 s232 := meets_clone (N := 8) tiOk env58_ok mo Go.Proofs.Try.func232 rfl rfl rfl rfl rfl rfl rfl rfl rfl rfl Go.Proofs.Try.underlying22 rfl (Nat.le_of_ble_eq_true rfl) (by
  intro k xs r h
  unfold s232 at h
  dsimp only at h
  split at h
  · rename_i s
    refine ⟨3, (.int .i64), s, rfl, fun hx => ?_, ?_⟩
    · subst hx
      refine Eq.trans ?_ h
      kernel_rfl
    · refine Eq.trans ?_ h
      kernel_rfl
  · cases h)
theorem env59_ok : EnvOk Go.Proofs.Try.prog (envOf env59) := envOf_cons m232 Go.Proofs.Try.func232 (by kernel_rfl) (by kernel_rfl) env58_ok

-- impl.stripped
def h198 : Hints := [(1001, .lab [(0, .one (.frz 3 (Ty.int IntKind.i64)))])]
def F198_1001 (k : Nat) (rec1001 : List Int → Option (List (Int))) (p : List Int) : Option (List (Int)) :=
  bif decide (0 < (↑(List.length p) : Int)) then
    bif boundA (IntKind.wrap IntKind.i64 ((↑(List.length p) : Int) - 1)) (List.length p) then
      bif decide (List.getD p (Int.toNat (IntKind.wrap IntKind.i64 ((↑(List.length p) : Int) - 1))) 0 = 0) then
        bif boundE (IntKind.wrap IntKind.i64 ((↑(List.length p) : Int) - 1)) (List.length p) then
          bif decide (0 ≤ 0) && decide (0 ≤ IntKind.wrap IntKind.i64 ((↑(List.length p) : Int) - 1)) then
            rec1001 (List.drop (Int.toNat 0) (List.take (Int.toNat (IntKind.wrap IntKind.i64 ((↑(List.length p) : Int) - 1))) p))
          else
            none
        else
          none
      else
        (f232 k p).bind fun r0 =>
        some r0
    else
      none
  else
    (f232 k p).bind fun r1 =>
    some r1
def F198 (k : Nat) (rec1001 : List Int → Option (List (Int))) (p : List (Int)) : Option (List (Int)) :=
  rec1001 p
def l198 : Nat → (List Int → Option (List (Int)))
  | 0 => fun _ => none
  | k + 1 => F198_1001 k (l198 k)
def f198 (k : Nat) (p : List (Int)) : Option (List (Int)) := F198 k (l198 k) p
def s198 : Spec := ⟨false, [(.slice 3 (.int .i64), false)], true, .slice 3 (.int .i64), fun k xs => match xs with | [.slc 3 (.int .i64) p] => f198 k p | _ => none⟩
def env60 : List (FuncId × Spec) := (198, s198) :: env59
noncomputable abbrev x198 := exec ti (envOf env59) 22 h198 (finT ti true Go.Proofs.Try.f198.results.toList [(.slice 3 (.int .i64), false)] (.slice 3 (.int .i64)))
noncomputable def k198_1001 : List It := stackAt [.r, .l, .b, .lb none] (bodyOf Go.Proofs.Try.f198) []
def t198_1001 (p : List Int) : St := [(0, Cell.val (AVal.slc 3 (Ty.int IntKind.i64) p))]
theorem e198_1001 (k : Nat) (p : List Int) : x198 (k + 1) k198_1001 (t198_1001 p) = F198_1001 k (fun (p : List Int) => x198 k k198_1001 (t198_1001 p)) p := by kernel_rfl
theorem q198 : ∀ k : Nat, (fun (p : List Int) => x198 k k198_1001 (t198_1001 p)) = l198 k
  | 0 => rfl
  | k + 1 => by
    have h := q198 k
    show _ = F198_1001 k (l198 k)
    rw [← h]
    exact (funext fun p => e198_1001 k p)
theorem w198 (k : Nat) (p : List (Int)) : runFn ti (envOf env59) 22 h198 (finT ti true Go.Proofs.Try.f198.results.toList [(.slice 3 (.int .i64), false)] (.slice 3 (.int .i64))) k (bodyOf Go.Proofs.Try.f198) (initS 0 [.slc 3 (.int .i64) p]) = F198 k (fun (p : List Int) => x198 k k198_1001 (t198_1001 p)) p := by kernel_rfl
theorem v198 (k : Nat) (p : List (Int)) : runFn ti (envOf env59) 22 h198 (finT ti true Go.Proofs.Try.f198.results.toList [(.slice 3 (.int .i64), false)] (.slice 3 (.int .i64))) k (bodyOf Go.Proofs.Try.f198) (initS 0 [.slc 3 (.int .i64) p]) = f198 k p := by
  rw [w198]
  have h := q198 k
  unfold f198
  rw [← h]
theorem m198 : Meets Go.Proofs.Try.prog 198 s198 := meets_of_run tiOk env59_ok mo Go.Proofs.Try.func198 (body := bodyOf Go.Proofs.Try.f198) (by kernel_rfl) (N := 22) (by kernel_rfl) (hs := h198) (by
  intro k xs r h
  unfold s198 at h
  dsimp only at h
  split at h
  · exact ⟨Nat.le_of_ble_eq_true rfl, (v198 k _).trans h⟩
  · cases h)
theorem env60_ok : EnvOk Go.Proofs.Try.prog (envOf env60) := envOf_cons m198 Go.Proofs.Try.func198 (by kernel_rfl) (by kernel_rfl) env59_ok

end Go.Proofs.YtbaeikcfchiiaaaE
