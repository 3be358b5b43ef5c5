/- Functions, by the engine; printed. -/
import Derived.Test.YtbaeikcfchiiaaaNF3
set_option maxRecDepth 100000
set_option maxHeartbeats 4000000
set_option linter.unusedVariables false
namespace Go.Proofs.YtbaeikcfchiiaaaE
-- impl.isPlaces
noncomputable def f239 (k : Nat) (places : Int) : Option (Bool) :=
  (f128 k places 0 24).bind fun r0 =>
  some r0
noncomputable def s239 : Spec := ⟨false, [(.bool, false)], true, .bool, fun k xs => match xs with | [.int .i64 places] => f239 k places | _ => none⟩
noncomputable def env37 : List (FuncId × Spec) := (239, s239) :: env36
theorem v239 (k : Nat) (places : Int) : runFn ti (envOf env36) 5 [] (finT ti true Go.Proofs.Try.f239.results.toList [(.bool, false)] (.bool)) k (bodyOf Go.Proofs.Try.f239) (initS 0 [.int .i64 places]) = f239 k places := by kernel_rfl
theorem m239 : Meets Go.Proofs.Try.prog 239 s239 := meets_of_run tiOk env36_ok mo Go.Proofs.Try.func239 (body := bodyOf Go.Proofs.Try.f239) (by kernel_rfl) (N := 5) (by kernel_rfl) (hs := []) (by
  intro k xs r h
  unfold s239 at h
  dsimp only at h
  split at h
  · exact ⟨Nat.le_of_ble_eq_true rfl, (v239 k _).trans h⟩
  · cases h)
theorem env37_ok : EnvOk Go.Proofs.Try.prog (envOf env37) := envOf_cons m239 Go.Proofs.Try.func239 (by kernel_rfl) (by kernel_rfl) env36_ok

-- impl.isDyadic
noncomputable def f190 (k : Nat) (a_N : Int) (a_K : Int) : Option (Bool) :=
  (f239 k a_K).bind fun r0 =>
  bif r0 then
    (f128 k a_N (-1099511627776) 1099511627776).bind fun r1 =>
    bif r1 then
      bif decide (a_K = 0) then
        some true
      else
        some (!decide (Int.tmod a_N 2 = 0))
    else
      some false
  else
    some false
noncomputable def s190 : Spec := ⟨false, [(.bool, false)], true, .bool, fun k xs => match xs with | [.agg [.int .i64 a_N, .int .i64 a_K]] => f190 k a_N a_K | _ => none⟩
noncomputable def env38 : List (FuncId × Spec) := (190, s190) :: env37
theorem v190 (k : Nat) (a_N : Int) (a_K : Int) : runFn ti (envOf env37) 22 [] (finT ti true Go.Proofs.Try.f190.results.toList [(.bool, false)] (.bool)) k (bodyOf Go.Proofs.Try.f190) (initS 0 [.agg [.int .i64 a_N, .int .i64 a_K]]) = f190 k a_N a_K := by kernel_rfl
theorem m190 : Meets Go.Proofs.Try.prog 190 s190 := meets_of_run tiOk env37_ok mo Go.Proofs.Try.func190 (body := bodyOf Go.Proofs.Try.f190) (by kernel_rfl) (N := 22) (by kernel_rfl) (hs := []) (by
  intro k xs r h
  unfold s190 at h
  dsimp only at h
  split at h
  · exact ⟨Nat.le_of_ble_eq_true rfl, (v190 k _ _).trans h⟩
  · cases h)
theorem env38_ok : EnvOk Go.Proofs.Try.prog (envOf env38) := envOf_cons m190 Go.Proofs.Try.func190 (by kernel_rfl) (by kernel_rfl) env37_ok

-- impl.size
noncomputable def f234 (k : Nat) (n : Int) : Option (Int) :=
  bif decide (n < 0) then
    some (IntKind.wrap IntKind.u64 (IntKind.wrap IntKind.i64 (0 - n)))
  else
    some (IntKind.wrap IntKind.u64 n)
noncomputable def s234 : Spec := ⟨false, [(.int .u64, false)], true, .int .u64, fun k xs => match xs with | [.int .i64 n] => f234 k n | _ => none⟩
noncomputable def env39 : List (FuncId × Spec) := (234, s234) :: env38
theorem v234 (k : Nat) (n : Int) : runFn ti (envOf env38) 10 [] (finT ti true Go.Proofs.Try.f234.results.toList [(.int .u64, false)] (.int .u64)) k (bodyOf Go.Proofs.Try.f234) (initS 0 [.int .i64 n]) = f234 k n := by kernel_rfl
theorem m234 : Meets Go.Proofs.Try.prog 234 s234 := meets_of_run tiOk env38_ok mo Go.Proofs.Try.func234 (body := bodyOf Go.Proofs.Try.f234) (by kernel_rfl) (N := 10) (by kernel_rfl) (hs := []) (by
  intro k xs r h
  unfold s234 at h
  dsimp only at h
  split at h
  · exact ⟨Nat.le_of_ble_eq_true rfl, (v234 k _).trans h⟩
  · cases h)
theorem env39_ok : EnvOk Go.Proofs.Try.prog (envOf env39) := envOf_cons m234 Go.Proofs.Try.func234 (by kernel_rfl) (by kernel_rfl) env38_ok

-- impl.wideOf
noncomputable def f173 (k : Nat) (n : Int) : Option (Bool × Int × Int) :=
  (f234 k n).bind fun r0 =>
  some ((decide (n < 0), 0, r0))
noncomputable def s173 : Spec := ⟨false, [(.pair (.bool) (.pair (.int .u64) (.int .u64)), true)], true, .pair (.bool) (.pair (.int .u64) (.int .u64)), fun k xs => match xs with | [.int .i64 n] => f173 k n | _ => none⟩
noncomputable def env40 : List (FuncId × Spec) := (173, s173) :: env39
theorem v173 (k : Nat) (n : Int) : runFn ti (envOf env39) 8 [] (finT ti true Go.Proofs.Try.f173.results.toList [(.pair (.bool) (.pair (.int .u64) (.int .u64)), true)] (.pair (.bool) (.pair (.int .u64) (.int .u64)))) k (bodyOf Go.Proofs.Try.f173) (initS 0 [.int .i64 n]) = f173 k n := by kernel_rfl
theorem m173 : Meets Go.Proofs.Try.prog 173 s173 := meets_of_run tiOk env39_ok mo Go.Proofs.Try.func173 (body := bodyOf Go.Proofs.Try.f173) (by kernel_rfl) (N := 8) (by kernel_rfl) (hs := []) (by
  intro k xs r h
  unfold s173 at h
  dsimp only at h
  split at h
  · exact ⟨Nat.le_of_ble_eq_true rfl, (v173 k _).trans h⟩
  · cases h)
theorem env40_ok : EnvOk Go.Proofs.Try.prog (envOf env40) := envOf_cons m173 Go.Proofs.Try.func173 (by kernel_rfl) (by kernel_rfl) env39_ok

-- impl.wide).shift
noncomputable def f196 (k : Nat) (w_negative : Bool) (w_high : Int) (w_low : Int) (k_ : Int) : Option (Bool × Int × Int) :=
  bif decide (0 ≤ k_) then
    bif decide (64 ≤ k_) then
      bif !decide (IntKind.wrap IntKind.i64 (k_ - 64) < 0) then
        some ((w_negative, IntKind.wrap IntKind.u64 (w_low * 2 ^ min (Int.toNat (IntKind.wrap IntKind.i64 (k_ - 64))) (IntKind.bits IntKind.u64)), 0))
      else
        none
    else
      bif !decide (k_ < 0) then
        bif !decide (IntKind.wrap IntKind.i64 (64 - k_) < 0) then
          bif !decide (k_ < 0) then
            some ((w_negative, IntKind.wrap IntKind.u64 (↑(BitVec.toNat (BitVec.ofInt (IntKind.bits IntKind.u64) (IntKind.wrap IntKind.u64 (w_high * 2 ^ min (Int.toNat k_) (IntKind.bits IntKind.u64))) ||| BitVec.ofInt (IntKind.bits IntKind.u64) (Int.fdiv w_low (2 ^ min (Int.toNat (IntKind.wrap IntKind.i64 (64 - k_))) (IntKind.bits IntKind.u64))))) : Int), IntKind.wrap IntKind.u64 (w_low * 2 ^ min (Int.toNat k_) (IntKind.bits IntKind.u64))))
          else
            none
        else
          none
      else
        none
  else
    bif decide (64 ≤ IntKind.wrap IntKind.i64 (0 - k_)) then
      bif !decide (IntKind.wrap IntKind.i64 (IntKind.wrap IntKind.i64 (0 - k_) - 64) < 0) then
        some ((w_negative, 0, Int.fdiv w_high (2 ^ min (Int.toNat (IntKind.wrap IntKind.i64 (IntKind.wrap IntKind.i64 (0 - k_) - 64))) (IntKind.bits IntKind.u64))))
      else
        none
    else
      bif !decide (IntKind.wrap IntKind.i64 (0 - k_) < 0) then
        bif !decide (IntKind.wrap IntKind.i64 (0 - k_) < 0) then
          bif !decide (IntKind.wrap IntKind.i64 (64 - IntKind.wrap IntKind.i64 (0 - k_)) < 0) then
            some ((w_negative, Int.fdiv w_high (2 ^ min (Int.toNat (IntKind.wrap IntKind.i64 (0 - k_))) (IntKind.bits IntKind.u64)), IntKind.wrap IntKind.u64 (↑(BitVec.toNat (BitVec.ofInt (IntKind.bits IntKind.u64) (Int.fdiv w_low (2 ^ min (Int.toNat (IntKind.wrap IntKind.i64 (0 - k_))) (IntKind.bits IntKind.u64))) ||| BitVec.ofInt (IntKind.bits IntKind.u64) (IntKind.wrap IntKind.u64 (w_high * 2 ^ min (Int.toNat (IntKind.wrap IntKind.i64 (64 - IntKind.wrap IntKind.i64 (0 - k_)))) (IntKind.bits IntKind.u64))))) : Int)))
          else
            none
        else
          none
      else
        none
noncomputable def s196 : Spec := ⟨false, [(.pair (.bool) (.pair (.int .u64) (.int .u64)), true)], true, .pair (.bool) (.pair (.int .u64) (.int .u64)), fun k xs => match xs with | [.agg [.bool w_negative, .int .u64 w_high, .int .u64 w_low], .int .i64 k_] => f196 k w_negative w_high w_low k_ | _ => none⟩
noncomputable def env41 : List (FuncId × Spec) := (196, s196) :: env40
theorem v196 (k : Nat) (w_negative : Bool) (w_high : Int) (w_low : Int) (k_ : Int) : runFn ti (envOf env40) 63 [] (finT ti true Go.Proofs.Try.f196.results.toList [(.pair (.bool) (.pair (.int .u64) (.int .u64)), true)] (.pair (.bool) (.pair (.int .u64) (.int .u64)))) k (bodyOf Go.Proofs.Try.f196) (initS 0 [.agg [.bool w_negative, .int .u64 w_high, .int .u64 w_low], .int .i64 k_]) = f196 k w_negative w_high w_low k_ := by kernel_rfl
theorem m196 : Meets Go.Proofs.Try.prog 196 s196 := meets_of_run tiOk env40_ok mo Go.Proofs.Try.func196 (body := bodyOf Go.Proofs.Try.f196) (by kernel_rfl) (N := 63) (by kernel_rfl) (hs := []) (by
  intro k xs r h
  unfold s196 at h
  dsimp only at h
  split at h
  · exact ⟨Nat.le_of_ble_eq_true rfl, (v196 k _ _ _ _).trans h⟩
  · cases h)
theorem env41_ok : EnvOk Go.Proofs.Try.prog (envOf env41) := envOf_cons m196 Go.Proofs.Try.func196 (by kernel_rfl) (by kernel_rfl) env40_ok

-- impl.wide).isZero
noncomputable def f235 (k : Nat) (w_negative : Bool) (w_high : Int) (w_low : Int) : Option (Bool) :=
  bif decide (w_high = 0) then
    some (decide (w_low = 0))
  else
    some false
noncomputable def s235 : Spec := ⟨false, [(.bool, false)], true, .bool, fun k xs => match xs with | [.agg [.bool w_negative, .int .u64 w_high, .int .u64 w_low]] => f235 k w_negative w_high w_low | _ => none⟩
noncomputable def env42 : List (FuncId × Spec) := (235, s235) :: env41
theorem v235 (k : Nat) (w_negative : Bool) (w_high : Int) (w_low : Int) : runFn ti (envOf env41) 11 [] (finT ti true Go.Proofs.Try.f235.results.toList [(.bool, false)] (.bool)) k (bodyOf Go.Proofs.Try.f235) (initS 0 [.agg [.bool w_negative, .int .u64 w_high, .int .u64 w_low]]) = f235 k w_negative w_high w_low := by kernel_rfl
theorem m235 : Meets Go.Proofs.Try.prog 235 s235 := meets_of_run tiOk env41_ok mo Go.Proofs.Try.func235 (body := bodyOf Go.Proofs.Try.f235) (by kernel_rfl) (N := 11) (by kernel_rfl) (hs := []) (by
  intro k xs r h
  unfold s235 at h
  dsimp only at h
  split at h
  · exact ⟨Nat.le_of_ble_eq_true rfl, (v235 k _ _ _).trans h⟩
  · cases h)
theorem env42_ok : EnvOk Go.Proofs.Try.prog (envOf env42) := envOf_cons m235 Go.Proofs.Try.func235 (by kernel_rfl) (by kernel_rfl) env41_ok

-- cmp.Or[int]
def h275 : Hints := [(1003, .lab [(3, .one (.v)), (6, .one (.frz 3 (Ty.int IntKind.i64))), (7, .one (.v)), (8, .one (.v))])]
noncomputable def F275_1003 (k : Nat) (rec1003 : Int → List Int → Int → Int → Option (Int)) (zero : Int) (t6 : List Int) (t7 : Int) (t8 : Int) : Option (Int) :=
  bif decide (t8 < t7) then
    bif boundA t8 (List.length t6) then
      bif !decide (List.getD t6 (Int.toNat t8) 0 = zero) then
        some (List.getD t6 (Int.toNat t8) 0)
      else
        rec1003 zero t6 t7 (IntKind.wrap IntKind.i64 (t8 + 1))
    else
      none
  else
    some zero
noncomputable def F275 (k : Nat) (rec1003 : Int → List Int → Int → Int → Option (Int)) (vals : List (Int)) : Option (Int) :=
  rec1003 (0) vals ((↑(List.length vals) : Int)) (0)
noncomputable def l275 : Nat → (Int → List Int → Int → Int → Option (Int))
  | 0 => fun _ _ _ _ => none
  | k + 1 => F275_1003 k (l275 k)
noncomputable def f275 (k : Nat) (vals : List (Int)) : Option (Int) := F275 k (l275 k) vals
noncomputable def s275 : Spec := ⟨false, [(.int .i64, false)], true, .int .i64, fun k xs => match xs with | [.slc 3 (.int .i64) vals] => f275 k vals | _ => none⟩
noncomputable def env43 : List (FuncId × Spec) := (275, s275) :: env42
noncomputable abbrev x275 := exec ti (envOf env42) 18 h275 (finT ti true Go.Proofs.Try.f275.results.toList [(.int .i64, false)] (.int .i64))
noncomputable def k275_1003 : List It := stackAt [.r, .r, .l, .r, .b, .lb none] (bodyOf Go.Proofs.Try.f275) []
def t275_1003 (zero : Int) (t6 : List Int) (t7 : Int) (t8 : Int) : St := [(6, Cell.val (AVal.int IntKind.i64 zero)), (12, Cell.val (AVal.slc 3 (Ty.int IntKind.i64) t6)), (14, Cell.val (AVal.int IntKind.i64 t7)), (16, Cell.val (AVal.int IntKind.i64 t8))]
theorem e275_1003 (k : Nat) (zero : Int) (t6 : List Int) (t7 : Int) (t8 : Int) : x275 (k + 1) k275_1003 (t275_1003 zero t6 t7 t8) = F275_1003 k (fun (zero : Int) (t6 : List Int) (t7 : Int) (t8 : Int) => x275 k k275_1003 (t275_1003 zero t6 t7 t8)) zero t6 t7 t8 := by kernel_rfl
theorem q275 : ∀ k : Nat, (fun (zero : Int) (t6 : List Int) (t7 : Int) (t8 : Int) => x275 k k275_1003 (t275_1003 zero t6 t7 t8)) = l275 k
  | 0 => rfl
  | k + 1 => by
    have h := q275 k
    show _ = F275_1003 k (l275 k)
    rw [← h]
    exact (funext fun zero => funext fun t6 => funext fun t7 => funext fun t8 => e275_1003 k zero t6 t7 t8)
theorem w275 (k : Nat) (vals : List (Int)) : runFn ti (envOf env42) 18 h275 (finT ti true Go.Proofs.Try.f275.results.toList [(.int .i64, false)] (.int .i64)) k (bodyOf Go.Proofs.Try.f275) (initS 0 [.slc 3 (.int .i64) vals]) = F275 k (fun (zero : Int) (t6 : List Int) (t7 : Int) (t8 : Int) => x275 k k275_1003 (t275_1003 zero t6 t7 t8)) vals := by kernel_rfl
theorem v275 (k : Nat) (vals : List (Int)) : runFn ti (envOf env42) 18 h275 (finT ti true Go.Proofs.Try.f275.results.toList [(.int .i64, false)] (.int .i64)) k (bodyOf Go.Proofs.Try.f275) (initS 0 [.slc 3 (.int .i64) vals]) = f275 k vals := by
  rw [w275]
  have h := q275 k
  unfold f275
  rw [← h]
theorem m275 : Meets Go.Proofs.Try.prog 275 s275 := meets_of_run tiOk env42_ok mo Go.Proofs.Try.func275 (body := bodyOf Go.Proofs.Try.f275) (by kernel_rfl) (N := 18) (by kernel_rfl) (hs := h275) (by
  intro k xs r h
  unfold s275 at h
  dsimp only at h
  split at h
  · exact ⟨Nat.le_of_ble_eq_true rfl, (v275 k _).trans h⟩
  · cases h)
theorem env43_ok : EnvOk Go.Proofs.Try.prog (envOf env43) := envOf_cons m275 Go.Proofs.Try.func275 (by kernel_rfl) (by kernel_rfl) env42_ok

-- cmp.isNaN[uint64]
noncomputable def f287 (k : Nat) (x : Int) : Option (Bool) :=
  some (!decide (x = x))
noncomputable def s287 : Spec := ⟨false, [(.bool, false)], true, .bool, fun k xs => match xs with | [.int .u64 x] => f287 k x | _ => none⟩
noncomputable def env44 : List (FuncId × Spec) := (287, s287) :: env43
theorem v287 (k : Nat) (x : Int) : runFn ti (envOf env43) 6 [] (finT ti true Go.Proofs.Try.f287.results.toList [(.bool, false)] (.bool)) k (bodyOf Go.Proofs.Try.f287) (initS 0 [.int .u64 x]) = f287 k x := by kernel_rfl
theorem m287 : Meets Go.Proofs.Try.prog 287 s287 := meets_of_run tiOk env43_ok mo Go.Proofs.Try.func287 (body := bodyOf Go.Proofs.Try.f287) (by kernel_rfl) (N := 6) (by kernel_rfl) (hs := []) (by
  intro k xs r h
  unfold s287 at h
  dsimp only at h
  split at h
  · exact ⟨Nat.le_of_ble_eq_true rfl, (v287 k _).trans h⟩
  · cases h)
theorem env44_ok : EnvOk Go.Proofs.Try.prog (envOf env44) := envOf_cons m287 Go.Proofs.Try.func287 (by kernel_rfl) (by kernel_rfl) env43_ok

-- cmp.Compare[uint64]
noncomputable def f276 (k : Nat) (x : Int) (y : Int) : Option (Int) :=
  bif !decide (x = x) then
    bif !decide (y = y) then
      some (0)
    else
      some (-1)
  else
    bif !decide (y = y) then
      some (1)
    else
      bif decide (x < y) then
        some (-1)
      else
        bif decide (y < x) then
          some (1)
        else
          some (0)
noncomputable def s276 : Spec := ⟨false, [(.int .i64, false)], true, .int .i64, fun k xs => match xs with | [.int .u64 x, .int .u64 y] => f276 k x y | _ => none⟩
noncomputable def env45 : List (FuncId × Spec) := (276, s276) :: env44
theorem v276 (k : Nat) (x : Int) (y : Int) : runFn ti (envOf env44) 20 [] (finT ti true Go.Proofs.Try.f276.results.toList [(.int .i64, false)] (.int .i64)) k (bodyOf Go.Proofs.Try.f276) (initS 0 [.int .u64 x, .int .u64 y]) = f276 k x y := by kernel_rfl
theorem m276 : Meets Go.Proofs.Try.prog 276 s276 := meets_of_run tiOk env44_ok mo Go.Proofs.Try.func276 (body := bodyOf Go.Proofs.Try.f276) (by kernel_rfl) (N := 20) (by kernel_rfl) (hs := []) (by
  intro k xs r h
  unfold s276 at h
  dsimp only at h
  split at h
  · exact ⟨Nat.le_of_ble_eq_true rfl, (v276 k _ _).trans h⟩
  · cases h)
theorem env45_ok : EnvOk Go.Proofs.Try.prog (envOf env45) := envOf_cons m276 Go.Proofs.Try.func276 (by kernel_rfl) (by kernel_rfl) env44_ok

-- impl.compareSizes
noncomputable def f246 (k : Nat) (a_negative : Bool) (a_high : Int) (a_low : Int) (b_negative : Bool) (b_high : Int) (b_low : Int) : Option (Int) :=
  (f276 k a_high b_high).bind fun r0 =>
  (f276 k a_low b_low).bind fun r1 =>
  (f275 k [r0, r1]).bind fun r2 =>
  some r2
noncomputable def s246 : Spec := ⟨false, [(.int .i64, false)], true, .int .i64, fun k xs => match xs with | [.agg [.bool a_negative, .int .u64 a_high, .int .u64 a_low], .agg [.bool b_negative, .int .u64 b_high, .int .u64 b_low]] => f246 k a_negative a_high a_low b_negative b_high b_low | _ => none⟩
noncomputable def env46 : List (FuncId × Spec) := (246, s246) :: env45
theorem v246 (k : Nat) (a_negative : Bool) (a_high : Int) (a_low : Int) (b_negative : Bool) (b_high : Int) (b_low : Int) : runFn ti (envOf env45) 17 [] (finT ti true Go.Proofs.Try.f246.results.toList [(.int .i64, false)] (.int .i64)) k (bodyOf Go.Proofs.Try.f246) (initS 0 [.agg [.bool a_negative, .int .u64 a_high, .int .u64 a_low], .agg [.bool b_negative, .int .u64 b_high, .int .u64 b_low]]) = f246 k a_negative a_high a_low b_negative b_high b_low := by kernel_rfl
theorem m246 : Meets Go.Proofs.Try.prog 246 s246 := meets_of_run tiOk env45_ok mo Go.Proofs.Try.func246 (body := bodyOf Go.Proofs.Try.f246) (by kernel_rfl) (N := 17) (by kernel_rfl) (hs := []) (by
  intro k xs r h
  unfold s246 at h
  dsimp only at h
  split at h
  · exact ⟨Nat.le_of_ble_eq_true rfl, (v246 k _ _ _ _ _ _).trans h⟩
  · cases h)
theorem env46_ok : EnvOk Go.Proofs.Try.prog (envOf env46) := envOf_cons m246 Go.Proofs.Try.func246 (by kernel_rfl) (by kernel_rfl) env45_ok

-- impl.compareWide
noncomputable def f240 (k : Nat) (a_negative : Bool) (a_high : Int) (a_low : Int) (b_negative : Bool) (b_high : Int) (b_low : Int) : Option (Int) :=
  (f235 k a_negative a_high a_low).bind fun r0 =>
  bif r0 then
    (f235 k b_negative b_high b_low).bind fun r1 =>
    bif r1 then
      some (0)
    else
      bif !a_negative == b_negative then
        bif a_negative then
          some (-1)
        else
          some (1)
      else
        bif a_negative then
          (f246 k b_negative b_high b_low a_negative a_high a_low).bind fun r2 =>
          some r2
        else
          (f246 k a_negative a_high a_low b_negative b_high b_low).bind fun r3 =>
          some r3
  else
    bif !a_negative == b_negative then
      bif a_negative then
        some (-1)
      else
        some (1)
    else
      bif a_negative then
        (f246 k b_negative b_high b_low a_negative a_high a_low).bind fun r4 =>
        some r4
      else
        (f246 k a_negative a_high a_low b_negative b_high b_low).bind fun r5 =>
        some r5
noncomputable def s240 : Spec := ⟨false, [(.int .i64, false)], true, .int .i64, fun k xs => match xs with | [.agg [.bool a_negative, .int .u64 a_high, .int .u64 a_low], .agg [.bool b_negative, .int .u64 b_high, .int .u64 b_low]] => f240 k a_negative a_high a_low b_negative b_high b_low | _ => none⟩
noncomputable def env47 : List (FuncId × Spec) := (240, s240) :: env46
theorem v240 (k : Nat) (a_negative : Bool) (a_high : Int) (a_low : Int) (b_negative : Bool) (b_high : Int) (b_low : Int) : runFn ti (envOf env46) 29 [] (finT ti true Go.Proofs.Try.f240.results.toList [(.int .i64, false)] (.int .i64)) k (bodyOf Go.Proofs.Try.f240) (initS 0 [.agg [.bool a_negative, .int .u64 a_high, .int .u64 a_low], .agg [.bool b_negative, .int .u64 b_high, .int .u64 b_low]]) = f240 k a_negative a_high a_low b_negative b_high b_low := by kernel_rfl
theorem m240 : Meets Go.Proofs.Try.prog 240 s240 := meets_of_run tiOk env46_ok mo Go.Proofs.Try.func240 (body := bodyOf Go.Proofs.Try.f240) (by kernel_rfl) (N := 29) (by kernel_rfl) (hs := []) (by
  intro k xs r h
  unfold s240 at h
  dsimp only at h
  split at h
  · exact ⟨Nat.le_of_ble_eq_true rfl, (v240 k _ _ _ _ _ _).trans h⟩
  · cases h)
theorem env47_ok : EnvOk Go.Proofs.Try.prog (envOf env47) := envOf_cons m240 Go.Proofs.Try.func240 (by kernel_rfl) (by kernel_rfl) env46_ok

-- impl.compareD
noncomputable def f191 (k : Nat) (a_N : Int) (a_K : Int) (b_N : Int) (b_K : Int) : Option (Int) :=
  (f173 k a_N).bind fun r0 =>
  (f196 k r0.fst r0.snd.fst r0.snd.snd (IntKind.wrap IntKind.i64 ((bif decide (a_K < b_K) then b_K else a_K) - a_K))).bind fun r1 =>
  (f173 k b_N).bind fun r2 =>
  (f196 k r2.fst r2.snd.fst r2.snd.snd (IntKind.wrap IntKind.i64 ((bif decide (a_K < b_K) then b_K else a_K) - b_K))).bind fun r3 =>
  (f240 k r1.fst r1.snd.fst r1.snd.snd r3.fst r3.snd.fst r3.snd.snd).bind fun r4 =>
  some r4
noncomputable def s191 : Spec := ⟨false, [(.int .i64, false)], true, .int .i64, fun k xs => match xs with | [.agg [.int .i64 a_N, .int .i64 a_K], .agg [.int .i64 b_N, .int .i64 b_K]] => f191 k a_N a_K b_N b_K | _ => none⟩
noncomputable def env48 : List (FuncId × Spec) := (191, s191) :: env47
theorem v191 (k : Nat) (a_N : Int) (a_K : Int) (b_N : Int) (b_K : Int) : runFn ti (envOf env47) 28 [] (finT ti true Go.Proofs.Try.f191.results.toList [(.int .i64, false)] (.int .i64)) k (bodyOf Go.Proofs.Try.f191) (initS 0 [.agg [.int .i64 a_N, .int .i64 a_K], .agg [.int .i64 b_N, .int .i64 b_K]]) = f191 k a_N a_K b_N b_K := by kernel_rfl
theorem m191 : Meets Go.Proofs.Try.prog 191 s191 := meets_of_run tiOk env47_ok mo Go.Proofs.Try.func191 (body := bodyOf Go.Proofs.Try.f191) (by kernel_rfl) (N := 28) (by kernel_rfl) (hs := []) (by
  intro k xs r h
  unfold s191 at h
  dsimp only at h
  split at h
  · exact ⟨Nat.le_of_ble_eq_true rfl, (v191 k _ _ _ _).trans h⟩
  · cases h)
theorem env48_ok : EnvOk Go.Proofs.Try.prog (envOf env48) := envOf_cons m191 Go.Proofs.Try.func191 (by kernel_rfl) (by kernel_rfl) env47_ok

end Go.Proofs.YtbaeikcfchiiaaaE
