/- Functions, by the engine; printed. -/
import Derived.Test.YtnndolcjljhhcaaSL3
set_option maxRecDepth 100000
set_option maxHeartbeats 4000000
set_option linter.unusedVariables false
namespace Go.Proofs.YtnndolcjljhhcaaE
-- impl.isFamily
def f66 (k : Nat) (p : List (Int)) (q : List (Int)) (fine : Int) : Option (Bool) :=
  (f109 k p).bind fun r0 =>
  bif r0 then
    (f109 k q).bind fun r1 =>
    bif r1 then
      (f74 k fine 0 4).bind fun r2 =>
      some r2
    else
      some false
  else
    some false
def s66 : Spec := ⟨false, [(.bool, false)], true, .bool, fun k xs => match xs with | [.slc 3 (.int .i64) p, .slc 3 (.int .i64) q, .int .i64 fine] => f66 k p q fine | _ => none⟩
def env37 : List (FuncId × Spec) := (66, s66) :: env36
theorem v66 (k : Nat) (p : List (Int)) (q : List (Int)) (fine : Int) : runFn ti (envOf env36) 17 [] (finT ti true Go.Proofs.Try.f66.results.toList [(.bool, false)] (.bool)) k (bodyOf Go.Proofs.Try.f66) (initS 0 [.slc 3 (.int .i64) p, .slc 3 (.int .i64) q, .int .i64 fine]) = f66 k p q fine := by kernel_rfl
theorem m66 : Meets Go.Proofs.Try.prog 66 s66 := meets_of_run tiOk env36_ok mo Go.Proofs.Try.func66 (body := bodyOf Go.Proofs.Try.f66) (by kernel_rfl) (N := 17) (by kernel_rfl) (hs := []) (by
  intro k xs r h
  unfold s66 at h
  dsimp only at h
  split at h
  · exact ⟨Nat.le_of_ble_eq_true rfl, (v66 k _ _ _).trans h⟩
  · cases h)
theorem env37_ok : EnvOk Go.Proofs.Try.prog (envOf env37) := envOf_cons m66 Go.Proofs.Try.func66 (by kernel_rfl) (by kernel_rfl) env36_ok

-- impl.isMoment
def f67 (k : Nat) (i : Int) (fine : Int) : Option (Bool) :=
  bif !decide (fine < 0) then
    (f74 k i 0 (IntKind.wrap IntKind.i64 (1 * 2 ^ min (Int.toNat fine) (IntKind.bits IntKind.i64)))).bind fun r0 =>
    some r0
  else
    none
def s67 : Spec := ⟨false, [(.bool, false)], true, .bool, fun k xs => match xs with | [.int .i64 i, .int .i64 fine] => f67 k i fine | _ => none⟩
def env38 : List (FuncId × Spec) := (67, s67) :: env37
theorem v67 (k : Nat) (i : Int) (fine : Int) : runFn ti (envOf env37) 9 [] (finT ti true Go.Proofs.Try.f67.results.toList [(.bool, false)] (.bool)) k (bodyOf Go.Proofs.Try.f67) (initS 0 [.int .i64 i, .int .i64 fine]) = f67 k i fine := by kernel_rfl
theorem m67 : Meets Go.Proofs.Try.prog 67 s67 := meets_of_run tiOk env37_ok mo Go.Proofs.Try.func67 (body := bodyOf Go.Proofs.Try.f67) (by kernel_rfl) (N := 9) (by kernel_rfl) (hs := []) (by
  intro k xs r h
  unfold s67 at h
  dsimp only at h
  split at h
  · exact ⟨Nat.le_of_ble_eq_true rfl, (v67 k _ _).trans h⟩
  · cases h)
theorem env38_ok : EnvOk Go.Proofs.Try.prog (envOf env38) := envOf_cons m67 Go.Proofs.Try.func67 (by kernel_rfl) (by kernel_rfl) env37_ok

-- impl.wide).isZero
def f192 (k : Nat) (w_negative : Bool) (w_high : Int) (w_low : Int) : Option (Bool) :=
  bif decide (w_high = 0) then
    some (decide (w_low = 0))
  else
    some false
def s192 : Spec := ⟨false, [(.bool, false)], true, .bool, fun k xs => match xs with | [.agg [.bool w_negative, .int .u64 w_high, .int .u64 w_low]] => f192 k w_negative w_high w_low | _ => none⟩
def env39 : List (FuncId × Spec) := (192, s192) :: env38
theorem v192 (k : Nat) (w_negative : Bool) (w_high : Int) (w_low : Int) : runFn ti (envOf env38) 11 [] (finT ti true Go.Proofs.Try.f192.results.toList [(.bool, false)] (.bool)) k (bodyOf Go.Proofs.Try.f192) (initS 0 [.agg [.bool w_negative, .int .u64 w_high, .int .u64 w_low]]) = f192 k w_negative w_high w_low := by kernel_rfl
theorem m192 : Meets Go.Proofs.Try.prog 192 s192 := meets_of_run tiOk env38_ok mo Go.Proofs.Try.func192 (body := bodyOf Go.Proofs.Try.f192) (by kernel_rfl) (N := 11) (by kernel_rfl) (hs := []) (by
  intro k xs r h
  unfold s192 at h
  dsimp only at h
  split at h
  · exact ⟨Nat.le_of_ble_eq_true rfl, (v192 k _ _ _).trans h⟩
  · cases h)
theorem env39_ok : EnvOk Go.Proofs.Try.prog (envOf env39) := envOf_cons m192 Go.Proofs.Try.func192 (by kernel_rfl) (by kernel_rfl) env38_ok

-- cmp.Or[int]
def h203 : Hints := [(1003, .lab [(3, .one (.v)), (6, .one (.frz 3 (Ty.int IntKind.i64))), (7, .one (.v)), (8, .one (.v))])]
def F203_1003 (k : Nat) (rec1003 : Int → List Int → Int → Int → Option (Int)) (zero : Int) (t6 : List Int) (t7 : Int) (t8 : Int) : Option (Int) :=
  bif decide (t8 < t7) then
    bif boundA t8 (List.length t6) then
      bif !decide (List.getD t6 (Int.toNat t8) 0 = zero) then
        some (List.getD t6 (Int.toNat t8) 0)
      else
        rec1003 zero t6 t7 (IntKind.wrap IntKind.i64 (t8 + 1))
    else
      none
  else
    some zero
def F203 (k : Nat) (rec1003 : Int → List Int → Int → Int → Option (Int)) (vals : List (Int)) : Option (Int) :=
  rec1003 (0) vals ((↑(List.length vals) : Int)) (0)
def l203 : Nat → (Int → List Int → Int → Int → Option (Int))
  | 0 => fun _ _ _ _ => none
  | k + 1 => F203_1003 k (l203 k)
def f203 (k : Nat) (vals : List (Int)) : Option (Int) := F203 k (l203 k) vals
def s203 : Spec := ⟨false, [(.int .i64, false)], true, .int .i64, fun k xs => match xs with | [.slc 3 (.int .i64) vals] => f203 k vals | _ => none⟩
def env40 : List (FuncId × Spec) := (203, s203) :: env39
noncomputable abbrev x203 := exec ti (envOf env39) 18 h203 (finT ti true Go.Proofs.Try.f203.results.toList [(.int .i64, false)] (.int .i64))
noncomputable def k203_1003 : List It := stackAt [.r, .r, .l, .r, .b, .lb none] (bodyOf Go.Proofs.Try.f203) []
def t203_1003 (zero : Int) (t6 : List Int) (t7 : Int) (t8 : Int) : St := [(6, Cell.val (AVal.int IntKind.i64 zero)), (12, Cell.val (AVal.slc 3 (Ty.int IntKind.i64) t6)), (14, Cell.val (AVal.int IntKind.i64 t7)), (16, Cell.val (AVal.int IntKind.i64 t8))]
theorem e203_1003 (k : Nat) (zero : Int) (t6 : List Int) (t7 : Int) (t8 : Int) : x203 (k + 1) k203_1003 (t203_1003 zero t6 t7 t8) = F203_1003 k (fun (zero : Int) (t6 : List Int) (t7 : Int) (t8 : Int) => x203 k k203_1003 (t203_1003 zero t6 t7 t8)) zero t6 t7 t8 := by kernel_rfl
theorem q203 : ∀ k : Nat, (fun (zero : Int) (t6 : List Int) (t7 : Int) (t8 : Int) => x203 k k203_1003 (t203_1003 zero t6 t7 t8)) = l203 k
  | 0 => rfl
  | k + 1 => by
    have h := q203 k
    show _ = F203_1003 k (l203 k)
    rw [← h]
    exact (funext fun zero => funext fun t6 => funext fun t7 => funext fun t8 => e203_1003 k zero t6 t7 t8)
theorem w203 (k : Nat) (vals : List (Int)) : runFn ti (envOf env39) 18 h203 (finT ti true Go.Proofs.Try.f203.results.toList [(.int .i64, false)] (.int .i64)) k (bodyOf Go.Proofs.Try.f203) (initS 0 [.slc 3 (.int .i64) vals]) = F203 k (fun (zero : Int) (t6 : List Int) (t7 : Int) (t8 : Int) => x203 k k203_1003 (t203_1003 zero t6 t7 t8)) vals := by kernel_rfl
theorem v203 (k : Nat) (vals : List (Int)) : runFn ti (envOf env39) 18 h203 (finT ti true Go.Proofs.Try.f203.results.toList [(.int .i64, false)] (.int .i64)) k (bodyOf Go.Proofs.Try.f203) (initS 0 [.slc 3 (.int .i64) vals]) = f203 k vals := by
  rw [w203]
  have h := q203 k
  unfold f203
  rw [← h]
theorem m203 : Meets Go.Proofs.Try.prog 203 s203 := meets_of_run tiOk env39_ok mo Go.Proofs.Try.func203 (body := bodyOf Go.Proofs.Try.f203) (by kernel_rfl) (N := 18) (by kernel_rfl) (hs := h203) (by
  intro k xs r h
  unfold s203 at h
  dsimp only at h
  split at h
  · exact ⟨Nat.le_of_ble_eq_true rfl, (v203 k _).trans h⟩
  · cases h)
theorem env40_ok : EnvOk Go.Proofs.Try.prog (envOf env40) := envOf_cons m203 Go.Proofs.Try.func203 (by kernel_rfl) (by kernel_rfl) env39_ok

-- cmp.isNaN[uint64]
def f208 (k : Nat) (x : Int) : Option (Bool) :=
  some (!decide (x = x))
def s208 : Spec := ⟨false, [(.bool, false)], true, .bool, fun k xs => match xs with | [.int .u64 x] => f208 k x | _ => none⟩
def env41 : List (FuncId × Spec) := (208, s208) :: env40
theorem v208 (k : Nat) (x : Int) : runFn ti (envOf env40) 6 [] (finT ti true Go.Proofs.Try.f208.results.toList [(.bool, false)] (.bool)) k (bodyOf Go.Proofs.Try.f208) (initS 0 [.int .u64 x]) = f208 k x := by kernel_rfl
theorem m208 : Meets Go.Proofs.Try.prog 208 s208 := meets_of_run tiOk env40_ok mo Go.Proofs.Try.func208 (body := bodyOf Go.Proofs.Try.f208) (by kernel_rfl) (N := 6) (by kernel_rfl) (hs := []) (by
  intro k xs r h
  unfold s208 at h
  dsimp only at h
  split at h
  · exact ⟨Nat.le_of_ble_eq_true rfl, (v208 k _).trans h⟩
  · cases h)
theorem env41_ok : EnvOk Go.Proofs.Try.prog (envOf env41) := envOf_cons m208 Go.Proofs.Try.func208 (by kernel_rfl) (by kernel_rfl) env40_ok

-- cmp.Compare[uint64]
def f204 (k : Nat) (x : Int) (y : Int) : Option (Int) :=
  bif !decide (x = x) then
    bif !decide (y = y) then
      some (0)
    else
      some (-1)
  else
    bif !decide (y = y) then
      some (1)
    else
      bif decide (x < y) then
        some (-1)
      else
        bif decide (y < x) then
          some (1)
        else
          some (0)
def s204 : Spec := ⟨false, [(.int .i64, false)], true, .int .i64, fun k xs => match xs with | [.int .u64 x, .int .u64 y] => f204 k x y | _ => none⟩
def env42 : List (FuncId × Spec) := (204, s204) :: env41
theorem v204 (k : Nat) (x : Int) (y : Int) : runFn ti (envOf env41) 20 [] (finT ti true Go.Proofs.Try.f204.results.toList [(.int .i64, false)] (.int .i64)) k (bodyOf Go.Proofs.Try.f204) (initS 0 [.int .u64 x, .int .u64 y]) = f204 k x y := by kernel_rfl
theorem m204 : Meets Go.Proofs.Try.prog 204 s204 := meets_of_run tiOk env41_ok mo Go.Proofs.Try.func204 (body := bodyOf Go.Proofs.Try.f204) (by kernel_rfl) (N := 20) (by kernel_rfl) (hs := []) (by
  intro k xs r h
  unfold s204 at h
  dsimp only at h
  split at h
  · exact ⟨Nat.le_of_ble_eq_true rfl, (v204 k _ _).trans h⟩
  · cases h)
theorem env42_ok : EnvOk Go.Proofs.Try.prog (envOf env42) := envOf_cons m204 Go.Proofs.Try.func204 (by kernel_rfl) (by kernel_rfl) env41_ok

-- impl.compareSizes
def f193 (k : Nat) (a_negative : Bool) (a_high : Int) (a_low : Int) (b_negative : Bool) (b_high : Int) (b_low : Int) : Option (Int) :=
  (f204 k a_high b_high).bind fun r0 =>
  (f204 k a_low b_low).bind fun r1 =>
  (f203 k [r0, r1]).bind fun r2 =>
  some r2
def s193 : Spec := ⟨false, [(.int .i64, false)], true, .int .i64, fun k xs => match xs with | [.agg [.bool a_negative, .int .u64 a_high, .int .u64 a_low], .agg [.bool b_negative, .int .u64 b_high, .int .u64 b_low]] => f193 k a_negative a_high a_low b_negative b_high b_low | _ => none⟩
def env43 : List (FuncId × Spec) := (193, s193) :: env42
theorem v193 (k : Nat) (a_negative : Bool) (a_high : Int) (a_low : Int) (b_negative : Bool) (b_high : Int) (b_low : Int) : runFn ti (envOf env42) 17 [] (finT ti true Go.Proofs.Try.f193.results.toList [(.int .i64, false)] (.int .i64)) k (bodyOf Go.Proofs.Try.f193) (initS 0 [.agg [.bool a_negative, .int .u64 a_high, .int .u64 a_low], .agg [.bool b_negative, .int .u64 b_high, .int .u64 b_low]]) = f193 k a_negative a_high a_low b_negative b_high b_low := by kernel_rfl
theorem m193 : Meets Go.Proofs.Try.prog 193 s193 := meets_of_run tiOk env42_ok mo Go.Proofs.Try.func193 (body := bodyOf Go.Proofs.Try.f193) (by kernel_rfl) (N := 17) (by kernel_rfl) (hs := []) (by
  intro k xs r h
  unfold s193 at h
  dsimp only at h
  split at h
  · exact ⟨Nat.le_of_ble_eq_true rfl, (v193 k _ _ _ _ _ _).trans h⟩
  · cases h)
theorem env43_ok : EnvOk Go.Proofs.Try.prog (envOf env43) := envOf_cons m193 Go.Proofs.Try.func193 (by kernel_rfl) (by kernel_rfl) env42_ok

-- impl.compareWide
def f176 (k : Nat) (a_negative : Bool) (a_high : Int) (a_low : Int) (b_negative : Bool) (b_high : Int) (b_low : Int) : Option (Int) :=
  (f192 k a_negative a_high a_low).bind fun r0 =>
  bif r0 then
    (f192 k b_negative b_high b_low).bind fun r1 =>
    bif r1 then
      some (0)
    else
      bif !a_negative == b_negative then
        bif a_negative then
          some (-1)
        else
          some (1)
      else
        bif a_negative then
          (f193 k b_negative b_high b_low a_negative a_high a_low).bind fun r2 =>
          some r2
        else
          (f193 k a_negative a_high a_low b_negative b_high b_low).bind fun r3 =>
          some r3
  else
    bif !a_negative == b_negative then
      bif a_negative then
        some (-1)
      else
        some (1)
    else
      bif a_negative then
        (f193 k b_negative b_high b_low a_negative a_high a_low).bind fun r4 =>
        some r4
      else
        (f193 k a_negative a_high a_low b_negative b_high b_low).bind fun r5 =>
        some r5
def s176 : Spec := ⟨false, [(.int .i64, false)], true, .int .i64, fun k xs => match xs with | [.agg [.bool a_negative, .int .u64 a_high, .int .u64 a_low], .agg [.bool b_negative, .int .u64 b_high, .int .u64 b_low]] => f176 k a_negative a_high a_low b_negative b_high b_low | _ => none⟩
def env44 : List (FuncId × Spec) := (176, s176) :: env43
theorem v176 (k : Nat) (a_negative : Bool) (a_high : Int) (a_low : Int) (b_negative : Bool) (b_high : Int) (b_low : Int) : runFn ti (envOf env43) 29 [] (finT ti true Go.Proofs.Try.f176.results.toList [(.int .i64, false)] (.int .i64)) k (bodyOf Go.Proofs.Try.f176) (initS 0 [.agg [.bool a_negative, .int .u64 a_high, .int .u64 a_low], .agg [.bool b_negative, .int .u64 b_high, .int .u64 b_low]]) = f176 k a_negative a_high a_low b_negative b_high b_low := by kernel_rfl
theorem m176 : Meets Go.Proofs.Try.prog 176 s176 := meets_of_run tiOk env43_ok mo Go.Proofs.Try.func176 (body := bodyOf Go.Proofs.Try.f176) (by kernel_rfl) (N := 29) (by kernel_rfl) (hs := []) (by
  intro k xs r h
  unfold s176 at h
  dsimp only at h
  split at h
  · exact ⟨Nat.le_of_ble_eq_true rfl, (v176 k _ _ _ _ _ _).trans h⟩
  · cases h)
theorem env44_ok : EnvOk Go.Proofs.Try.prog (envOf env44) := envOf_cons m176 Go.Proofs.Try.func176 (by kernel_rfl) (by kernel_rfl) env43_ok

-- impl.size
def f179 (k : Nat) (n : Int) : Option (Int) :=
  bif decide (n < 0) then
    some (IntKind.wrap IntKind.u64 (IntKind.wrap IntKind.i64 (0 - n)))
  else
    some (IntKind.wrap IntKind.u64 n)
def s179 : Spec := ⟨false, [(.int .u64, false)], true, .int .u64, fun k xs => match xs with | [.int .i64 n] => f179 k n | _ => none⟩
def env45 : List (FuncId × Spec) := (179, s179) :: env44
theorem v179 (k : Nat) (n : Int) : runFn ti (envOf env44) 10 [] (finT ti true Go.Proofs.Try.f179.results.toList [(.int .u64, false)] (.int .u64)) k (bodyOf Go.Proofs.Try.f179) (initS 0 [.int .i64 n]) = f179 k n := by kernel_rfl
theorem m179 : Meets Go.Proofs.Try.prog 179 s179 := meets_of_run tiOk env44_ok mo Go.Proofs.Try.func179 (body := bodyOf Go.Proofs.Try.f179) (by kernel_rfl) (N := 10) (by kernel_rfl) (hs := []) (by
  intro k xs r h
  unfold s179 at h
  dsimp only at h
  split at h
  · exact ⟨Nat.le_of_ble_eq_true rfl, (v179 k _).trans h⟩
  · cases h)
theorem env45_ok : EnvOk Go.Proofs.Try.prog (envOf env45) := envOf_cons m179 Go.Proofs.Try.func179 (by kernel_rfl) (by kernel_rfl) env44_ok

-- impl.wideOf
def f177 (k : Nat) (n : Int) : Option (Bool × Int × Int) :=
  (f179 k n).bind fun r0 =>
  some ((decide (n < 0), 0, r0))
def s177 : Spec := ⟨false, [(.pair (.bool) (.pair (.int .u64) (.int .u64)), true)], true, .pair (.bool) (.pair (.int .u64) (.int .u64)), fun k xs => match xs with | [.int .i64 n] => f177 k n | _ => none⟩
def env46 : List (FuncId × Spec) := (177, s177) :: env45
theorem v177 (k : Nat) (n : Int) : runFn ti (envOf env45) 8 [] (finT ti true Go.Proofs.Try.f177.results.toList [(.pair (.bool) (.pair (.int .u64) (.int .u64)), true)] (.pair (.bool) (.pair (.int .u64) (.int .u64)))) k (bodyOf Go.Proofs.Try.f177) (initS 0 [.int .i64 n]) = f177 k n := by kernel_rfl
theorem m177 : Meets Go.Proofs.Try.prog 177 s177 := meets_of_run tiOk env45_ok mo Go.Proofs.Try.func177 (body := bodyOf Go.Proofs.Try.f177) (by kernel_rfl) (N := 8) (by kernel_rfl) (hs := []) (by
  intro k xs r h
  unfold s177 at h
  dsimp only at h
  split at h
  · exact ⟨Nat.le_of_ble_eq_true rfl, (v177 k _).trans h⟩
  · cases h)
theorem env46_ok : EnvOk Go.Proofs.Try.prog (envOf env46) := envOf_cons m177 Go.Proofs.Try.func177 (by kernel_rfl) (by kernel_rfl) env45_ok

-- impl.wide).shift
def f178 (k : Nat) (w_negative : Bool) (w_high : Int) (w_low : Int) (k_ : Int) : Option (Bool × Int × Int) :=
  bif decide (0 ≤ k_) then
    bif decide (64 ≤ k_) then
      bif !decide (IntKind.wrap IntKind.i64 (k_ - 64) < 0) then
        some ((w_negative, IntKind.wrap IntKind.u64 (w_low * 2 ^ min (Int.toNat (IntKind.wrap IntKind.i64 (k_ - 64))) (IntKind.bits IntKind.u64)), 0))
      else
        none
    else
      bif !decide (k_ < 0) then
        bif !decide (IntKind.wrap IntKind.i64 (64 - k_) < 0) then
          bif !decide (k_ < 0) then
            some ((w_negative, IntKind.wrap IntKind.u64 (↑(BitVec.toNat (BitVec.ofInt (IntKind.bits IntKind.u64) (IntKind.wrap IntKind.u64 (w_high * 2 ^ min (Int.toNat k_) (IntKind.bits IntKind.u64))) ||| BitVec.ofInt (IntKind.bits IntKind.u64) (Int.fdiv w_low (2 ^ min (Int.toNat (IntKind.wrap IntKind.i64 (64 - k_))) (IntKind.bits IntKind.u64))))) : Int), IntKind.wrap IntKind.u64 (w_low * 2 ^ min (Int.toNat k_) (IntKind.bits IntKind.u64))))
          else
            none
        else
          none
      else
        none
  else
    bif decide (64 ≤ IntKind.wrap IntKind.i64 (0 - k_)) then
      bif !decide (IntKind.wrap IntKind.i64 (IntKind.wrap IntKind.i64 (0 - k_) - 64) < 0) then
        some ((w_negative, 0, Int.fdiv w_high (2 ^ min (Int.toNat (IntKind.wrap IntKind.i64 (IntKind.wrap IntKind.i64 (0 - k_) - 64))) (IntKind.bits IntKind.u64))))
      else
        none
    else
      bif !decide (IntKind.wrap IntKind.i64 (0 - k_) < 0) then
        bif !decide (IntKind.wrap IntKind.i64 (0 - k_) < 0) then
          bif !decide (IntKind.wrap IntKind.i64 (64 - IntKind.wrap IntKind.i64 (0 - k_)) < 0) then
            some ((w_negative, Int.fdiv w_high (2 ^ min (Int.toNat (IntKind.wrap IntKind.i64 (0 - k_))) (IntKind.bits IntKind.u64)), IntKind.wrap IntKind.u64 (↑(BitVec.toNat (BitVec.ofInt (IntKind.bits IntKind.u64) (Int.fdiv w_low (2 ^ min (Int.toNat (IntKind.wrap IntKind.i64 (0 - k_))) (IntKind.bits IntKind.u64))) ||| BitVec.ofInt (IntKind.bits IntKind.u64) (IntKind.wrap IntKind.u64 (w_high * 2 ^ min (Int.toNat (IntKind.wrap IntKind.i64 (64 - IntKind.wrap IntKind.i64 (0 - k_)))) (IntKind.bits IntKind.u64))))) : Int)))
          else
            none
        else
          none
      else
        none
def s178 : Spec := ⟨false, [(.pair (.bool) (.pair (.int .u64) (.int .u64)), true)], true, .pair (.bool) (.pair (.int .u64) (.int .u64)), fun k xs => match xs with | [.agg [.bool w_negative, .int .u64 w_high, .int .u64 w_low], .int .i64 k_] => f178 k w_negative w_high w_low k_ | _ => none⟩
def env47 : List (FuncId × Spec) := (178, s178) :: env46
theorem v178 (k : Nat) (w_negative : Bool) (w_high : Int) (w_low : Int) (k_ : Int) : runFn ti (envOf env46) 63 [] (finT ti true Go.Proofs.Try.f178.results.toList [(.pair (.bool) (.pair (.int .u64) (.int .u64)), true)] (.pair (.bool) (.pair (.int .u64) (.int .u64)))) k (bodyOf Go.Proofs.Try.f178) (initS 0 [.agg [.bool w_negative, .int .u64 w_high, .int .u64 w_low], .int .i64 k_]) = f178 k w_negative w_high w_low k_ := by kernel_rfl
theorem m178 : Meets Go.Proofs.Try.prog 178 s178 := meets_of_run tiOk env46_ok mo Go.Proofs.Try.func178 (body := bodyOf Go.Proofs.Try.f178) (by kernel_rfl) (N := 63) (by kernel_rfl) (hs := []) (by
  intro k xs r h
  unfold s178 at h
  dsimp only at h
  split at h
  · exact ⟨Nat.le_of_ble_eq_true rfl, (v178 k _ _ _ _).trans h⟩
  · cases h)
theorem env47_ok : EnvOk Go.Proofs.Try.prog (envOf env47) := envOf_cons m178 Go.Proofs.Try.func178 (by kernel_rfl) (by kernel_rfl) env46_ok

-- impl.compareD
def f152 (k : Nat) (a_N : Int) (a_K : Int) (b_N : Int) (b_K : Int) : Option (Int) :=
  (f177 k a_N).bind fun r0 =>
  (f178 k r0.fst r0.snd.fst r0.snd.snd (IntKind.wrap IntKind.i64 ((bif decide (a_K < b_K) then b_K else a_K) - a_K))).bind fun r1 =>
  (f177 k b_N).bind fun r2 =>
  (f178 k r2.fst r2.snd.fst r2.snd.snd (IntKind.wrap IntKind.i64 ((bif decide (a_K < b_K) then b_K else a_K) - b_K))).bind fun r3 =>
  (f176 k r1.fst r1.snd.fst r1.snd.snd r3.fst r3.snd.fst r3.snd.snd).bind fun r4 =>
  some r4
def s152 : Spec := ⟨false, [(.int .i64, false)], true, .int .i64, fun k xs => match xs with | [.agg [.int .i64 a_N, .int .i64 a_K], .agg [.int .i64 b_N, .int .i64 b_K]] => f152 k a_N a_K b_N b_K | _ => none⟩
def env48 : List (FuncId × Spec) := (152, s152) :: env47
theorem v152 (k : Nat) (a_N : Int) (a_K : Int) (b_N : Int) (b_K : Int) : runFn ti (envOf env47) 28 [] (finT ti true Go.Proofs.Try.f152.results.toList [(.int .i64, false)] (.int .i64)) k (bodyOf Go.Proofs.Try.f152) (initS 0 [.agg [.int .i64 a_N, .int .i64 a_K], .agg [.int .i64 b_N, .int .i64 b_K]]) = f152 k a_N a_K b_N b_K := by kernel_rfl
theorem m152 : Meets Go.Proofs.Try.prog 152 s152 := meets_of_run tiOk env47_ok mo Go.Proofs.Try.func152 (body := bodyOf Go.Proofs.Try.f152) (by kernel_rfl) (N := 28) (by kernel_rfl) (hs := []) (by
  intro k xs r h
  unfold s152 at h
  dsimp only at h
  split at h
  · exact ⟨Nat.le_of_ble_eq_true rfl, (v152 k _ _ _ _).trans h⟩
  · cases h)
theorem env48_ok : EnvOk Go.Proofs.Try.prog (envOf env48) := envOf_cons m152 Go.Proofs.Try.func152 (by kernel_rfl) (by kernel_rfl) env47_ok

end Go.Proofs.YtnndolcjljhhcaaE
