/- Functions, by the engine; printed. -/
import Derived.Test.YtbaeikcfchiiaaaST3
set_option maxRecDepth 100000
set_option maxHeartbeats 4000000
set_option linter.unusedVariables false
namespace Go.Proofs.YtbaeikcfchiiaaaE
-- impl.isSmall$1
def f189 (k : Nat) (c : Int) : Option (Bool) :=
  (f128 k c (-1000) 1000).bind fun r0 =>
  some (!r0)
def s189 : Spec := ⟨false, [(.bool, false)], true, .bool, fun k xs => match xs with | [.int .i64 c] => f189 k c | _ => none⟩
def env37 : List (FuncId × Spec) := (189, s189) :: env36
theorem v189 (k : Nat) (c : Int) : runFn ti (envOf env36) 6 [] (finT ti true Go.Proofs.Try.f189.results.toList [(.bool, false)] (.bool)) k (bodyOf Go.Proofs.Try.f189) (initS 0 [.int .i64 c]) = f189 k c := by kernel_rfl
theorem m189 : Meets Go.Proofs.Try.prog 189 s189 := meets_of_run tiOk env36_ok mo Go.Proofs.Try.func189 (body := bodyOf Go.Proofs.Try.f189) (by kernel_rfl) (N := 6) (by kernel_rfl) (hs := []) (by
  intro k xs r h
  unfold s189 at h
  dsimp only at h
  split at h
  · exact ⟨Nat.le_of_ble_eq_true rfl, (v189 k _).trans h⟩
  · cases h)
theorem env37_ok : EnvOk Go.Proofs.Try.prog (envOf env37) := envOf_cons m189 Go.Proofs.Try.func189 (by kernel_rfl) (by kernel_rfl) env36_ok

-- slices.IndexFunc[[]int,int]
def h238_189 : Hints := [(1002, .lab [(0, .one (.frz 3 (Ty.int IntKind.i64))), (1, .one (.v)), (7, .one (.v)), (8, .one (.v))])]
def F238_189_1002 (k : Nat) (rec1002 : List Int → Int → Int → Option (Int)) (s : List Int) (t7 : Int) (t8 : Int) : Option (Int) :=
  bif decide (t8 < t7) then
    bif boundA t8 (List.length s) then
      (f189 k (List.getD s (Int.toNat t8) 0)).bind fun r0 =>
      bif r0 then
        some t8
      else
        rec1002 s t7 (IntKind.wrap IntKind.i64 (t8 + 1))
    else
      none
  else
    some (-1)
def F238_189 (k : Nat) (rec1002 : List Int → Int → Int → Option (Int)) (s : List (Int)) : Option (Int) :=
  rec1002 s ((↑(List.length s) : Int)) (0)
def l238_189 : Nat → (List Int → Int → Int → Option (Int))
  | 0 => fun _ _ _ => none
  | k + 1 => F238_189_1002 k (l238_189 k)
def f238_189 (k : Nat) (s : List (Int)) : Option (Int) := F238_189 k (l238_189 k) s
def s238 : Spec := ⟨false, [(.int .i64, false)], true, .int .i64, fun k xs => match xs with | [.slc 3 (.int .i64) s, .fn 189] => f238_189 k s | _ => none⟩
def env38 : List (FuncId × Spec) := (238, s238) :: env37
noncomputable abbrev x238_189 := exec ti (envOf env37) 19 h238_189 (finT ti true Go.Proofs.Try.f238.results.toList [(.int .i64, false)] (.int .i64))
noncomputable def k238_189_1002 : List It := stackAt [.r, .l, .r, .b, .lb none] (bodyOf Go.Proofs.Try.f238) []
def t238_189_1002 (s : List Int) (t7 : Int) (t8 : Int) : St := [(0, Cell.val (AVal.slc 3 (Ty.int IntKind.i64) s)), (2, Cell.val (AVal.fn 189)), (14, Cell.val (AVal.int IntKind.i64 t7)), (16, Cell.val (AVal.int IntKind.i64 t8))]
theorem e238_189_1002 (k : Nat) (s : List Int) (t7 : Int) (t8 : Int) : x238_189 (k + 1) k238_189_1002 (t238_189_1002 s t7 t8) = F238_189_1002 k (fun (s : List Int) (t7 : Int) (t8 : Int) => x238_189 k k238_189_1002 (t238_189_1002 s t7 t8)) s t7 t8 := by kernel_rfl
theorem q238_189 : ∀ k : Nat, (fun (s : List Int) (t7 : Int) (t8 : Int) => x238_189 k k238_189_1002 (t238_189_1002 s t7 t8)) = l238_189 k
  | 0 => rfl
  | k + 1 => by
    have h := q238_189 k
    show _ = F238_189_1002 k (l238_189 k)
    rw [← h]
    exact (funext fun s => funext fun t7 => funext fun t8 => e238_189_1002 k s t7 t8)
theorem w238_189 (k : Nat) (s : List (Int)) : runFn ti (envOf env37) 19 h238_189 (finT ti true Go.Proofs.Try.f238.results.toList [(.int .i64, false)] (.int .i64)) k (bodyOf Go.Proofs.Try.f238) (initS 0 [.slc 3 (.int .i64) s, .fn 189]) = F238_189 k (fun (s : List Int) (t7 : Int) (t8 : Int) => x238_189 k k238_189_1002 (t238_189_1002 s t7 t8)) s := by kernel_rfl
theorem v238_189 (k : Nat) (s : List (Int)) : runFn ti (envOf env37) 19 h238_189 (finT ti true Go.Proofs.Try.f238.results.toList [(.int .i64, false)] (.int .i64)) k (bodyOf Go.Proofs.Try.f238) (initS 0 [.slc 3 (.int .i64) s, .fn 189]) = f238_189 k s := by
  rw [w238_189]
  have h := q238_189 k
  unfold f238_189
  rw [← h]
theorem m238 : Meets Go.Proofs.Try.prog 238 s238 := meets_of_run tiOk env37_ok mo Go.Proofs.Try.func238 (body := bodyOf Go.Proofs.Try.f238) (by kernel_rfl) (N := 19) (by kernel_rfl) (hs := h238_189) (by
  intro k xs r h
  unfold s238 at h
  dsimp only at h
  split at h
  · exact ⟨Nat.le_of_ble_eq_true rfl, (v238_189 k _).trans h⟩
  · cases h)
theorem env38_ok : EnvOk Go.Proofs.Try.prog (envOf env38) := envOf_cons m238 Go.Proofs.Try.func238 (by kernel_rfl) (by kernel_rfl) env37_ok

-- slices.ContainsFunc[[]int,int]
def f188_189 (k : Nat) (s : List (Int)) : Option (Bool) :=
  (f238_189 k s).bind fun r0 =>
  some (decide (0 ≤ r0))
def s188 : Spec := ⟨false, [(.bool, false)], true, .bool, fun k xs => match xs with | [.slc 3 (.int .i64) s, .fn 189] => f188_189 k s | _ => none⟩
def env39 : List (FuncId × Spec) := (188, s188) :: env38
theorem v188_189 (k : Nat) (s : List (Int)) : runFn ti (envOf env38) 9 [] (finT ti true Go.Proofs.Try.f188.results.toList [(.bool, false)] (.bool)) k (bodyOf Go.Proofs.Try.f188) (initS 0 [.slc 3 (.int .i64) s, .fn 189]) = f188_189 k s := by kernel_rfl
theorem m188 : Meets Go.Proofs.Try.prog 188 s188 := meets_of_run tiOk env38_ok mo Go.Proofs.Try.func188 (body := bodyOf Go.Proofs.Try.f188) (by kernel_rfl) (N := 9) (by kernel_rfl) (hs := []) (by
  intro k xs r h
  unfold s188 at h
  dsimp only at h
  split at h
  · exact ⟨Nat.le_of_ble_eq_true rfl, (v188_189 k _).trans h⟩
  · cases h)
theorem env39_ok : EnvOk Go.Proofs.Try.prog (envOf env39) := envOf_cons m188 Go.Proofs.Try.func188 (by kernel_rfl) (by kernel_rfl) env38_ok

-- impl.isSmall
def f127 (k : Nat) (p : List (Int)) : Option (Bool) :=
  (f152 k p).bind fun r0 =>
  bif r0 then
    (f128 k (↑(List.length p) : Int) 1 6).bind fun r1 =>
    bif r1 then
      (f188_189 k p).bind fun r2 =>
      some (!r2)
    else
      some false
  else
    some false
def s127 : Spec := ⟨false, [(.bool, false)], true, .bool, fun k xs => match xs with | [.slc 3 (.int .i64) p] => f127 k p | _ => none⟩
def env40 : List (FuncId × Spec) := (127, s127) :: env39
theorem v127 (k : Nat) (p : List (Int)) : runFn ti (envOf env39) 15 [] (finT ti true Go.Proofs.Try.f127.results.toList [(.bool, false)] (.bool)) k (bodyOf Go.Proofs.Try.f127) (initS 0 [.slc 3 (.int .i64) p]) = f127 k p := by kernel_rfl
theorem m127 : Meets Go.Proofs.Try.prog 127 s127 := meets_of_run tiOk env39_ok mo Go.Proofs.Try.func127 (body := bodyOf Go.Proofs.Try.f127) (by kernel_rfl) (N := 15) (by kernel_rfl) (hs := []) (by
  intro k xs r h
  unfold s127 at h
  dsimp only at h
  split at h
  · exact ⟨Nat.le_of_ble_eq_true rfl, (v127 k _).trans h⟩
  · cases h)
theorem env40_ok : EnvOk Go.Proofs.Try.prog (envOf env40) := envOf_cons m127 Go.Proofs.Try.func127 (by kernel_rfl) (by kernel_rfl) env39_ok

-- impl.isFamily
def f73 (k : Nat) (p : List (Int)) (q : List (Int)) (fine : Int) : Option (Bool) :=
  (f127 k p).bind fun r0 =>
  bif r0 then
    (f127 k q).bind fun r1 =>
    bif r1 then
      (f128 k fine 0 4).bind fun r2 =>
      some r2
    else
      some false
  else
    some false
def s73 : Spec := ⟨false, [(.bool, false)], true, .bool, fun k xs => match xs with | [.slc 3 (.int .i64) p, .slc 3 (.int .i64) q, .int .i64 fine] => f73 k p q fine | _ => none⟩
def env41 : List (FuncId × Spec) := (73, s73) :: env40
theorem v73 (k : Nat) (p : List (Int)) (q : List (Int)) (fine : Int) : runFn ti (envOf env40) 17 [] (finT ti true Go.Proofs.Try.f73.results.toList [(.bool, false)] (.bool)) k (bodyOf Go.Proofs.Try.f73) (initS 0 [.slc 3 (.int .i64) p, .slc 3 (.int .i64) q, .int .i64 fine]) = f73 k p q fine := by kernel_rfl
theorem m73 : Meets Go.Proofs.Try.prog 73 s73 := meets_of_run tiOk env40_ok mo Go.Proofs.Try.func73 (body := bodyOf Go.Proofs.Try.f73) (by kernel_rfl) (N := 17) (by kernel_rfl) (hs := []) (by
  intro k xs r h
  unfold s73 at h
  dsimp only at h
  split at h
  · exact ⟨Nat.le_of_ble_eq_true rfl, (v73 k _ _ _).trans h⟩
  · cases h)
theorem env41_ok : EnvOk Go.Proofs.Try.prog (envOf env41) := envOf_cons m73 Go.Proofs.Try.func73 (by kernel_rfl) (by kernel_rfl) env40_ok

-- impl.isPlaces
def f239 (k : Nat) (places : Int) : Option (Bool) :=
  (f128 k places 0 24).bind fun r0 =>
  some r0
def s239 : Spec := ⟨false, [(.bool, false)], true, .bool, fun k xs => match xs with | [.int .i64 places] => f239 k places | _ => none⟩
def env42 : List (FuncId × Spec) := (239, s239) :: env41
theorem v239 (k : Nat) (places : Int) : runFn ti (envOf env41) 5 [] (finT ti true Go.Proofs.Try.f239.results.toList [(.bool, false)] (.bool)) k (bodyOf Go.Proofs.Try.f239) (initS 0 [.int .i64 places]) = f239 k places := by kernel_rfl
theorem m239 : Meets Go.Proofs.Try.prog 239 s239 := meets_of_run tiOk env41_ok mo Go.Proofs.Try.func239 (body := bodyOf Go.Proofs.Try.f239) (by kernel_rfl) (N := 5) (by kernel_rfl) (hs := []) (by
  intro k xs r h
  unfold s239 at h
  dsimp only at h
  split at h
  · exact ⟨Nat.le_of_ble_eq_true rfl, (v239 k _).trans h⟩
  · cases h)
theorem env42_ok : EnvOk Go.Proofs.Try.prog (envOf env42) := envOf_cons m239 Go.Proofs.Try.func239 (by kernel_rfl) (by kernel_rfl) env41_ok

-- impl.isDyadic
def f190 (k : Nat) (a_N : Int) (a_K : Int) : Option (Bool) :=
  (f239 k a_K).bind fun r0 =>
  bif r0 then
    (f128 k a_N (-1099511627776) 1099511627776).bind fun r1 =>
    bif r1 then
      bif decide (a_K = 0) then
        some true
      else
        some (!decide (Int.tmod a_N 2 = 0))
    else
      some false
  else
    some false
def s190 : Spec := ⟨false, [(.bool, false)], true, .bool, fun k xs => match xs with | [.agg [.int .i64 a_N, .int .i64 a_K]] => f190 k a_N a_K | _ => none⟩
def env43 : List (FuncId × Spec) := (190, s190) :: env42
theorem v190 (k : Nat) (a_N : Int) (a_K : Int) : runFn ti (envOf env42) 22 [] (finT ti true Go.Proofs.Try.f190.results.toList [(.bool, false)] (.bool)) k (bodyOf Go.Proofs.Try.f190) (initS 0 [.agg [.int .i64 a_N, .int .i64 a_K]]) = f190 k a_N a_K := by kernel_rfl
theorem m190 : Meets Go.Proofs.Try.prog 190 s190 := meets_of_run tiOk env42_ok mo Go.Proofs.Try.func190 (body := bodyOf Go.Proofs.Try.f190) (by kernel_rfl) (N := 22) (by kernel_rfl) (hs := []) (by
  intro k xs r h
  unfold s190 at h
  dsimp only at h
  split at h
  · exact ⟨Nat.le_of_ble_eq_true rfl, (v190 k _ _).trans h⟩
  · cases h)
theorem env43_ok : EnvOk Go.Proofs.Try.prog (envOf env43) := envOf_cons m190 Go.Proofs.Try.func190 (by kernel_rfl) (by kernel_rfl) env42_ok

-- impl.size
def f234 (k : Nat) (n : Int) : Option (Int) :=
  bif decide (n < 0) then
    some (IntKind.wrap IntKind.u64 (IntKind.wrap IntKind.i64 (0 - n)))
  else
    some (IntKind.wrap IntKind.u64 n)
def s234 : Spec := ⟨false, [(.int .u64, false)], true, .int .u64, fun k xs => match xs with | [.int .i64 n] => f234 k n | _ => none⟩
def env44 : List (FuncId × Spec) := (234, s234) :: env43
theorem v234 (k : Nat) (n : Int) : runFn ti (envOf env43) 10 [] (finT ti true Go.Proofs.Try.f234.results.toList [(.int .u64, false)] (.int .u64)) k (bodyOf Go.Proofs.Try.f234) (initS 0 [.int .i64 n]) = f234 k n := by kernel_rfl
theorem m234 : Meets Go.Proofs.Try.prog 234 s234 := meets_of_run tiOk env43_ok mo Go.Proofs.Try.func234 (body := bodyOf Go.Proofs.Try.f234) (by kernel_rfl) (N := 10) (by kernel_rfl) (hs := []) (by
  intro k xs r h
  unfold s234 at h
  dsimp only at h
  split at h
  · exact ⟨Nat.le_of_ble_eq_true rfl, (v234 k _).trans h⟩
  · cases h)
theorem env44_ok : EnvOk Go.Proofs.Try.prog (envOf env44) := envOf_cons m234 Go.Proofs.Try.func234 (by kernel_rfl) (by kernel_rfl) env43_ok

-- impl.wideOf
def f173 (k : Nat) (n : Int) : Option (Bool × Int × Int) :=
  (f234 k n).bind fun r0 =>
  some ((decide (n < 0), 0, r0))
def s173 : Spec := ⟨false, [(.pair (.bool) (.pair (.int .u64) (.int .u64)), true)], true, .pair (.bool) (.pair (.int .u64) (.int .u64)), fun k xs => match xs with | [.int .i64 n] => f173 k n | _ => none⟩
def env45 : List (FuncId × Spec) := (173, s173) :: env44
theorem v173 (k : Nat) (n : Int) : runFn ti (envOf env44) 8 [] (finT ti true Go.Proofs.Try.f173.results.toList [(.pair (.bool) (.pair (.int .u64) (.int .u64)), true)] (.pair (.bool) (.pair (.int .u64) (.int .u64)))) k (bodyOf Go.Proofs.Try.f173) (initS 0 [.int .i64 n]) = f173 k n := by kernel_rfl
theorem m173 : Meets Go.Proofs.Try.prog 173 s173 := meets_of_run tiOk env44_ok mo Go.Proofs.Try.func173 (body := bodyOf Go.Proofs.Try.f173) (by kernel_rfl) (N := 8) (by kernel_rfl) (hs := []) (by
  intro k xs r h
  unfold s173 at h
  dsimp only at h
  split at h
  · exact ⟨Nat.le_of_ble_eq_true rfl, (v173 k _).trans h⟩
  · cases h)
theorem env45_ok : EnvOk Go.Proofs.Try.prog (envOf env45) := envOf_cons m173 Go.Proofs.Try.func173 (by kernel_rfl) (by kernel_rfl) env44_ok

-- impl.wide).shift
def f196 (k : Nat) (w_negative : Bool) (w_high : Int) (w_low : Int) (k_ : Int) : Option (Bool × Int × Int) :=
  bif decide (0 ≤ k_) then
    bif decide (64 ≤ k_) then
      bif !decide (IntKind.wrap IntKind.i64 (k_ - 64) < 0) then
        some ((w_negative, IntKind.wrap IntKind.u64 (w_low * 2 ^ min (Int.toNat (IntKind.wrap IntKind.i64 (k_ - 64))) (IntKind.bits IntKind.u64)), 0))
      else
        none
    else
      bif !decide (k_ < 0) then
        bif !decide (IntKind.wrap IntKind.i64 (64 - k_) < 0) then
          bif !decide (k_ < 0) then
            some ((w_negative, IntKind.wrap IntKind.u64 (↑(BitVec.toNat (BitVec.ofInt (IntKind.bits IntKind.u64) (IntKind.wrap IntKind.u64 (w_high * 2 ^ min (Int.toNat k_) (IntKind.bits IntKind.u64))) ||| BitVec.ofInt (IntKind.bits IntKind.u64) (Int.fdiv w_low (2 ^ min (Int.toNat (IntKind.wrap IntKind.i64 (64 - k_))) (IntKind.bits IntKind.u64))))) : Int), IntKind.wrap IntKind.u64 (w_low * 2 ^ min (Int.toNat k_) (IntKind.bits IntKind.u64))))
          else
            none
        else
          none
      else
        none
  else
    bif decide (64 ≤ IntKind.wrap IntKind.i64 (0 - k_)) then
      bif !decide (IntKind.wrap IntKind.i64 (IntKind.wrap IntKind.i64 (0 - k_) - 64) < 0) then
        some ((w_negative, 0, Int.fdiv w_high (2 ^ min (Int.toNat (IntKind.wrap IntKind.i64 (IntKind.wrap IntKind.i64 (0 - k_) - 64))) (IntKind.bits IntKind.u64))))
      else
        none
    else
      bif !decide (IntKind.wrap IntKind.i64 (0 - k_) < 0) then
        bif !decide (IntKind.wrap IntKind.i64 (0 - k_) < 0) then
          bif !decide (IntKind.wrap IntKind.i64 (64 - IntKind.wrap IntKind.i64 (0 - k_)) < 0) then
            some ((w_negative, Int.fdiv w_high (2 ^ min (Int.toNat (IntKind.wrap IntKind.i64 (0 - k_))) (IntKind.bits IntKind.u64)), IntKind.wrap IntKind.u64 (↑(BitVec.toNat (BitVec.ofInt (IntKind.bits IntKind.u64) (Int.fdiv w_low (2 ^ min (Int.toNat (IntKind.wrap IntKind.i64 (0 - k_))) (IntKind.bits IntKind.u64))) ||| BitVec.ofInt (IntKind.bits IntKind.u64) (IntKind.wrap IntKind.u64 (w_high * 2 ^ min (Int.toNat (IntKind.wrap IntKind.i64 (64 - IntKind.wrap IntKind.i64 (0 - k_)))) (IntKind.bits IntKind.u64))))) : Int)))
          else
            none
        else
          none
      else
        none
def s196 : Spec := ⟨false, [(.pair (.bool) (.pair (.int .u64) (.int .u64)), true)], true, .pair (.bool) (.pair (.int .u64) (.int .u64)), fun k xs => match xs with | [.agg [.bool w_negative, .int .u64 w_high, .int .u64 w_low], .int .i64 k_] => f196 k w_negative w_high w_low k_ | _ => none⟩
def env46 : List (FuncId × Spec) := (196, s196) :: env45
theorem v196 (k : Nat) (w_negative : Bool) (w_high : Int) (w_low : Int) (k_ : Int) : runFn ti (envOf env45) 63 [] (finT ti true Go.Proofs.Try.f196.results.toList [(.pair (.bool) (.pair (.int .u64) (.int .u64)), true)] (.pair (.bool) (.pair (.int .u64) (.int .u64)))) k (bodyOf Go.Proofs.Try.f196) (initS 0 [.agg [.bool w_negative, .int .u64 w_high, .int .u64 w_low], .int .i64 k_]) = f196 k w_negative w_high w_low k_ := by kernel_rfl
theorem m196 : Meets Go.Proofs.Try.prog 196 s196 := meets_of_run tiOk env45_ok mo Go.Proofs.Try.func196 (body := bodyOf Go.Proofs.Try.f196) (by kernel_rfl) (N := 63) (by kernel_rfl) (hs := []) (by
  intro k xs r h
  unfold s196 at h
  dsimp only at h
  split at h
  · exact ⟨Nat.le_of_ble_eq_true rfl, (v196 k _ _ _ _).trans h⟩
  · cases h)
theorem env46_ok : EnvOk Go.Proofs.Try.prog (envOf env46) := envOf_cons m196 Go.Proofs.Try.func196 (by kernel_rfl) (by kernel_rfl) env45_ok

-- impl.wide).isZero
def f235 (k : Nat) (w_negative : Bool) (w_high : Int) (w_low : Int) : Option (Bool) :=
  bif decide (w_high = 0) then
    some (decide (w_low = 0))
  else
    some false
def s235 : Spec := ⟨false, [(.bool, false)], true, .bool, fun k xs => match xs with | [.agg [.bool w_negative, .int .u64 w_high, .int .u64 w_low]] => f235 k w_negative w_high w_low | _ => none⟩
def env47 : List (FuncId × Spec) := (235, s235) :: env46
theorem v235 (k : Nat) (w_negative : Bool) (w_high : Int) (w_low : Int) : runFn ti (envOf env46) 11 [] (finT ti true Go.Proofs.Try.f235.results.toList [(.bool, false)] (.bool)) k (bodyOf Go.Proofs.Try.f235) (initS 0 [.agg [.bool w_negative, .int .u64 w_high, .int .u64 w_low]]) = f235 k w_negative w_high w_low := by kernel_rfl
theorem m235 : Meets Go.Proofs.Try.prog 235 s235 := meets_of_run tiOk env46_ok mo Go.Proofs.Try.func235 (body := bodyOf Go.Proofs.Try.f235) (by kernel_rfl) (N := 11) (by kernel_rfl) (hs := []) (by
  intro k xs r h
  unfold s235 at h
  dsimp only at h
  split at h
  · exact ⟨Nat.le_of_ble_eq_true rfl, (v235 k _ _ _).trans h⟩
  · cases h)
theorem env47_ok : EnvOk Go.Proofs.Try.prog (envOf env47) := envOf_cons m235 Go.Proofs.Try.func235 (by kernel_rfl) (by kernel_rfl) env46_ok

-- cmp.Or[int]
def h275 : Hints := [(1003, .lab [(3, .one (.v)), (6, .one (.frz 3 (Ty.int IntKind.i64))), (7, .one (.v)), (8, .one (.v))])]
def F275_1003 (k : Nat) (rec1003 : Int → List Int → Int → Int → Option (Int)) (zero : Int) (t6 : List Int) (t7 : Int) (t8 : Int) : Option (Int) :=
  bif decide (t8 < t7) then
    bif boundA t8 (List.length t6) then
      bif !decide (List.getD t6 (Int.toNat t8) 0 = zero) then
        some (List.getD t6 (Int.toNat t8) 0)
      else
        rec1003 zero t6 t7 (IntKind.wrap IntKind.i64 (t8 + 1))
    else
      none
  else
    some zero
def F275 (k : Nat) (rec1003 : Int → List Int → Int → Int → Option (Int)) (vals : List (Int)) : Option (Int) :=
  rec1003 (0) vals ((↑(List.length vals) : Int)) (0)
def l275 : Nat → (Int → List Int → Int → Int → Option (Int))
  | 0 => fun _ _ _ _ => none
  | k + 1 => F275_1003 k (l275 k)
def f275 (k : Nat) (vals : List (Int)) : Option (Int) := F275 k (l275 k) vals
def s275 : Spec := ⟨false, [(.int .i64, false)], true, .int .i64, fun k xs => match xs with | [.slc 3 (.int .i64) vals] => f275 k vals | _ => none⟩
def env48 : List (FuncId × Spec) := (275, s275) :: env47
noncomputable abbrev x275 := exec ti (envOf env47) 18 h275 (finT ti true Go.Proofs.Try.f275.results.toList [(.int .i64, false)] (.int .i64))
noncomputable def k275_1003 : List It := stackAt [.r, .r, .l, .r, .b, .lb none] (bodyOf Go.Proofs.Try.f275) []
def t275_1003 (zero : Int) (t6 : List Int) (t7 : Int) (t8 : Int) : St := [(6, Cell.val (AVal.int IntKind.i64 zero)), (12, Cell.val (AVal.slc 3 (Ty.int IntKind.i64) t6)), (14, Cell.val (AVal.int IntKind.i64 t7)), (16, Cell.val (AVal.int IntKind.i64 t8))]
theorem e275_1003 (k : Nat) (zero : Int) (t6 : List Int) (t7 : Int) (t8 : Int) : x275 (k + 1) k275_1003 (t275_1003 zero t6 t7 t8) = F275_1003 k (fun (zero : Int) (t6 : List Int) (t7 : Int) (t8 : Int) => x275 k k275_1003 (t275_1003 zero t6 t7 t8)) zero t6 t7 t8 := by kernel_rfl
theorem q275 : ∀ k : Nat, (fun (zero : Int) (t6 : List Int) (t7 : Int) (t8 : Int) => x275 k k275_1003 (t275_1003 zero t6 t7 t8)) = l275 k
  | 0 => rfl
  | k + 1 => by
    have h := q275 k
    show _ = F275_1003 k (l275 k)
    rw [← h]
    exact (funext fun zero => funext fun t6 => funext fun t7 => funext fun t8 => e275_1003 k zero t6 t7 t8)
theorem w275 (k : Nat) (vals : List (Int)) : runFn ti (envOf env47) 18 h275 (finT ti true Go.Proofs.Try.f275.results.toList [(.int .i64, false)] (.int .i64)) k (bodyOf Go.Proofs.Try.f275) (initS 0 [.slc 3 (.int .i64) vals]) = F275 k (fun (zero : Int) (t6 : List Int) (t7 : Int) (t8 : Int) => x275 k k275_1003 (t275_1003 zero t6 t7 t8)) vals := by kernel_rfl
theorem v275 (k : Nat) (vals : List (Int)) : runFn ti (envOf env47) 18 h275 (finT ti true Go.Proofs.Try.f275.results.toList [(.int .i64, false)] (.int .i64)) k (bodyOf Go.Proofs.Try.f275) (initS 0 [.slc 3 (.int .i64) vals]) = f275 k vals := by
  rw [w275]
  have h := q275 k
  unfold f275
  rw [← h]
theorem m275 : Meets Go.Proofs.Try.prog 275 s275 := meets_of_run tiOk env47_ok mo Go.Proofs.Try.func275 (body := bodyOf Go.Proofs.Try.f275) (by kernel_rfl) (N := 18) (by kernel_rfl) (hs := h275) (by
  intro k xs r h
  unfold s275 at h
  dsimp only at h
  split at h
  · exact ⟨Nat.le_of_ble_eq_true rfl, (v275 k _).trans h⟩
  · cases h)
theorem env48_ok : EnvOk Go.Proofs.Try.prog (envOf env48) := envOf_cons m275 Go.Proofs.Try.func275 (by kernel_rfl) (by kernel_rfl) env47_ok

end Go.Proofs.YtbaeikcfchiiaaaE
