/- Functions, by the engine; printed. -/
import Derived.Test.YtkahcjnkmbbplaaCN5
set_option maxRecDepth 100000
set_option maxHeartbeats 4000000
set_option linter.unusedVariables false
namespace Go.Proofs.YtkahcjnkmbbplaaE
-- impl.wideOf
noncomputable def f87 (k : Nat) (n : Int) : Option (Bool × Int × Int) :=
  (f97 k n).bind fun r0 =>
  some ((decide (n < 0), 0, r0))
noncomputable def s87 : Spec := ⟨false, [(.pair (.bool) (.pair (.int .u64) (.int .u64)), true)], true, .pair (.bool) (.pair (.int .u64) (.int .u64)), fun k xs => match xs with | [.int .i64 n] => f87 k n | _ => none, false, none⟩
noncomputable def env61 : List (FuncId × Spec) := (87, s87) :: env60
theorem v87 (k : Nat) (n : Int) : runFn ti (envOf env60) 8 [] (finT ti true Go.Proofs.Try.f87.results.toList [(.pair (.bool) (.pair (.int .u64) (.int .u64)), true)] (.pair (.bool) (.pair (.int .u64) (.int .u64)))) k (bodyOf Go.Proofs.Try.f87) (initS 0 [.int .i64 n]) = f87 k n := by kernel_rfl
theorem m87 : Meets Go.Proofs.Try.prog 87 s87 := meets_of_run tiOk env60_ok mo Go.Proofs.Try.func87 (body := bodyOf Go.Proofs.Try.f87) (by kernel_rfl) (N := 8) (by kernel_rfl) (hs := []) (by
  intro k xs r h
  unfold s87 at h
  dsimp only at h
  split at h
  · exact ⟨Nat.le_of_ble_eq_true rfl, (v87 k _).trans h⟩
  · cases h)
theorem env61_ok : EnvOk Go.Proofs.Try.prog (envOf env61) := envOf_cons m87 Go.Proofs.Try.func87 (by kernel_rfl) (by kernel_rfl) env60_ok

-- impl.Box).length
noncomputable def f89 (k : Nat) (b : Int × (List (Int)) × List (Int)) (i : Int) : Option (Int) :=
  bif boundA i (List.length b.snd.snd) then
    bif boundA i (List.length b.snd.fst) then
      some (IntKind.wrap IntKind.i64 (List.getD b.snd.snd (Int.toNat i) 0 - List.getD b.snd.fst (Int.toNat i) 0))
    else
      none
  else
    none
noncomputable def s89 : Spec := ⟨false, [(.int .i64, false)], true, .int .i64, fun k xs => match xs with | [.fptr (.pair (.int .i64) (.pair (.slice 3 (.int .i64)) (.slice 3 (.int .i64)))) b, .int .i64 i] => f89 k b i | _ => none, false, none⟩
noncomputable def env62 : List (FuncId × Spec) := (89, s89) :: env61
theorem v89 (k : Nat) (b : Int × (List (Int)) × List (Int)) (i : Int) : runFn ti (envOf env61) 20 [] (finT ti true Go.Proofs.Try.f89.results.toList [(.int .i64, false)] (.int .i64)) k (bodyOf Go.Proofs.Try.f89) (initS 0 [.fptr (.pair (.int .i64) (.pair (.slice 3 (.int .i64)) (.slice 3 (.int .i64)))) b, .int .i64 i]) = f89 k b i := by kernel_rfl
theorem m89 : Meets Go.Proofs.Try.prog 89 s89 := meets_of_run tiOk env61_ok mo Go.Proofs.Try.func89 (body := bodyOf Go.Proofs.Try.f89) (by kernel_rfl) (N := 20) (by kernel_rfl) (hs := []) (by
  intro k xs r h
  unfold s89 at h
  dsimp only at h
  split at h
  · exact ⟨Nat.le_of_ble_eq_true rfl, (v89 k _ _).trans h⟩
  · cases h)
theorem env62_ok : EnvOk Go.Proofs.Try.prog (envOf env62) := envOf_cons m89 Go.Proofs.Try.func89 (by kernel_rfl) (by kernel_rfl) env61_ok

-- impl.wide).shift
noncomputable def f88 (k : Nat) (w_negative : Bool) (w_high : Int) (w_low : Int) (k_ : Int) : Option (Bool × Int × Int) :=
  bif decide (0 ≤ k_) then
    bif decide (64 ≤ k_) then
      bif !decide (IntKind.wrap IntKind.i64 (k_ - 64) < 0) then
        some ((w_negative, IntKind.wrap IntKind.u64 (w_low * 2 ^ min (Int.toNat (IntKind.wrap IntKind.i64 (k_ - 64))) (IntKind.bits IntKind.u64)), 0))
      else
        none
    else
      bif !decide (k_ < 0) then
        bif !decide (IntKind.wrap IntKind.i64 (64 - k_) < 0) then
          bif !decide (k_ < 0) then
            some ((w_negative, IntKind.wrap IntKind.u64 (↑(BitVec.toNat (BitVec.ofInt (IntKind.bits IntKind.u64) (IntKind.wrap IntKind.u64 (w_high * 2 ^ min (Int.toNat k_) (IntKind.bits IntKind.u64))) ||| BitVec.ofInt (IntKind.bits IntKind.u64) (Int.fdiv w_low (2 ^ min (Int.toNat (IntKind.wrap IntKind.i64 (64 - k_))) (IntKind.bits IntKind.u64))))) : Int), IntKind.wrap IntKind.u64 (w_low * 2 ^ min (Int.toNat k_) (IntKind.bits IntKind.u64))))
          else
            none
        else
          none
      else
        none
  else
    bif decide (64 ≤ IntKind.wrap IntKind.i64 (0 - k_)) then
      bif !decide (IntKind.wrap IntKind.i64 (IntKind.wrap IntKind.i64 (0 - k_) - 64) < 0) then
        some ((w_negative, 0, Int.fdiv w_high (2 ^ min (Int.toNat (IntKind.wrap IntKind.i64 (IntKind.wrap IntKind.i64 (0 - k_) - 64))) (IntKind.bits IntKind.u64))))
      else
        none
    else
      bif !decide (IntKind.wrap IntKind.i64 (0 - k_) < 0) then
        bif !decide (IntKind.wrap IntKind.i64 (0 - k_) < 0) then
          bif !decide (IntKind.wrap IntKind.i64 (64 - IntKind.wrap IntKind.i64 (0 - k_)) < 0) then
            some ((w_negative, Int.fdiv w_high (2 ^ min (Int.toNat (IntKind.wrap IntKind.i64 (0 - k_))) (IntKind.bits IntKind.u64)), IntKind.wrap IntKind.u64 (↑(BitVec.toNat (BitVec.ofInt (IntKind.bits IntKind.u64) (Int.fdiv w_low (2 ^ min (Int.toNat (IntKind.wrap IntKind.i64 (0 - k_))) (IntKind.bits IntKind.u64))) ||| BitVec.ofInt (IntKind.bits IntKind.u64) (IntKind.wrap IntKind.u64 (w_high * 2 ^ min (Int.toNat (IntKind.wrap IntKind.i64 (64 - IntKind.wrap IntKind.i64 (0 - k_)))) (IntKind.bits IntKind.u64))))) : Int)))
          else
            none
        else
          none
      else
        none
noncomputable def s88 : Spec := ⟨false, [(.pair (.bool) (.pair (.int .u64) (.int .u64)), true)], true, .pair (.bool) (.pair (.int .u64) (.int .u64)), fun k xs => match xs with | [.agg [.bool w_negative, .int .u64 w_high, .int .u64 w_low], .int .i64 k_] => f88 k w_negative w_high w_low k_ | _ => none, false, none⟩
noncomputable def env63 : List (FuncId × Spec) := (88, s88) :: env62
theorem v88 (k : Nat) (w_negative : Bool) (w_high : Int) (w_low : Int) (k_ : Int) : runFn ti (envOf env62) 63 [] (finT ti true Go.Proofs.Try.f88.results.toList [(.pair (.bool) (.pair (.int .u64) (.int .u64)), true)] (.pair (.bool) (.pair (.int .u64) (.int .u64)))) k (bodyOf Go.Proofs.Try.f88) (initS 0 [.agg [.bool w_negative, .int .u64 w_high, .int .u64 w_low], .int .i64 k_]) = f88 k w_negative w_high w_low k_ := by kernel_rfl
theorem m88 : Meets Go.Proofs.Try.prog 88 s88 := meets_of_run tiOk env62_ok mo Go.Proofs.Try.func88 (body := bodyOf Go.Proofs.Try.f88) (by kernel_rfl) (N := 63) (by kernel_rfl) (hs := []) (by
  intro k xs r h
  unfold s88 at h
  dsimp only at h
  split at h
  · exact ⟨Nat.le_of_ble_eq_true rfl, (v88 k _ _ _ _).trans h⟩
  · cases h)
theorem env63_ok : EnvOk Go.Proofs.Try.prog (envOf env63) := envOf_cons m88 Go.Proofs.Try.func88 (by kernel_rfl) (by kernel_rfl) env62_ok

-- impl.wide).isZero
noncomputable def f113 (k : Nat) (w_negative : Bool) (w_high : Int) (w_low : Int) : Option (Bool) :=
  bif decide (w_high = 0) then
    some (decide (w_low = 0))
  else
    some false
noncomputable def s113 : Spec := ⟨false, [(.bool, false)], true, .bool, fun k xs => match xs with | [.agg [.bool w_negative, .int .u64 w_high, .int .u64 w_low]] => f113 k w_negative w_high w_low | _ => none, false, none⟩
noncomputable def env64 : List (FuncId × Spec) := (113, s113) :: env63
theorem v113 (k : Nat) (w_negative : Bool) (w_high : Int) (w_low : Int) : runFn ti (envOf env63) 11 [] (finT ti true Go.Proofs.Try.f113.results.toList [(.bool, false)] (.bool)) k (bodyOf Go.Proofs.Try.f113) (initS 0 [.agg [.bool w_negative, .int .u64 w_high, .int .u64 w_low]]) = f113 k w_negative w_high w_low := by kernel_rfl
theorem m113 : Meets Go.Proofs.Try.prog 113 s113 := meets_of_run tiOk env63_ok mo Go.Proofs.Try.func113 (body := bodyOf Go.Proofs.Try.f113) (by kernel_rfl) (N := 11) (by kernel_rfl) (hs := []) (by
  intro k xs r h
  unfold s113 at h
  dsimp only at h
  split at h
  · exact ⟨Nat.le_of_ble_eq_true rfl, (v113 k _ _ _).trans h⟩
  · cases h)
theorem env64_ok : EnvOk Go.Proofs.Try.prog (envOf env64) := envOf_cons m113 Go.Proofs.Try.func113 (by kernel_rfl) (by kernel_rfl) env63_ok

-- impl.wide).fit
def h90 : Hints := [(1003, .lab [(1, .one (.v)), (2, .box 112 [.v, .v, .v]), (4, .box 68 [.v, .v])])]
noncomputable def F90_1003 (k : Nat) (rec1003 : Int → Bool → Int → Int → Int → Int → Option ((Int × Int) × Bool)) (k_ : Int) (ws_0 : Bool) (ws_1 : Int) (ws_2 : Int) (t4s_0 : Int) (t4s_1 : Int) : Option ((Int × Int) × Bool) :=
  bif decide (0 < k_) then
    bif decide (Int.tmod ws_2 2 = 0) then
      rec1003 (IntKind.wrap IntKind.i64 (k_ - 1)) ws_0 (Int.fdiv ws_1 (2 ^ min (Int.toNat (IntKind.wrap IntKind.i64 (0 - -1))) (IntKind.bits IntKind.u64))) (IntKind.wrap IntKind.u64 (↑(BitVec.toNat (BitVec.ofInt (IntKind.bits IntKind.u64) (Int.fdiv ws_2 (2 ^ min (Int.toNat (IntKind.wrap IntKind.i64 (0 - -1))) (IntKind.bits IntKind.u64))) ||| BitVec.ofInt (IntKind.bits IntKind.u64) (IntKind.wrap IntKind.u64 (ws_1 * 2 ^ min (Int.toNat (IntKind.wrap IntKind.i64 (64 - IntKind.wrap IntKind.i64 (0 - -1)))) (IntKind.bits IntKind.u64))))) : Int)) t4s_0 t4s_1
    else
      bif decide (24 < k_) then
        some (((0, 0), false))
      else
        bif decide (0 < ws_1) then
          some (((0, 0), false))
        else
          bif decide (1099511627776 < ws_2) then
            some (((0, 0), false))
          else
            bif ws_0 then
              some (((IntKind.wrap IntKind.i64 (0 - IntKind.wrap IntKind.i64 ws_2), k_), true))
            else
              some (((IntKind.wrap IntKind.i64 ws_2, k_), true))
  else
    bif decide (24 < k_) then
      some (((0, 0), false))
    else
      bif decide (0 < ws_1) then
        some (((0, 0), false))
      else
        bif decide (1099511627776 < ws_2) then
          some (((0, 0), false))
        else
          bif ws_0 then
            some (((IntKind.wrap IntKind.i64 (0 - IntKind.wrap IntKind.i64 ws_2), k_), true))
          else
            some (((IntKind.wrap IntKind.i64 ws_2, k_), true))
noncomputable def F90 (k : Nat) (rec1003 : Int → Bool → Int → Int → Int → Int → Option ((Int × Int) × Bool)) (w_negative : Bool) (w_high : Int) (w_low : Int) (k_ : Int) : Option ((Int × Int) × Bool) :=
  (f113 k w_negative w_high w_low).bind fun r0 =>
  bif r0 then
    some (((0, 0), true))
  else
    rec1003 k_ w_negative w_high w_low (0) (0)
noncomputable def l90 : Nat → (Int → Bool → Int → Int → Int → Int → Option ((Int × Int) × Bool))
  | 0 => fun _ _ _ _ _ _ => none
  | k + 1 => F90_1003 k (l90 k)
noncomputable def f90 (k : Nat) (w_negative : Bool) (w_high : Int) (w_low : Int) (k_ : Int) : Option ((Int × Int) × Bool) := F90 k (l90 k) w_negative w_high w_low k_
noncomputable def s90 : Spec := ⟨false, [(.pair (.int .i64) (.int .i64), true), (.bool, false)], true, .pair (.pair (.int .i64) (.int .i64)) (.bool), fun k xs => match xs with | [.agg [.bool w_negative, .int .u64 w_high, .int .u64 w_low], .int .i64 k_] => f90 k w_negative w_high w_low k_ | _ => none, false, none⟩
noncomputable def env65 : List (FuncId × Spec) := (90, s90) :: env64
noncomputable abbrev x90 := exec ti (envOf env64) 45 h90 (finT ti true Go.Proofs.Try.f90.results.toList [(.pair (.int .i64) (.int .i64), true), (.bool, false)] (.pair (.pair (.int .i64) (.int .i64)) (.bool)))
noncomputable def k90_1003 : List It := stackAt [.r, .r, .l, .b, .lb none] (bodyOf Go.Proofs.Try.f90) []
def t90_1003 (k_ : Int) (ws_0 : Bool) (ws_1 : Int) (ws_2 : Int) (t4s_0 : Int) (t4s_1 : Int) : St := [(2, Cell.val (AVal.int IntKind.i64 k_)), (4, Cell.val (AVal.ptr 33 0)), (33, Cell.mem true 112 [AVal.bool ws_0, AVal.int IntKind.u64 ws_1, AVal.int IntKind.u64 ws_2]), (8, Cell.val (AVal.ptr 35 0)), (35, Cell.mem true 68 [AVal.int IntKind.i64 t4s_0, AVal.int IntKind.i64 t4s_1])]
theorem e90_1003 (k : Nat) (k_ : Int) (ws_0 : Bool) (ws_1 : Int) (ws_2 : Int) (t4s_0 : Int) (t4s_1 : Int) : x90 (k + 1) k90_1003 (t90_1003 k_ ws_0 ws_1 ws_2 t4s_0 t4s_1) = F90_1003 k (fun (k_ : Int) (ws_0 : Bool) (ws_1 : Int) (ws_2 : Int) (t4s_0 : Int) (t4s_1 : Int) => x90 k k90_1003 (t90_1003 k_ ws_0 ws_1 ws_2 t4s_0 t4s_1)) k_ ws_0 ws_1 ws_2 t4s_0 t4s_1 := by kernel_rfl
theorem q90 : ∀ k : Nat, (fun (k_ : Int) (ws_0 : Bool) (ws_1 : Int) (ws_2 : Int) (t4s_0 : Int) (t4s_1 : Int) => x90 k k90_1003 (t90_1003 k_ ws_0 ws_1 ws_2 t4s_0 t4s_1)) = l90 k
  | 0 => rfl
  | k + 1 => by
    have h := q90 k
    show _ = F90_1003 k (l90 k)
    rw [← h]
    exact (funext fun k_ => funext fun ws_0 => funext fun ws_1 => funext fun ws_2 => funext fun t4s_0 => funext fun t4s_1 => e90_1003 k k_ ws_0 ws_1 ws_2 t4s_0 t4s_1)
theorem w90 (k : Nat) (w_negative : Bool) (w_high : Int) (w_low : Int) (k_ : Int) : runFn ti (envOf env64) 45 h90 (finT ti true Go.Proofs.Try.f90.results.toList [(.pair (.int .i64) (.int .i64), true), (.bool, false)] (.pair (.pair (.int .i64) (.int .i64)) (.bool))) k (bodyOf Go.Proofs.Try.f90) (initS 0 [.agg [.bool w_negative, .int .u64 w_high, .int .u64 w_low], .int .i64 k_]) = F90 k (fun (k_ : Int) (ws_0 : Bool) (ws_1 : Int) (ws_2 : Int) (t4s_0 : Int) (t4s_1 : Int) => x90 k k90_1003 (t90_1003 k_ ws_0 ws_1 ws_2 t4s_0 t4s_1)) w_negative w_high w_low k_ := by kernel_rfl
theorem v90 (k : Nat) (w_negative : Bool) (w_high : Int) (w_low : Int) (k_ : Int) : runFn ti (envOf env64) 45 h90 (finT ti true Go.Proofs.Try.f90.results.toList [(.pair (.int .i64) (.int .i64), true), (.bool, false)] (.pair (.pair (.int .i64) (.int .i64)) (.bool))) k (bodyOf Go.Proofs.Try.f90) (initS 0 [.agg [.bool w_negative, .int .u64 w_high, .int .u64 w_low], .int .i64 k_]) = f90 k w_negative w_high w_low k_ := by
  rw [w90]
  have h := q90 k
  unfold f90
  rw [← h]
theorem m90 : Meets Go.Proofs.Try.prog 90 s90 := meets_of_run tiOk env64_ok mo Go.Proofs.Try.func90 (body := bodyOf Go.Proofs.Try.f90) (by kernel_rfl) (N := 45) (by kernel_rfl) (hs := h90) (by
  intro k xs r h
  unfold s90 at h
  dsimp only at h
  split at h
  · exact ⟨Nat.le_of_ble_eq_true rfl, (v90 k _ _ _ _).trans h⟩
  · cases h)
theorem env65_ok : EnvOk Go.Proofs.Try.prog (envOf env65) := envOf_cons m90 Go.Proofs.Try.func90 (by kernel_rfl) (by kernel_rfl) env64_ok

-- impl.Box).volume
def h56 : Hints := [(1003, .lab [(0, .one (.v)), (2, .box 68 [.v, .v]), (4, .one (.v)), (10, .one (.v)), (11, .one (.v))])]
noncomputable def F56_1003 (k : Nat) (rec1003 : Int × List Int × List Int → Int → Int → Int → Int → Int → Option ((Int × Int) × Bool)) (b : Int × List Int × List Int) (t2s_0 : Int) (t2s_1 : Int) (n : Int) (t10 : Int) (t11 : Int) : Option ((Int × Int) × Bool) :=
  bif decide (t11 < t10) then
    (f89 k b t11).bind fun r0 =>
    rec1003 b t2s_0 t2s_1 (IntKind.wrap IntKind.i64 (n * r0)) t10 (IntKind.wrap IntKind.i64 (t11 + 1))
  else
    (f87 k n).bind fun r1 =>
    (f90 k r1.fst r1.snd.fst r1.snd.snd (IntKind.wrap IntKind.i64 (b.fst * (↑(List.length b.snd.fst) : Int)))).bind fun r2 =>
    some (((r2.fst.fst, r2.fst.snd), r2.snd))
noncomputable def F56 (k : Nat) (rec1003 : Int × List Int × List Int → Int → Int → Int → Int → Int → Option ((Int × Int) × Bool)) (b : Int × (List (Int)) × List (Int)) : Option ((Int × Int) × Bool) :=
  rec1003 b (0) (0) (1) ((↑(List.length b.snd.fst) : Int)) (0)
noncomputable def l56 : Nat → (Int × List Int × List Int → Int → Int → Int → Int → Int → Option ((Int × Int) × Bool))
  | 0 => fun _ _ _ _ _ _ => none
  | k + 1 => F56_1003 k (l56 k)
noncomputable def f56 (k : Nat) (b : Int × (List (Int)) × List (Int)) : Option ((Int × Int) × Bool) := F56 k (l56 k) b
noncomputable def s56 : Spec := ⟨false, [(.pair (.int .i64) (.int .i64), true), (.bool, false)], true, .pair (.pair (.int .i64) (.int .i64)) (.bool), fun k xs => match xs with | [.fptr (.pair (.int .i64) (.pair (.slice 3 (.int .i64)) (.slice 3 (.int .i64)))) b] => f56 k b | _ => none, false, none⟩
noncomputable def env66 : List (FuncId × Spec) := (56, s56) :: env65
noncomputable abbrev x56 := exec ti (envOf env65) 35 h56 (finT ti true Go.Proofs.Try.f56.results.toList [(.pair (.int .i64) (.int .i64), true), (.bool, false)] (.pair (.pair (.int .i64) (.int .i64)) (.bool)))
noncomputable def k56_1003 : List It := stackAt [.r, .r, .l, .r, .b, .lb none] (bodyOf Go.Proofs.Try.f56) []
def t56_1003 (b : Int × List Int × List Int) (t2s_0 : Int) (t2s_1 : Int) (n : Int) (t10 : Int) (t11 : Int) : St := [(0, Cell.val (AVal.fptr (Ty.pair (Ty.int IntKind.i64) (Ty.pair (Ty.slice 3 (Ty.int IntKind.i64)) (Ty.slice 3 (Ty.int IntKind.i64)))) b)), (4, Cell.val (AVal.ptr 33 0)), (33, Cell.mem true 68 [AVal.int IntKind.i64 t2s_0, AVal.int IntKind.i64 t2s_1]), (8, Cell.val (AVal.int IntKind.i64 n)), (20, Cell.val (AVal.int IntKind.i64 t10)), (22, Cell.val (AVal.int IntKind.i64 t11))]
theorem e56_1003 (k : Nat) (b : Int × List Int × List Int) (t2s_0 : Int) (t2s_1 : Int) (n : Int) (t10 : Int) (t11 : Int) : x56 (k + 1) k56_1003 (t56_1003 b t2s_0 t2s_1 n t10 t11) = F56_1003 k (fun (b : Int × List Int × List Int) (t2s_0 : Int) (t2s_1 : Int) (n : Int) (t10 : Int) (t11 : Int) => x56 k k56_1003 (t56_1003 b t2s_0 t2s_1 n t10 t11)) b t2s_0 t2s_1 n t10 t11 := by kernel_rfl
theorem q56 : ∀ k : Nat, (fun (b : Int × List Int × List Int) (t2s_0 : Int) (t2s_1 : Int) (n : Int) (t10 : Int) (t11 : Int) => x56 k k56_1003 (t56_1003 b t2s_0 t2s_1 n t10 t11)) = l56 k
  | 0 => rfl
  | k + 1 => by
    have h := q56 k
    show _ = F56_1003 k (l56 k)
    rw [← h]
    exact (funext fun b => funext fun t2s_0 => funext fun t2s_1 => funext fun n => funext fun t10 => funext fun t11 => e56_1003 k b t2s_0 t2s_1 n t10 t11)
theorem w56 (k : Nat) (b : Int × (List (Int)) × List (Int)) : runFn ti (envOf env65) 35 h56 (finT ti true Go.Proofs.Try.f56.results.toList [(.pair (.int .i64) (.int .i64), true), (.bool, false)] (.pair (.pair (.int .i64) (.int .i64)) (.bool))) k (bodyOf Go.Proofs.Try.f56) (initS 0 [.fptr (.pair (.int .i64) (.pair (.slice 3 (.int .i64)) (.slice 3 (.int .i64)))) b]) = F56 k (fun (b : Int × List Int × List Int) (t2s_0 : Int) (t2s_1 : Int) (n : Int) (t10 : Int) (t11 : Int) => x56 k k56_1003 (t56_1003 b t2s_0 t2s_1 n t10 t11)) b := by kernel_rfl
theorem v56 (k : Nat) (b : Int × (List (Int)) × List (Int)) : runFn ti (envOf env65) 35 h56 (finT ti true Go.Proofs.Try.f56.results.toList [(.pair (.int .i64) (.int .i64), true), (.bool, false)] (.pair (.pair (.int .i64) (.int .i64)) (.bool))) k (bodyOf Go.Proofs.Try.f56) (initS 0 [.fptr (.pair (.int .i64) (.pair (.slice 3 (.int .i64)) (.slice 3 (.int .i64)))) b]) = f56 k b := by
  rw [w56]
  have h := q56 k
  unfold f56
  rw [← h]
theorem m56 : Meets Go.Proofs.Try.prog 56 s56 := meets_of_run tiOk env65_ok mo Go.Proofs.Try.func56 (body := bodyOf Go.Proofs.Try.f56) (by kernel_rfl) (N := 35) (by kernel_rfl) (hs := h56) (by
  intro k xs r h
  unfold s56 at h
  dsimp only at h
  split at h
  · exact ⟨Nat.le_of_ble_eq_true rfl, (v56 k _).trans h⟩
  · cases h)
theorem env66_ok : EnvOk Go.Proofs.Try.prog (envOf env66) := envOf_cons m56 Go.Proofs.Try.func56 (by kernel_rfl) (by kernel_rfl) env65_ok

-- impl.leafPlaces
def h83 : Hints := [(1003, .lab [(3, .one (.own 3 (Ty.int IntKind.i64))), (6, .one (.frz 63 (Ty.pair (Ty.int IntKind.i64) (Ty.int IntKind.i64)))), (7, .one (.v)), (8, .one (.v))])]
noncomputable def F83_1003 (k : Nat) (rec1003 : List Int → List (Int × Int) → Int → Int → Option (List (Int))) (outs : List Int) (t6 : List (Int × Int)) (t7 : Int) (t8 : Int) : Option (List (Int)) :=
  bif decide (t8 < t7) then
    bif boundA t8 (List.length t6) then
      bif !decide ((List.getD t6 (Int.toNat t8) (0, 0)).fst = 0) then
        bif decide ((List.length outs + List.length [t8]) * 8 ≤ 140737488355328) then
          rec1003 (outs ++ [t8]) t6 t7 (IntKind.wrap IntKind.i64 (t8 + 1))
        else
          none
      else
        rec1003 outs t6 t7 (IntKind.wrap IntKind.i64 (t8 + 1))
    else
      none
  else
    some outs
noncomputable def F83 (k : Nat) (rec1003 : List Int → List (Int × Int) → Int → Int → Option (List (Int))) (l : List (Int × Int)) : Option (List (Int)) :=
  rec1003 ([]) l ((↑(List.length l) : Int)) (0)
noncomputable def l83 : Nat → (List Int → List (Int × Int) → Int → Int → Option (List (Int)))
  | 0 => fun _ _ _ _ => none
  | k + 1 => F83_1003 k (l83 k)
noncomputable def f83 (k : Nat) (l : List (Int × Int)) : Option (List (Int)) := F83 k (l83 k) l
noncomputable def s83 : Spec := ⟨false, [(.slice 3 (.int .i64), false)], true, .slice 3 (.int .i64), fun k xs => match xs with | [.slc 63 (.pair (.int .i64) (.int .i64)) l] => f83 k l | _ => none, false, none⟩
noncomputable def env67 : List (FuncId × Spec) := (83, s83) :: env66
noncomputable abbrev x83 := exec ti (envOf env66) 22 h83 (finT ti true Go.Proofs.Try.f83.results.toList [(.slice 3 (.int .i64), false)] (.slice 3 (.int .i64)))
noncomputable def k83_1003 : List It := stackAt [.r, .r, .l, .r, .b, .lb none] (bodyOf Go.Proofs.Try.f83) []
def t83_1003 (outs : List Int) (t6 : List (Int × Int)) (t7 : Int) (t8 : Int) : St := [(6, Cell.val (AVal.ref 33 none)), (33, Cell.row true 3 (Ty.int IntKind.i64) outs), (12, Cell.val (AVal.slc 63 (Ty.pair (Ty.int IntKind.i64) (Ty.int IntKind.i64)) t6)), (14, Cell.val (AVal.int IntKind.i64 t7)), (16, Cell.val (AVal.int IntKind.i64 t8))]
theorem e83_1003 (k : Nat) (outs : List Int) (t6 : List (Int × Int)) (t7 : Int) (t8 : Int) : x83 (k + 1) k83_1003 (t83_1003 outs t6 t7 t8) = F83_1003 k (fun (outs : List Int) (t6 : List (Int × Int)) (t7 : Int) (t8 : Int) => x83 k k83_1003 (t83_1003 outs t6 t7 t8)) outs t6 t7 t8 := by kernel_rfl
theorem q83 : ∀ k : Nat, (fun (outs : List Int) (t6 : List (Int × Int)) (t7 : Int) (t8 : Int) => x83 k k83_1003 (t83_1003 outs t6 t7 t8)) = l83 k
  | 0 => rfl
  | k + 1 => by
    have h := q83 k
    show _ = F83_1003 k (l83 k)
    rw [← h]
    exact (funext fun outs => funext fun t6 => funext fun t7 => funext fun t8 => e83_1003 k outs t6 t7 t8)
theorem w83 (k : Nat) (l : List (Int × Int)) : runFn ti (envOf env66) 22 h83 (finT ti true Go.Proofs.Try.f83.results.toList [(.slice 3 (.int .i64), false)] (.slice 3 (.int .i64))) k (bodyOf Go.Proofs.Try.f83) (initS 0 [.slc 63 (.pair (.int .i64) (.int .i64)) l]) = F83 k (fun (outs : List Int) (t6 : List (Int × Int)) (t7 : Int) (t8 : Int) => x83 k k83_1003 (t83_1003 outs t6 t7 t8)) l := by kernel_rfl
theorem v83 (k : Nat) (l : List (Int × Int)) : runFn ti (envOf env66) 22 h83 (finT ti true Go.Proofs.Try.f83.results.toList [(.slice 3 (.int .i64), false)] (.slice 3 (.int .i64))) k (bodyOf Go.Proofs.Try.f83) (initS 0 [.slc 63 (.pair (.int .i64) (.int .i64)) l]) = f83 k l := by
  rw [w83]
  have h := q83 k
  unfold f83
  rw [← h]
theorem m83 : Meets Go.Proofs.Try.prog 83 s83 := meets_of_run tiOk env66_ok mo Go.Proofs.Try.func83 (body := bodyOf Go.Proofs.Try.f83) (by kernel_rfl) (N := 22) (by kernel_rfl) (hs := h83) (by
  intro k xs r h
  unfold s83 at h
  dsimp only at h
  split at h
  · exact ⟨Nat.le_of_ble_eq_true rfl, (v83 k _).trans h⟩
  · cases h)
theorem env67_ok : EnvOk Go.Proofs.Try.prog (envOf env67) := envOf_cons m83 Go.Proofs.Try.func83 (by kernel_rfl) (by kernel_rfl) env66_ok

def o85 (q : T (.bool)) : St := [(3, .mem true 105 [.bool (q)])]
def p85 (x : St × T (.pair (.int .i64) (.int .i64))) : Option (T (.bool) × T (.pair (.int .i64) (.int .i64))) := match x with | ([(3, .mem true 105 [.bool r_ok])], r) => some (r_ok, r) | _ => none
-- impl.reckoner).keep
noncomputable def f85 (k : Nat) (r_ok : Bool) (a_N : Int) (a_K : Int) (ok : Bool) : Option ((Bool) × Int × Int) :=
  bif r_ok then
    bif !ok then
      some ((ok, 0, 0))
    else
      some ((ok, a_N, a_K))
  else
    some ((false, 0, 0))
noncomputable def g85 (k : Nat) (os : St) (xs : List AVal) : Option (T (.bool) × T (.pair (.int .i64) (.int .i64))) := match os, xs with | [(3, .mem true 105 [.bool r_ok])], [.ptr 3 0, .agg [.int .i64 a_N, .int .i64 a_K], .bool ok] => f85 k r_ok a_N a_K ok | _, _ => none
noncomputable def s85 : Spec := ⟨false, [(.pair (.int .i64) (.int .i64), true)], true, .pair (.int .i64) (.int .i64), fun _ _ => none, false, some ⟨.bool, g85, o85⟩⟩
noncomputable def env68 : List (FuncId × Spec) := (85, s85) :: env67
theorem v85 (k : Nat) (r_ok : Bool) (a_N : Int) (a_K : Int) (ok : Bool) : runFn ti (envOf env67) 24 [] (finJ ti Go.Proofs.Try.f85.results.toList [(.pair (.int .i64) (.int .i64), true)] (.pair (.int .i64) (.int .i64)) [3] p85) k (bodyOf Go.Proofs.Try.f85) ([(3, .mem true 105 [.bool r_ok])] ++ initS 0 [.ptr 3 0, .agg [.int .i64 a_N, .int .i64 a_K], .bool ok]) = f85 k r_ok a_N a_K ok := by kernel_rfl
theorem hp85 : ∀ x q, p85 x = some q → (o85 q.1, q.2) = x := by
  intro x q h
  unfold p85 at h
  split at h
  · cases h
    rfl
  · cases h
theorem m85 : MeetsIO Go.Proofs.Try.prog 85 [(.pair (.int .i64) (.int .i64), true)] (.pair (.int .i64) (.int .i64)) (IO.G ⟨.bool, g85, o85⟩) := meets_io_of_run tiOk env67_ok mo Go.Proofs.Try.func85 (body := bodyOf Go.Proofs.Try.f85) (by kernel_rfl) (N := 24) (by kernel_rfl) (pick := p85) (by kernel_rfl) hp85 (by
  intro k os xs r h
  have h : g85 k os xs = some r := h
  unfold g85 at h
  split at h
  · exact ⟨Nat.le_of_ble_eq_true rfl, by kernel_rfl, [], (v85 k _ _ _ _).trans h⟩
  · cases h)
theorem env68_ok : EnvOk Go.Proofs.Try.prog (envOf env68) := envOf_io rfl m85 Go.Proofs.Try.func85 (by kernel_rfl) (by kernel_rfl) env67_ok

-- cmp.Or[int]
def h115 : Hints := [(1003, .lab [(3, .one (.v)), (6, .one (.frz 3 (Ty.int IntKind.i64))), (7, .one (.v)), (8, .one (.v))])]
noncomputable def F115_1003 (k : Nat) (rec1003 : Int → List Int → Int → Int → Option (Int)) (zero : Int) (t6 : List Int) (t7 : Int) (t8 : Int) : Option (Int) :=
  bif decide (t8 < t7) then
    bif boundA t8 (List.length t6) then
      bif !decide (List.getD t6 (Int.toNat t8) 0 = zero) then
        some (List.getD t6 (Int.toNat t8) 0)
      else
        rec1003 zero t6 t7 (IntKind.wrap IntKind.i64 (t8 + 1))
    else
      none
  else
    some zero
noncomputable def F115 (k : Nat) (rec1003 : Int → List Int → Int → Int → Option (Int)) (vals : List (Int)) : Option (Int) :=
  rec1003 (0) vals ((↑(List.length vals) : Int)) (0)
noncomputable def l115 : Nat → (Int → List Int → Int → Int → Option (Int))
  | 0 => fun _ _ _ _ => none
  | k + 1 => F115_1003 k (l115 k)
noncomputable def f115 (k : Nat) (vals : List (Int)) : Option (Int) := F115 k (l115 k) vals
noncomputable def s115 : Spec := ⟨false, [(.int .i64, false)], true, .int .i64, fun k xs => match xs with | [.slc 3 (.int .i64) vals] => f115 k vals | _ => none, false, none⟩
noncomputable def env69 : List (FuncId × Spec) := (115, s115) :: env68
noncomputable abbrev x115 := exec ti (envOf env68) 18 h115 (finT ti true Go.Proofs.Try.f115.results.toList [(.int .i64, false)] (.int .i64))
noncomputable def k115_1003 : List It := stackAt [.r, .r, .l, .r, .b, .lb none] (bodyOf Go.Proofs.Try.f115) []
def t115_1003 (zero : Int) (t6 : List Int) (t7 : Int) (t8 : Int) : St := [(6, Cell.val (AVal.int IntKind.i64 zero)), (12, Cell.val (AVal.slc 3 (Ty.int IntKind.i64) t6)), (14, Cell.val (AVal.int IntKind.i64 t7)), (16, Cell.val (AVal.int IntKind.i64 t8))]
theorem e115_1003 (k : Nat) (zero : Int) (t6 : List Int) (t7 : Int) (t8 : Int) : x115 (k + 1) k115_1003 (t115_1003 zero t6 t7 t8) = F115_1003 k (fun (zero : Int) (t6 : List Int) (t7 : Int) (t8 : Int) => x115 k k115_1003 (t115_1003 zero t6 t7 t8)) zero t6 t7 t8 := by kernel_rfl
theorem q115 : ∀ k : Nat, (fun (zero : Int) (t6 : List Int) (t7 : Int) (t8 : Int) => x115 k k115_1003 (t115_1003 zero t6 t7 t8)) = l115 k
  | 0 => rfl
  | k + 1 => by
    have h := q115 k
    show _ = F115_1003 k (l115 k)
    rw [← h]
    exact (funext fun zero => funext fun t6 => funext fun t7 => funext fun t8 => e115_1003 k zero t6 t7 t8)
theorem w115 (k : Nat) (vals : List (Int)) : runFn ti (envOf env68) 18 h115 (finT ti true Go.Proofs.Try.f115.results.toList [(.int .i64, false)] (.int .i64)) k (bodyOf Go.Proofs.Try.f115) (initS 0 [.slc 3 (.int .i64) vals]) = F115 k (fun (zero : Int) (t6 : List Int) (t7 : Int) (t8 : Int) => x115 k k115_1003 (t115_1003 zero t6 t7 t8)) vals := by kernel_rfl
theorem v115 (k : Nat) (vals : List (Int)) : runFn ti (envOf env68) 18 h115 (finT ti true Go.Proofs.Try.f115.results.toList [(.int .i64, false)] (.int .i64)) k (bodyOf Go.Proofs.Try.f115) (initS 0 [.slc 3 (.int .i64) vals]) = f115 k vals := by
  rw [w115]
  have h := q115 k
  unfold f115
  rw [← h]
theorem m115 : Meets Go.Proofs.Try.prog 115 s115 := meets_of_run tiOk env68_ok mo Go.Proofs.Try.func115 (body := bodyOf Go.Proofs.Try.f115) (by kernel_rfl) (N := 18) (by kernel_rfl) (hs := h115) (by
  intro k xs r h
  unfold s115 at h
  dsimp only at h
  split at h
  · exact ⟨Nat.le_of_ble_eq_true rfl, (v115 k _).trans h⟩
  · cases h)
theorem env69_ok : EnvOk Go.Proofs.Try.prog (envOf env69) := envOf_cons m115 Go.Proofs.Try.func115 (by kernel_rfl) (by kernel_rfl) env68_ok

-- cmp.isNaN[uint64]
noncomputable def f125 (k : Nat) (x : Int) : Option (Bool) :=
  some (!decide (x = x))
noncomputable def s125 : Spec := ⟨false, [(.bool, false)], true, .bool, fun k xs => match xs with | [.int .u64 x] => f125 k x | _ => none, false, none⟩
noncomputable def env70 : List (FuncId × Spec) := (125, s125) :: env69
theorem v125 (k : Nat) (x : Int) : runFn ti (envOf env69) 6 [] (finT ti true Go.Proofs.Try.f125.results.toList [(.bool, false)] (.bool)) k (bodyOf Go.Proofs.Try.f125) (initS 0 [.int .u64 x]) = f125 k x := by kernel_rfl
theorem m125 : Meets Go.Proofs.Try.prog 125 s125 := meets_of_run tiOk env69_ok mo Go.Proofs.Try.func125 (body := bodyOf Go.Proofs.Try.f125) (by kernel_rfl) (N := 6) (by kernel_rfl) (hs := []) (by
  intro k xs r h
  unfold s125 at h
  dsimp only at h
  split at h
  · exact ⟨Nat.le_of_ble_eq_true rfl, (v125 k _).trans h⟩
  · cases h)
theorem env70_ok : EnvOk Go.Proofs.Try.prog (envOf env70) := envOf_cons m125 Go.Proofs.Try.func125 (by kernel_rfl) (by kernel_rfl) env69_ok

-- cmp.Compare[uint64]
noncomputable def f116 (k : Nat) (x : Int) (y : Int) : Option (Int) :=
  bif !decide (x = x) then
    bif !decide (y = y) then
      some (0)
    else
      some (-1)
  else
    bif !decide (y = y) then
      some (1)
    else
      bif decide (x < y) then
        some (-1)
      else
        bif decide (y < x) then
          some (1)
        else
          some (0)
noncomputable def s116 : Spec := ⟨false, [(.int .i64, false)], true, .int .i64, fun k xs => match xs with | [.int .u64 x, .int .u64 y] => f116 k x y | _ => none, false, none⟩
noncomputable def env71 : List (FuncId × Spec) := (116, s116) :: env70
theorem v116 (k : Nat) (x : Int) (y : Int) : runFn ti (envOf env70) 20 [] (finT ti true Go.Proofs.Try.f116.results.toList [(.int .i64, false)] (.int .i64)) k (bodyOf Go.Proofs.Try.f116) (initS 0 [.int .u64 x, .int .u64 y]) = f116 k x y := by kernel_rfl
theorem m116 : Meets Go.Proofs.Try.prog 116 s116 := meets_of_run tiOk env70_ok mo Go.Proofs.Try.func116 (body := bodyOf Go.Proofs.Try.f116) (by kernel_rfl) (N := 20) (by kernel_rfl) (hs := []) (by
  intro k xs r h
  unfold s116 at h
  dsimp only at h
  split at h
  · exact ⟨Nat.le_of_ble_eq_true rfl, (v116 k _ _).trans h⟩
  · cases h)
theorem env71_ok : EnvOk Go.Proofs.Try.prog (envOf env71) := envOf_cons m116 Go.Proofs.Try.func116 (by kernel_rfl) (by kernel_rfl) env70_ok

-- impl.compareSizes
noncomputable def f98 (k : Nat) (a_negative : Bool) (a_high : Int) (a_low : Int) (b_negative : Bool) (b_high : Int) (b_low : Int) : Option (Int) :=
  (f116 k a_high b_high).bind fun r0 =>
  (f116 k a_low b_low).bind fun r1 =>
  (f115 k [r0, r1]).bind fun r2 =>
  some r2
noncomputable def s98 : Spec := ⟨false, [(.int .i64, false)], true, .int .i64, fun k xs => match xs with | [.agg [.bool a_negative, .int .u64 a_high, .int .u64 a_low], .agg [.bool b_negative, .int .u64 b_high, .int .u64 b_low]] => f98 k a_negative a_high a_low b_negative b_high b_low | _ => none, false, none⟩
noncomputable def env72 : List (FuncId × Spec) := (98, s98) :: env71
theorem v98 (k : Nat) (a_negative : Bool) (a_high : Int) (a_low : Int) (b_negative : Bool) (b_high : Int) (b_low : Int) : runFn ti (envOf env71) 17 [] (finT ti true Go.Proofs.Try.f98.results.toList [(.int .i64, false)] (.int .i64)) k (bodyOf Go.Proofs.Try.f98) (initS 0 [.agg [.bool a_negative, .int .u64 a_high, .int .u64 a_low], .agg [.bool b_negative, .int .u64 b_high, .int .u64 b_low]]) = f98 k a_negative a_high a_low b_negative b_high b_low := by kernel_rfl
theorem m98 : Meets Go.Proofs.Try.prog 98 s98 := meets_of_run tiOk env71_ok mo Go.Proofs.Try.func98 (body := bodyOf Go.Proofs.Try.f98) (by kernel_rfl) (N := 17) (by kernel_rfl) (hs := []) (by
  intro k xs r h
  unfold s98 at h
  dsimp only at h
  split at h
  · exact ⟨Nat.le_of_ble_eq_true rfl, (v98 k _ _ _ _ _ _).trans h⟩
  · cases h)
theorem env72_ok : EnvOk Go.Proofs.Try.prog (envOf env72) := envOf_cons m98 Go.Proofs.Try.func98 (by kernel_rfl) (by kernel_rfl) env71_ok

end Go.Proofs.YtkahcjnkmbbplaaE
