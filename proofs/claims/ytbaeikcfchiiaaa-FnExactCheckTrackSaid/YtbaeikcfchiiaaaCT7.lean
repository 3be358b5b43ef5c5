/- Functions, by the engine; printed. -/
import Derived.Test.YtbaeikcfchiiaaaCT6
set_option maxRecDepth 100000
set_option maxHeartbeats 4000000
set_option linter.unusedVariables false
namespace Go.Proofs.YtbaeikcfchiiaaaE
-- cmp.Compare[uint32]
def f273 (k : Nat) (x : Int) (y : Int) : Option (Int) :=
  bif !decide (x = x) then
    bif !decide (y = y) then
      some (0)
    else
      some (-1)
  else
    bif !decide (y = y) then
      some (1)
    else
      bif decide (x < y) then
        some (-1)
      else
        bif decide (y < x) then
          some (1)
        else
          some (0)
def s273 : Spec := ⟨false, [(.int .i64, false)], true, .int .i64, fun k xs => match xs with | [.int .u32 x, .int .u32 y] => f273 k x y | _ => none⟩
def env73 : List (FuncId × Spec) := (273, s273) :: env72
theorem v273 (k : Nat) (x : Int) (y : Int) : runFn ti (envOf env72) 20 [] (finT ti true Go.Proofs.Try.f273.results.toList [(.int .i64, false)] (.int .i64)) k (bodyOf Go.Proofs.Try.f273) (initS 0 [.int .u32 x, .int .u32 y]) = f273 k x y := by kernel_rfl
theorem m273 : Meets Go.Proofs.Try.prog 273 s273 := meets_of_run tiOk env72_ok mo Go.Proofs.Try.func273 (body := bodyOf Go.Proofs.Try.f273) (by kernel_rfl) (N := 20) (by kernel_rfl) (hs := []) (by
  intro k xs r h
  unfold s273 at h
  dsimp only at h
  split at h
  · exact ⟨Nat.le_of_ble_eq_true rfl, (v273 k _ _).trans h⟩
  · cases h)
theorem env73_ok : EnvOk Go.Proofs.Try.prog (envOf env73) := envOf_cons m273 Go.Proofs.Try.func273 (by kernel_rfl) (by kernel_rfl) env72_ok

-- impl.compareDigits
def h241 : Hints := [(1002, .lab [(2, .box 193 [.v, .frz 224 (Ty.int IntKind.u32)]), (3, .box 193 [.v, .frz 224 (Ty.int IntKind.u32)]), (5, .one (.v))])]
def F241_1002 (k : Nat) (rec1002 : Bool → List Int → Bool → List Int → Int → Option (Int)) (as_0 : Bool) (as_1 : List Int) (bs_0 : Bool) (bs_1 : List Int) (i : Int) : Option (Int) :=
  bif decide (0 ≤ i) then
    (f242 k as_0 as_1 i).bind fun r0 =>
    (f242 k bs_0 bs_1 i).bind fun r1 =>
    (f273 k r0 r1).bind fun r2 =>
    bif !decide (r2 = 0) then
      some r2
    else
      rec1002 as_0 as_1 bs_0 bs_1 (IntKind.wrap IntKind.i64 (i - 1))
  else
    some (0)
def F241 (k : Nat) (rec1002 : Bool → List Int → Bool → List Int → Int → Option (Int)) (a_negative : Bool) (a_digits : List (Int)) (b_negative : Bool) (b_digits : List (Int)) : Option (Int) :=
  rec1002 a_negative a_digits b_negative b_digits (IntKind.wrap IntKind.i64 ((bif decide ((↑(List.length a_digits) : Int) < (↑(List.length b_digits) : Int)) then (↑(List.length b_digits) : Int) else (↑(List.length a_digits) : Int)) - 1))
def l241 : Nat → (Bool → List Int → Bool → List Int → Int → Option (Int))
  | 0 => fun _ _ _ _ _ => none
  | k + 1 => F241_1002 k (l241 k)
def f241 (k : Nat) (a_negative : Bool) (a_digits : List (Int)) (b_negative : Bool) (b_digits : List (Int)) : Option (Int) := F241 k (l241 k) a_negative a_digits b_negative b_digits
def s241 : Spec := ⟨false, [(.int .i64, false)], true, .int .i64, fun k xs => match xs with | [.agg [.bool a_negative, .slc 224 (.int .u32) a_digits], .agg [.bool b_negative, .slc 224 (.int .u32) b_digits]] => f241 k a_negative a_digits b_negative b_digits | _ => none⟩
def env74 : List (FuncId × Spec) := (241, s241) :: env73
noncomputable abbrev x241 := exec ti (envOf env73) 29 h241 (finT ti true Go.Proofs.Try.f241.results.toList [(.int .i64, false)] (.int .i64))
noncomputable def k241_1002 : List It := stackAt [.r, .l, .r, .b, .lb none] (bodyOf Go.Proofs.Try.f241) []
def t241_1002 (as_0 : Bool) (as_1 : List Int) (bs_0 : Bool) (bs_1 : List Int) (i : Int) : St := [(4, Cell.val (AVal.ptr 3 0)), (3, Cell.mem true 193 [AVal.bool as_0, AVal.slc 224 (Ty.int IntKind.u32) as_1]), (6, Cell.val (AVal.ptr 5 0)), (5, Cell.mem true 193 [AVal.bool bs_0, AVal.slc 224 (Ty.int IntKind.u32) bs_1]), (10, Cell.val (AVal.int IntKind.i64 i))]
theorem e241_1002 (k : Nat) (as_0 : Bool) (as_1 : List Int) (bs_0 : Bool) (bs_1 : List Int) (i : Int) : x241 (k + 1) k241_1002 (t241_1002 as_0 as_1 bs_0 bs_1 i) = F241_1002 k (fun (as_0 : Bool) (as_1 : List Int) (bs_0 : Bool) (bs_1 : List Int) (i : Int) => x241 k k241_1002 (t241_1002 as_0 as_1 bs_0 bs_1 i)) as_0 as_1 bs_0 bs_1 i := by kernel_rfl
theorem q241 : ∀ k : Nat, (fun (as_0 : Bool) (as_1 : List Int) (bs_0 : Bool) (bs_1 : List Int) (i : Int) => x241 k k241_1002 (t241_1002 as_0 as_1 bs_0 bs_1 i)) = l241 k
  | 0 => rfl
  | k + 1 => by
    have h := q241 k
    show _ = F241_1002 k (l241 k)
    rw [← h]
    exact (funext fun as_0 => funext fun as_1 => funext fun bs_0 => funext fun bs_1 => funext fun i => e241_1002 k as_0 as_1 bs_0 bs_1 i)
theorem w241 (k : Nat) (a_negative : Bool) (a_digits : List (Int)) (b_negative : Bool) (b_digits : List (Int)) : runFn ti (envOf env73) 29 h241 (finT ti true Go.Proofs.Try.f241.results.toList [(.int .i64, false)] (.int .i64)) k (bodyOf Go.Proofs.Try.f241) (initS 0 [.agg [.bool a_negative, .slc 224 (.int .u32) a_digits], .agg [.bool b_negative, .slc 224 (.int .u32) b_digits]]) = F241 k (fun (as_0 : Bool) (as_1 : List Int) (bs_0 : Bool) (bs_1 : List Int) (i : Int) => x241 k k241_1002 (t241_1002 as_0 as_1 bs_0 bs_1 i)) a_negative a_digits b_negative b_digits := by kernel_rfl
theorem v241 (k : Nat) (a_negative : Bool) (a_digits : List (Int)) (b_negative : Bool) (b_digits : List (Int)) : runFn ti (envOf env73) 29 h241 (finT ti true Go.Proofs.Try.f241.results.toList [(.int .i64, false)] (.int .i64)) k (bodyOf Go.Proofs.Try.f241) (initS 0 [.agg [.bool a_negative, .slc 224 (.int .u32) a_digits], .agg [.bool b_negative, .slc 224 (.int .u32) b_digits]]) = f241 k a_negative a_digits b_negative b_digits := by
  rw [w241]
  have h := q241 k
  unfold f241
  rw [← h]
theorem m241 : Meets Go.Proofs.Try.prog 241 s241 := meets_of_run tiOk env73_ok mo Go.Proofs.Try.func241 (body := bodyOf Go.Proofs.Try.f241) (by kernel_rfl) (N := 29) (by kernel_rfl) (hs := h241) (by
  intro k xs r h
  unfold s241 at h
  dsimp only at h
  split at h
  · exact ⟨Nat.le_of_ble_eq_true rfl, (v241 k _ _ _ _).trans h⟩
  · cases h)
theorem env74_ok : EnvOk Go.Proofs.Try.prog (envOf env74) := envOf_cons m241 Go.Proofs.Try.func241 (by kernel_rfl) (by kernel_rfl) env73_ok

-- impl.long).plus
def h193 : Hints := [(1006, .lab [(2, .box 193 [.v, .frz 224 (Ty.int IntKind.u32)]), (3, .box 193 [.v, .frz 224 (Ty.int IntKind.u32)]), (4, .box 193 [.v, .v]), (5, .box 193 [.v, .own 224 (Ty.int IntKind.u32)]), (6, .one (.v)), (21, .one (.v)), (22, .one (.v))]), (3, .lab [(2, .box 193 [.v, .frz 224 (Ty.int IntKind.u32)]), (3, .box 193 [.v, .frz 224 (Ty.int IntKind.u32)]), (4, .box 193 [.v, .v])])]
def F193_1006 (k : Nat) (rec1006 : Bool → List Int → Bool → List Int → Bool → Bool → List Int → Int → Int → Int → Option (Bool × List (Int))) (rec3 : Bool → List Int → Bool → List Int → Bool → Option (Bool × List (Int))) (as_0 : Bool) (as_1 : List Int) (bs_0 : Bool) (bs_1 : List Int) (t4s_0 : Bool) (outs_0 : Bool) (outs : List Int) (carry : Int) (t21 : Int) (t22 : Int) : Option (Bool × List (Int)) :=
  bif decide (t22 < t21) then
    (f242 k as_0 as_1 t22).bind fun r0 =>
    bif as_0 == bs_0 then
      (f242 k bs_0 bs_1 t22).bind fun r1 =>
      bif decide ((List.length outs + List.length [IntKind.wrap IntKind.u32 (IntKind.wrap IntKind.i64 (IntKind.wrap IntKind.i64 (carry + IntKind.wrap IntKind.i64 r0) + IntKind.wrap IntKind.i64 r1))]) * 4 ≤ 140737488355328) then
        rec1006 as_0 as_1 bs_0 bs_1 t4s_0 outs_0 (outs ++ [IntKind.wrap IntKind.u32 (IntKind.wrap IntKind.i64 (IntKind.wrap IntKind.i64 (carry + IntKind.wrap IntKind.i64 r0) + IntKind.wrap IntKind.i64 r1))]) (Int.fdiv (IntKind.wrap IntKind.i64 (IntKind.wrap IntKind.i64 (carry + IntKind.wrap IntKind.i64 r0) + IntKind.wrap IntKind.i64 r1)) (2 ^ min (Int.toNat 32) (IntKind.bits IntKind.i64))) t21 (IntKind.wrap IntKind.i64 (t22 + 1))
      else
        none
    else
      (f242 k bs_0 bs_1 t22).bind fun r2 =>
      bif decide ((List.length outs + List.length [IntKind.wrap IntKind.u32 (IntKind.wrap IntKind.i64 (IntKind.wrap IntKind.i64 (carry + IntKind.wrap IntKind.i64 r0) - IntKind.wrap IntKind.i64 r2))]) * 4 ≤ 140737488355328) then
        rec1006 as_0 as_1 bs_0 bs_1 t4s_0 outs_0 (outs ++ [IntKind.wrap IntKind.u32 (IntKind.wrap IntKind.i64 (IntKind.wrap IntKind.i64 (carry + IntKind.wrap IntKind.i64 r0) - IntKind.wrap IntKind.i64 r2))]) (Int.fdiv (IntKind.wrap IntKind.i64 (IntKind.wrap IntKind.i64 (carry + IntKind.wrap IntKind.i64 r0) - IntKind.wrap IntKind.i64 r2)) (2 ^ min (Int.toNat 32) (IntKind.bits IntKind.i64))) t21 (IntKind.wrap IntKind.i64 (t22 + 1))
      else
        none
  else
    some ((outs_0, outs))
def F193_3 (k : Nat) (rec1006 : Bool → List Int → Bool → List Int → Bool → Bool → List Int → Int → Int → Int → Option (Bool × List (Int))) (rec3 : Bool → List Int → Bool → List Int → Bool → Option (Bool × List (Int))) (as_0 : Bool) (as_1 : List Int) (bs_0 : Bool) (bs_1 : List Int) (t4s_0 : Bool) : Option (Bool × List (Int)) :=
  rec1006 as_0 as_1 bs_0 bs_1 t4s_0 as_0 ([]) (0) (IntKind.wrap IntKind.i64 ((↑(List.length as_1) : Int) + 1)) (0)
def F193 (k : Nat) (rec1006 : Bool → List Int → Bool → List Int → Bool → Bool → List Int → Int → Int → Int → Option (Bool × List (Int))) (rec3 : Bool → List Int → Bool → List Int → Bool → Option (Bool × List (Int))) (a_negative : Bool) (a_digits : List (Int)) (b_negative : Bool) (b_digits : List (Int)) : Option (Bool × List (Int)) :=
  (f241 k a_negative a_digits b_negative b_digits).bind fun r0 =>
  bif decide (r0 < 0) then
    rec3 b_negative b_digits a_negative a_digits false
  else
    rec3 a_negative a_digits b_negative b_digits false
def l193 : Nat → (Bool → List Int → Bool → List Int → Bool → Bool → List Int → Int → Int → Int → Option (Bool × List (Int))) × (Bool → List Int → Bool → List Int → Bool → Option (Bool × List (Int)))
  | 0 => (fun _ _ _ _ _ _ _ _ _ _ => none, fun _ _ _ _ _ => none)
  | k + 1 => (F193_1006 k ((l193 k).1) ((l193 k).2), F193_3 k ((l193 k).1) ((l193 k).2))
def f193 (k : Nat) (a_negative : Bool) (a_digits : List (Int)) (b_negative : Bool) (b_digits : List (Int)) : Option (Bool × List (Int)) := F193 k ((l193 k).1) ((l193 k).2) a_negative a_digits b_negative b_digits
def s193 : Spec := ⟨false, [(.pair (.bool) (.slice 224 (.int .u32)), true)], true, .pair (.bool) (.slice 224 (.int .u32)), fun k xs => match xs with | [.agg [.bool a_negative, .slc 224 (.int .u32) a_digits], .agg [.bool b_negative, .slc 224 (.int .u32) b_digits]] => f193 k a_negative a_digits b_negative b_digits | _ => none⟩
def env75 : List (FuncId × Spec) := (193, s193) :: env74
noncomputable abbrev x193 := exec ti (envOf env74) 59 h193 (finT ti true Go.Proofs.Try.f193.results.toList [(.pair (.bool) (.slice 224 (.int .u32)), true)] (.pair (.bool) (.slice 224 (.int .u32))))
noncomputable def k193_1006 : List It := stackAt [.r, .r, .r, .r, .l, .r, .b, .lb none] (bodyOf Go.Proofs.Try.f193) []
def t193_1006 (as_0 : Bool) (as_1 : List Int) (bs_0 : Bool) (bs_1 : List Int) (t4s_0 : Bool) (outs_0 : Bool) (outs : List Int) (carry : Int) (t21 : Int) (t22 : Int) : St := [(4, Cell.val (AVal.ptr 3 0)), (3, Cell.mem true 193 [AVal.bool as_0, AVal.slc 224 (Ty.int IntKind.u32) as_1]), (6, Cell.val (AVal.ptr 5 0)), (5, Cell.mem true 193 [AVal.bool bs_0, AVal.slc 224 (Ty.int IntKind.u32) bs_1]), (8, Cell.val (AVal.ptr 7 0)), (7, Cell.mem true 193 [AVal.bool t4s_0, AVal.nilslc]), (10, Cell.val (AVal.ptr 9 0)), (9, Cell.mem true 193 [AVal.bool outs_0, AVal.ref 11 none]), (11, Cell.row true 224 (Ty.int IntKind.u32) outs), (12, Cell.val (AVal.int IntKind.i64 carry)), (42, Cell.val (AVal.int IntKind.i64 t21)), (44, Cell.val (AVal.int IntKind.i64 t22))]
noncomputable def k193_3 : List It := stackAt [.r, .r, .l] (bodyOf Go.Proofs.Try.f193) []
def t193_3 (as_0 : Bool) (as_1 : List Int) (bs_0 : Bool) (bs_1 : List Int) (t4s_0 : Bool) : St := [(4, Cell.val (AVal.ptr 3 0)), (3, Cell.mem true 193 [AVal.bool as_0, AVal.slc 224 (Ty.int IntKind.u32) as_1]), (6, Cell.val (AVal.ptr 5 0)), (5, Cell.mem true 193 [AVal.bool bs_0, AVal.slc 224 (Ty.int IntKind.u32) bs_1]), (8, Cell.val (AVal.ptr 7 0)), (7, Cell.mem true 193 [AVal.bool t4s_0, AVal.nilslc])]
theorem e193_1006 (k : Nat) (as_0 : Bool) (as_1 : List Int) (bs_0 : Bool) (bs_1 : List Int) (t4s_0 : Bool) (outs_0 : Bool) (outs : List Int) (carry : Int) (t21 : Int) (t22 : Int) : x193 (k + 1) k193_1006 (t193_1006 as_0 as_1 bs_0 bs_1 t4s_0 outs_0 outs carry t21 t22) = F193_1006 k (fun (as_0 : Bool) (as_1 : List Int) (bs_0 : Bool) (bs_1 : List Int) (t4s_0 : Bool) (outs_0 : Bool) (outs : List Int) (carry : Int) (t21 : Int) (t22 : Int) => x193 k k193_1006 (t193_1006 as_0 as_1 bs_0 bs_1 t4s_0 outs_0 outs carry t21 t22)) (fun (as_0 : Bool) (as_1 : List Int) (bs_0 : Bool) (bs_1 : List Int) (t4s_0 : Bool) => x193 k k193_3 (t193_3 as_0 as_1 bs_0 bs_1 t4s_0)) as_0 as_1 bs_0 bs_1 t4s_0 outs_0 outs carry t21 t22 := by kernel_rfl
theorem e193_3 (k : Nat) (as_0 : Bool) (as_1 : List Int) (bs_0 : Bool) (bs_1 : List Int) (t4s_0 : Bool) : x193 (k + 1) k193_3 (t193_3 as_0 as_1 bs_0 bs_1 t4s_0) = F193_3 k (fun (as_0 : Bool) (as_1 : List Int) (bs_0 : Bool) (bs_1 : List Int) (t4s_0 : Bool) (outs_0 : Bool) (outs : List Int) (carry : Int) (t21 : Int) (t22 : Int) => x193 k k193_1006 (t193_1006 as_0 as_1 bs_0 bs_1 t4s_0 outs_0 outs carry t21 t22)) (fun (as_0 : Bool) (as_1 : List Int) (bs_0 : Bool) (bs_1 : List Int) (t4s_0 : Bool) => x193 k k193_3 (t193_3 as_0 as_1 bs_0 bs_1 t4s_0)) as_0 as_1 bs_0 bs_1 t4s_0 := by kernel_rfl
theorem q193 : ∀ k : Nat, ((fun (as_0 : Bool) (as_1 : List Int) (bs_0 : Bool) (bs_1 : List Int) (t4s_0 : Bool) (outs_0 : Bool) (outs : List Int) (carry : Int) (t21 : Int) (t22 : Int) => x193 k k193_1006 (t193_1006 as_0 as_1 bs_0 bs_1 t4s_0 outs_0 outs carry t21 t22)), (fun (as_0 : Bool) (as_1 : List Int) (bs_0 : Bool) (bs_1 : List Int) (t4s_0 : Bool) => x193 k k193_3 (t193_3 as_0 as_1 bs_0 bs_1 t4s_0))) = l193 k
  | 0 => rfl
  | k + 1 => by
    have h := q193 k
    show _ = (F193_1006 k ((l193 k).1) ((l193 k).2), F193_3 k ((l193 k).1) ((l193 k).2))
    rw [← h]
    exact (Prod.ext (funext fun as_0 => funext fun as_1 => funext fun bs_0 => funext fun bs_1 => funext fun t4s_0 => funext fun outs_0 => funext fun outs => funext fun carry => funext fun t21 => funext fun t22 => e193_1006 k as_0 as_1 bs_0 bs_1 t4s_0 outs_0 outs carry t21 t22) (funext fun as_0 => funext fun as_1 => funext fun bs_0 => funext fun bs_1 => funext fun t4s_0 => e193_3 k as_0 as_1 bs_0 bs_1 t4s_0))
theorem w193 (k : Nat) (a_negative : Bool) (a_digits : List (Int)) (b_negative : Bool) (b_digits : List (Int)) : runFn ti (envOf env74) 59 h193 (finT ti true Go.Proofs.Try.f193.results.toList [(.pair (.bool) (.slice 224 (.int .u32)), true)] (.pair (.bool) (.slice 224 (.int .u32)))) k (bodyOf Go.Proofs.Try.f193) (initS 0 [.agg [.bool a_negative, .slc 224 (.int .u32) a_digits], .agg [.bool b_negative, .slc 224 (.int .u32) b_digits]]) = F193 k (fun (as_0 : Bool) (as_1 : List Int) (bs_0 : Bool) (bs_1 : List Int) (t4s_0 : Bool) (outs_0 : Bool) (outs : List Int) (carry : Int) (t21 : Int) (t22 : Int) => x193 k k193_1006 (t193_1006 as_0 as_1 bs_0 bs_1 t4s_0 outs_0 outs carry t21 t22)) (fun (as_0 : Bool) (as_1 : List Int) (bs_0 : Bool) (bs_1 : List Int) (t4s_0 : Bool) => x193 k k193_3 (t193_3 as_0 as_1 bs_0 bs_1 t4s_0)) a_negative a_digits b_negative b_digits := by kernel_rfl
theorem v193 (k : Nat) (a_negative : Bool) (a_digits : List (Int)) (b_negative : Bool) (b_digits : List (Int)) : runFn ti (envOf env74) 59 h193 (finT ti true Go.Proofs.Try.f193.results.toList [(.pair (.bool) (.slice 224 (.int .u32)), true)] (.pair (.bool) (.slice 224 (.int .u32)))) k (bodyOf Go.Proofs.Try.f193) (initS 0 [.agg [.bool a_negative, .slc 224 (.int .u32) a_digits], .agg [.bool b_negative, .slc 224 (.int .u32) b_digits]]) = f193 k a_negative a_digits b_negative b_digits := by
  rw [w193]
  have h := q193 k
  unfold f193
  rw [← h]
theorem m193 : Meets Go.Proofs.Try.prog 193 s193 := meets_of_run tiOk env74_ok mo Go.Proofs.Try.func193 (body := bodyOf Go.Proofs.Try.f193) (by kernel_rfl) (N := 59) (by kernel_rfl) (hs := h193) (by
  intro k xs r h
  unfold s193 at h
  dsimp only at h
  split at h
  · exact ⟨Nat.le_of_ble_eq_true rfl, (v193 k _ _ _ _).trans h⟩
  · cases h)
theorem env75_ok : EnvOk Go.Proofs.Try.prog (envOf env75) := envOf_cons m193 Go.Proofs.Try.func193 (by kernel_rfl) (by kernel_rfl) env74_ok

-- impl.longOf
def f194 (k : Nat) (n : Int) (k_ : Int) : Option (Bool × List (Int)) :=
  (f234 k n).bind fun r0 =>
  bif !decide (Int.tmod k_ 32 < 0) then
    bif decide (0 < Int.tmod k_ 32) then
      (f234 k n).bind fun r1 =>
      bif !decide (IntKind.wrap IntKind.i64 (64 - Int.tmod k_ 32) < 0) then
        bif decide (0 ≤ IntKind.wrap IntKind.i64 (Int.tdiv k_ 32)) then
          bif decide (IntKind.wrap IntKind.i64 (Int.tdiv k_ 32) ≤ IntKind.wrap IntKind.i64 (Int.tdiv k_ 32)) then
            bif decide (IntKind.wrap IntKind.i64 (Int.tdiv k_ 32) * (↑4 : Int) ≤ 140737488355328) then
              bif decide
  ((List.length
          (match none with
          | none => List.replicate (Int.toNat (IntKind.wrap IntKind.i64 (Int.tdiv k_ 32))) (dflt (Ty.int IntKind.u32))
          | some m => List.take m (List.replicate (Int.toNat (IntKind.wrap IntKind.i64 (Int.tdiv k_ 32))) (dflt (Ty.int IntKind.u32)))) +
        List.length [IntKind.wrap IntKind.u32 (IntKind.wrap IntKind.u64 (r0 * 2 ^ min (Int.toNat (Int.tmod k_ 32)) (IntKind.bits IntKind.u64))), IntKind.wrap IntKind.u32 (Int.fdiv (IntKind.wrap IntKind.u64 (r0 * 2 ^ min (Int.toNat (Int.tmod k_ 32)) (IntKind.bits IntKind.u64))) (2 ^ min (Int.toNat 32) (IntKind.bits IntKind.u64))), IntKind.wrap IntKind.u32 (Int.fdiv r1 (2 ^ min (Int.toNat (IntKind.wrap IntKind.i64 (64 - Int.tmod k_ 32))) (IntKind.bits IntKind.u64)))]) *
      4 ≤
    140737488355328) then
                some ((decide (n < 0),
  (match none with
    | none => List.replicate (Int.toNat (IntKind.wrap IntKind.i64 (Int.tdiv k_ 32))) (dflt (Ty.int IntKind.u32))
    | some m => List.take m (List.replicate (Int.toNat (IntKind.wrap IntKind.i64 (Int.tdiv k_ 32))) (dflt (Ty.int IntKind.u32)))) ++
    [IntKind.wrap IntKind.u32 (IntKind.wrap IntKind.u64 (r0 * 2 ^ min (Int.toNat (Int.tmod k_ 32)) (IntKind.bits IntKind.u64))), IntKind.wrap IntKind.u32 (Int.fdiv (IntKind.wrap IntKind.u64 (r0 * 2 ^ min (Int.toNat (Int.tmod k_ 32)) (IntKind.bits IntKind.u64))) (2 ^ min (Int.toNat 32) (IntKind.bits IntKind.u64))), IntKind.wrap IntKind.u32 (Int.fdiv r1 (2 ^ min (Int.toNat (IntKind.wrap IntKind.i64 (64 - Int.tmod k_ 32))) (IntKind.bits IntKind.u64)))]))
              else
                none
            else
              none
          else
            none
        else
          none
      else
        none
    else
      bif decide (0 ≤ IntKind.wrap IntKind.i64 (Int.tdiv k_ 32)) then
        bif decide (IntKind.wrap IntKind.i64 (Int.tdiv k_ 32) ≤ IntKind.wrap IntKind.i64 (Int.tdiv k_ 32)) then
          bif decide (IntKind.wrap IntKind.i64 (Int.tdiv k_ 32) * (↑4 : Int) ≤ 140737488355328) then
            bif decide
  ((List.length
          (match none with
          | none => List.replicate (Int.toNat (IntKind.wrap IntKind.i64 (Int.tdiv k_ 32))) (dflt (Ty.int IntKind.u32))
          | some m => List.take m (List.replicate (Int.toNat (IntKind.wrap IntKind.i64 (Int.tdiv k_ 32))) (dflt (Ty.int IntKind.u32)))) +
        List.length [IntKind.wrap IntKind.u32 (IntKind.wrap IntKind.u64 (r0 * 2 ^ min (Int.toNat (Int.tmod k_ 32)) (IntKind.bits IntKind.u64))), IntKind.wrap IntKind.u32 (Int.fdiv (IntKind.wrap IntKind.u64 (r0 * 2 ^ min (Int.toNat (Int.tmod k_ 32)) (IntKind.bits IntKind.u64))) (2 ^ min (Int.toNat 32) (IntKind.bits IntKind.u64))), IntKind.wrap IntKind.u32 0]) *
      4 ≤
    140737488355328) then
              some ((decide (n < 0),
  (match none with
    | none => List.replicate (Int.toNat (IntKind.wrap IntKind.i64 (Int.tdiv k_ 32))) (dflt (Ty.int IntKind.u32))
    | some m => List.take m (List.replicate (Int.toNat (IntKind.wrap IntKind.i64 (Int.tdiv k_ 32))) (dflt (Ty.int IntKind.u32)))) ++
    [IntKind.wrap IntKind.u32 (IntKind.wrap IntKind.u64 (r0 * 2 ^ min (Int.toNat (Int.tmod k_ 32)) (IntKind.bits IntKind.u64))), IntKind.wrap IntKind.u32 (Int.fdiv (IntKind.wrap IntKind.u64 (r0 * 2 ^ min (Int.toNat (Int.tmod k_ 32)) (IntKind.bits IntKind.u64))) (2 ^ min (Int.toNat 32) (IntKind.bits IntKind.u64))), IntKind.wrap IntKind.u32 0]))
            else
              none
          else
            none
        else
          none
      else
        none
  else
    none
def s194 : Spec := ⟨false, [(.pair (.bool) (.slice 224 (.int .u32)), true)], true, .pair (.bool) (.slice 224 (.int .u32)), fun k xs => match xs with | [.int .i64 n, .int .i64 k_] => f194 k n k_ | _ => none⟩
def env76 : List (FuncId × Spec) := (194, s194) :: env75
theorem v194 (k : Nat) (n : Int) (k_ : Int) : runFn ti (envOf env75) 38 [] (finT ti true Go.Proofs.Try.f194.results.toList [(.pair (.bool) (.slice 224 (.int .u32)), true)] (.pair (.bool) (.slice 224 (.int .u32)))) k (bodyOf Go.Proofs.Try.f194) (initS 0 [.int .i64 n, .int .i64 k_]) = f194 k n k_ := by kernel_rfl
theorem m194 : Meets Go.Proofs.Try.prog 194 s194 := meets_of_run tiOk env75_ok mo Go.Proofs.Try.func194 (body := bodyOf Go.Proofs.Try.f194) (by kernel_rfl) (N := 38) (by kernel_rfl) (hs := []) (by
  intro k xs r h
  unfold s194 at h
  dsimp only at h
  split at h
  · exact ⟨Nat.le_of_ble_eq_true rfl, (v194 k _ _).trans h⟩
  · cases h)
theorem env76_ok : EnvOk Go.Proofs.Try.prog (envOf env76) := envOf_cons m194 Go.Proofs.Try.func194 (by kernel_rfl) (by kernel_rfl) env75_ok

-- impl.long).sign$1
def f244 (k : Nat) (d : Int) : Option (Bool) :=
  some (!decide (d = 0))
def s244 : Spec := ⟨false, [(.bool, false)], true, .bool, fun k xs => match xs with | [.int .u32 d] => f244 k d | _ => none⟩
def env77 : List (FuncId × Spec) := (244, s244) :: env76
theorem v244 (k : Nat) (d : Int) : runFn ti (envOf env76) 5 [] (finT ti true Go.Proofs.Try.f244.results.toList [(.bool, false)] (.bool)) k (bodyOf Go.Proofs.Try.f244) (initS 0 [.int .u32 d]) = f244 k d := by kernel_rfl
theorem m244 : Meets Go.Proofs.Try.prog 244 s244 := meets_of_run tiOk env76_ok mo Go.Proofs.Try.func244 (body := bodyOf Go.Proofs.Try.f244) (by kernel_rfl) (N := 5) (by kernel_rfl) (hs := []) (by
  intro k xs r h
  unfold s244 at h
  dsimp only at h
  split at h
  · exact ⟨Nat.le_of_ble_eq_true rfl, (v244 k _).trans h⟩
  · cases h)
theorem env77_ok : EnvOk Go.Proofs.Try.prog (envOf env77) := envOf_cons m244 Go.Proofs.Try.func244 (by kernel_rfl) (by kernel_rfl) env76_ok

-- slices.IndexFunc[[]uint32,uint32]
def h274_244 : Hints := [(1002, .lab [(0, .one (.frz 224 (Ty.int IntKind.u32))), (1, .one (.v)), (7, .one (.v)), (8, .one (.v))])]
def F274_244_1002 (k : Nat) (rec1002 : List Int → Int → Int → Option (Int)) (s : List Int) (t7 : Int) (t8 : Int) : Option (Int) :=
  bif decide (t8 < t7) then
    bif boundA t8 (List.length s) then
      bif !decide (List.getD s (Int.toNat t8) 0 = 0) then
        some t8
      else
        rec1002 s t7 (IntKind.wrap IntKind.i64 (t8 + 1))
    else
      none
  else
    some (-1)
def F274_244 (k : Nat) (rec1002 : List Int → Int → Int → Option (Int)) (s : List (Int)) : Option (Int) :=
  rec1002 s ((↑(List.length s) : Int)) (0)
def l274_244 : Nat → (List Int → Int → Int → Option (Int))
  | 0 => fun _ _ _ => none
  | k + 1 => F274_244_1002 k (l274_244 k)
def f274_244 (k : Nat) (s : List (Int)) : Option (Int) := F274_244 k (l274_244 k) s
def s274 : Spec := ⟨false, [(.int .i64, false)], true, .int .i64, fun k xs => match xs with | [.slc 224 (.int .u32) s, .fn 244] => f274_244 k s | _ => none⟩
def env78 : List (FuncId × Spec) := (274, s274) :: env77
noncomputable abbrev x274_244 := exec ti (envOf env77) 19 h274_244 (finT ti true Go.Proofs.Try.f274.results.toList [(.int .i64, false)] (.int .i64))
noncomputable def k274_244_1002 : List It := stackAt [.r, .l, .r, .b, .lb none] (bodyOf Go.Proofs.Try.f274) []
def t274_244_1002 (s : List Int) (t7 : Int) (t8 : Int) : St := [(0, Cell.val (AVal.slc 224 (Ty.int IntKind.u32) s)), (2, Cell.val (AVal.fn 244)), (14, Cell.val (AVal.int IntKind.i64 t7)), (16, Cell.val (AVal.int IntKind.i64 t8))]
theorem e274_244_1002 (k : Nat) (s : List Int) (t7 : Int) (t8 : Int) : x274_244 (k + 1) k274_244_1002 (t274_244_1002 s t7 t8) = F274_244_1002 k (fun (s : List Int) (t7 : Int) (t8 : Int) => x274_244 k k274_244_1002 (t274_244_1002 s t7 t8)) s t7 t8 := by kernel_rfl
theorem q274_244 : ∀ k : Nat, (fun (s : List Int) (t7 : Int) (t8 : Int) => x274_244 k k274_244_1002 (t274_244_1002 s t7 t8)) = l274_244 k
  | 0 => rfl
  | k + 1 => by
    have h := q274_244 k
    show _ = F274_244_1002 k (l274_244 k)
    rw [← h]
    exact (funext fun s => funext fun t7 => funext fun t8 => e274_244_1002 k s t7 t8)
theorem w274_244 (k : Nat) (s : List (Int)) : runFn ti (envOf env77) 19 h274_244 (finT ti true Go.Proofs.Try.f274.results.toList [(.int .i64, false)] (.int .i64)) k (bodyOf Go.Proofs.Try.f274) (initS 0 [.slc 224 (.int .u32) s, .fn 244]) = F274_244 k (fun (s : List Int) (t7 : Int) (t8 : Int) => x274_244 k k274_244_1002 (t274_244_1002 s t7 t8)) s := by kernel_rfl
theorem v274_244 (k : Nat) (s : List (Int)) : runFn ti (envOf env77) 19 h274_244 (finT ti true Go.Proofs.Try.f274.results.toList [(.int .i64, false)] (.int .i64)) k (bodyOf Go.Proofs.Try.f274) (initS 0 [.slc 224 (.int .u32) s, .fn 244]) = f274_244 k s := by
  rw [w274_244]
  have h := q274_244 k
  unfold f274_244
  rw [← h]
theorem m274 : Meets Go.Proofs.Try.prog 274 s274 := meets_of_run tiOk env77_ok mo Go.Proofs.Try.func274 (body := bodyOf Go.Proofs.Try.f274) (by kernel_rfl) (N := 19) (by kernel_rfl) (hs := h274_244) (by
  intro k xs r h
  unfold s274 at h
  dsimp only at h
  split at h
  · exact ⟨Nat.le_of_ble_eq_true rfl, (v274_244 k _).trans h⟩
  · cases h)
theorem env78_ok : EnvOk Go.Proofs.Try.prog (envOf env78) := envOf_cons m274 Go.Proofs.Try.func274 (by kernel_rfl) (by kernel_rfl) env77_ok

-- slices.ContainsFunc[[]uint32,uint32]
def f243_244 (k : Nat) (s : List (Int)) : Option (Bool) :=
  (f274_244 k s).bind fun r0 =>
  some (decide (0 ≤ r0))
def s243 : Spec := ⟨false, [(.bool, false)], true, .bool, fun k xs => match xs with | [.slc 224 (.int .u32) s, .fn 244] => f243_244 k s | _ => none⟩
def env79 : List (FuncId × Spec) := (243, s243) :: env78
theorem v243_244 (k : Nat) (s : List (Int)) : runFn ti (envOf env78) 9 [] (finT ti true Go.Proofs.Try.f243.results.toList [(.bool, false)] (.bool)) k (bodyOf Go.Proofs.Try.f243) (initS 0 [.slc 224 (.int .u32) s, .fn 244]) = f243_244 k s := by kernel_rfl
theorem m243 : Meets Go.Proofs.Try.prog 243 s243 := meets_of_run tiOk env78_ok mo Go.Proofs.Try.func243 (body := bodyOf Go.Proofs.Try.f243) (by kernel_rfl) (N := 9) (by kernel_rfl) (hs := []) (by
  intro k xs r h
  unfold s243 at h
  dsimp only at h
  split at h
  · exact ⟨Nat.le_of_ble_eq_true rfl, (v243_244 k _).trans h⟩
  · cases h)
theorem env79_ok : EnvOk Go.Proofs.Try.prog (envOf env79) := envOf_cons m243 Go.Proofs.Try.func243 (by kernel_rfl) (by kernel_rfl) env78_ok

-- impl.long).sign
def f195 (k : Nat) (a_negative : Bool) (a_digits : List (Int)) : Option (Int) :=
  (f243_244 k a_digits).bind fun r0 =>
  bif !r0 then
    some (0)
  else
    bif a_negative then
      some (-1)
    else
      some (1)
def s195 : Spec := ⟨false, [(.int .i64, false)], true, .int .i64, fun k xs => match xs with | [.agg [.bool a_negative, .slc 224 (.int .u32) a_digits]] => f195 k a_negative a_digits | _ => none⟩
def env80 : List (FuncId × Spec) := (195, s195) :: env79
theorem v195 (k : Nat) (a_negative : Bool) (a_digits : List (Int)) : runFn ti (envOf env79) 9 [] (finT ti true Go.Proofs.Try.f195.results.toList [(.int .i64, false)] (.int .i64)) k (bodyOf Go.Proofs.Try.f195) (initS 0 [.agg [.bool a_negative, .slc 224 (.int .u32) a_digits]]) = f195 k a_negative a_digits := by kernel_rfl
theorem m195 : Meets Go.Proofs.Try.prog 195 s195 := meets_of_run tiOk env79_ok mo Go.Proofs.Try.func195 (body := bodyOf Go.Proofs.Try.f195) (by kernel_rfl) (N := 9) (by kernel_rfl) (hs := []) (by
  intro k xs r h
  unfold s195 at h
  dsimp only at h
  split at h
  · exact ⟨Nat.le_of_ble_eq_true rfl, (v195 k _ _).trans h⟩
  · cases h)
theorem env80_ok : EnvOk Go.Proofs.Try.prog (envOf env80) := envOf_cons m195 Go.Proofs.Try.func195 (by kernel_rfl) (by kernel_rfl) env79_ok

-- impl.signAt
def h131 : Hints := [(1003, .lab [(0, .one (.frz 3 (Ty.int IntKind.i64))), (3, .box 27 [.v, .v]), (5, .box 193 [.v, .own 224 (Ty.int IntKind.u32)]), (6, .one (.v))])]
def F131_1003 (k : Nat) (rec1003 : List Int → Int → Int → Bool → List Int → Int → Option (Int)) (p : List Int) (xs_0 : Int) (xs_1 : Int) (sums_0 : Bool) (sums : List Int) (i : Int) : Option (Int) :=
  bif decide (0 ≤ i) then
    (f192 k sums_0 sums xs_0).bind fun r0 =>
    bif boundA i (List.length p) then
      (f194 k (List.getD p (Int.toNat i) 0) (IntKind.wrap IntKind.i64 (xs_1 * IntKind.wrap IntKind.i64 (IntKind.wrap IntKind.i64 ((↑(List.length p) : Int) - 1) - i)))).bind fun r1 =>
      (f193 k r0.fst r0.snd r1.fst r1.snd).bind fun r2 =>
      rec1003 p xs_0 xs_1 (r2.fst) (r2.snd) (IntKind.wrap IntKind.i64 (i - 1))
    else
      none
  else
    (f195 k sums_0 sums).bind fun r3 =>
    some r3
def F131 (k : Nat) (rec1003 : List Int → Int → Int → Bool → List Int → Int → Option (Int)) (p : List (Int)) (x_N : Int) (x_K : Int) : Option (Int) :=
  rec1003 p x_N x_K false ([]) (IntKind.wrap IntKind.i64 ((↑(List.length p) : Int) - 1))
def l131 : Nat → (List Int → Int → Int → Bool → List Int → Int → Option (Int))
  | 0 => fun _ _ _ _ _ _ => none
  | k + 1 => F131_1003 k (l131 k)
def f131 (k : Nat) (p : List (Int)) (x_N : Int) (x_K : Int) : Option (Int) := F131 k (l131 k) p x_N x_K
def s131 : Spec := ⟨false, [(.int .i64, false)], true, .int .i64, fun k xs => match xs with | [.slc 3 (.int .i64) p, .agg [.int .i64 x_N, .int .i64 x_K]] => f131 k p x_N x_K | _ => none⟩
def env81 : List (FuncId × Spec) := (131, s131) :: env80
noncomputable abbrev x131 := exec ti (envOf env80) 35 h131 (finT ti true Go.Proofs.Try.f131.results.toList [(.int .i64, false)] (.int .i64))
noncomputable def k131_1003 : List It := stackAt [.r, .r, .l, .r, .b, .lb none] (bodyOf Go.Proofs.Try.f131) []
def t131_1003 (p : List Int) (xs_0 : Int) (xs_1 : Int) (sums_0 : Bool) (sums : List Int) (i : Int) : St := [(0, Cell.val (AVal.slc 3 (Ty.int IntKind.i64) p)), (6, Cell.val (AVal.ptr 3 0)), (3, Cell.mem true 27 [AVal.int IntKind.i64 xs_0, AVal.int IntKind.i64 xs_1]), (10, Cell.val (AVal.ptr 5 0)), (5, Cell.mem true 193 [AVal.bool sums_0, AVal.ref 7 none]), (7, Cell.row true 224 (Ty.int IntKind.u32) sums), (12, Cell.val (AVal.int IntKind.i64 i))]
theorem e131_1003 (k : Nat) (p : List Int) (xs_0 : Int) (xs_1 : Int) (sums_0 : Bool) (sums : List Int) (i : Int) : x131 (k + 1) k131_1003 (t131_1003 p xs_0 xs_1 sums_0 sums i) = F131_1003 k (fun (p : List Int) (xs_0 : Int) (xs_1 : Int) (sums_0 : Bool) (sums : List Int) (i : Int) => x131 k k131_1003 (t131_1003 p xs_0 xs_1 sums_0 sums i)) p xs_0 xs_1 sums_0 sums i := by kernel_rfl
theorem q131 : ∀ k : Nat, (fun (p : List Int) (xs_0 : Int) (xs_1 : Int) (sums_0 : Bool) (sums : List Int) (i : Int) => x131 k k131_1003 (t131_1003 p xs_0 xs_1 sums_0 sums i)) = l131 k
  | 0 => rfl
  | k + 1 => by
    have h := q131 k
    show _ = F131_1003 k (l131 k)
    rw [← h]
    exact (funext fun p => funext fun xs_0 => funext fun xs_1 => funext fun sums_0 => funext fun sums => funext fun i => e131_1003 k p xs_0 xs_1 sums_0 sums i)
theorem w131 (k : Nat) (p : List (Int)) (x_N : Int) (x_K : Int) : runFn ti (envOf env80) 35 h131 (finT ti true Go.Proofs.Try.f131.results.toList [(.int .i64, false)] (.int .i64)) k (bodyOf Go.Proofs.Try.f131) (initS 0 [.slc 3 (.int .i64) p, .agg [.int .i64 x_N, .int .i64 x_K]]) = F131 k (fun (p : List Int) (xs_0 : Int) (xs_1 : Int) (sums_0 : Bool) (sums : List Int) (i : Int) => x131 k k131_1003 (t131_1003 p xs_0 xs_1 sums_0 sums i)) p x_N x_K := by kernel_rfl
theorem v131 (k : Nat) (p : List (Int)) (x_N : Int) (x_K : Int) : runFn ti (envOf env80) 35 h131 (finT ti true Go.Proofs.Try.f131.results.toList [(.int .i64, false)] (.int .i64)) k (bodyOf Go.Proofs.Try.f131) (initS 0 [.slc 3 (.int .i64) p, .agg [.int .i64 x_N, .int .i64 x_K]]) = f131 k p x_N x_K := by
  rw [w131]
  have h := q131 k
  unfold f131
  rw [← h]
theorem m131 : Meets Go.Proofs.Try.prog 131 s131 := meets_of_run tiOk env80_ok mo Go.Proofs.Try.func131 (body := bodyOf Go.Proofs.Try.f131) (by kernel_rfl) (N := 35) (by kernel_rfl) (hs := h131) (by
  intro k xs r h
  unfold s131 at h
  dsimp only at h
  split at h
  · exact ⟨Nat.le_of_ble_eq_true rfl, (v131 k _ _ _).trans h⟩
  · cases h)
theorem env81_ok : EnvOk Go.Proofs.Try.prog (envOf env81) := envOf_cons m131 Go.Proofs.Try.func131 (by kernel_rfl) (by kernel_rfl) env80_ok

-- impl.familySign
def f137 (k : Nat) (p : List (Int)) (q : List (Int)) (x_N : Int) (x_K : Int) (i : Int) (k_ : Int) (fine : Int) : Option (Int) :=
  (f77 k p q i fine).bind fun r0 =>
  (f131 k r0 x_N x_K).bind fun r1 =>
  (f77 k p q k_ fine).bind fun r2 =>
  (f131 k r2 x_N x_K).bind fun r3 =>
  bif !decide (r3 = r1) then
    some (0)
  else
    some r1
def s137 : Spec := ⟨false, [(.int .i64, false)], true, .int .i64, fun k xs => match xs with | [.slc 3 (.int .i64) p, .slc 3 (.int .i64) q, .agg [.int .i64 x_N, .int .i64 x_K], .int .i64 i, .int .i64 k_, .int .i64 fine] => f137 k p q x_N x_K i k_ fine | _ => none⟩
def env82 : List (FuncId × Spec) := (137, s137) :: env81
theorem v137 (k : Nat) (p : List (Int)) (q : List (Int)) (x_N : Int) (x_K : Int) (i : Int) (k_ : Int) (fine : Int) : runFn ti (envOf env81) 31 [] (finT ti true Go.Proofs.Try.f137.results.toList [(.int .i64, false)] (.int .i64)) k (bodyOf Go.Proofs.Try.f137) (initS 0 [.slc 3 (.int .i64) p, .slc 3 (.int .i64) q, .agg [.int .i64 x_N, .int .i64 x_K], .int .i64 i, .int .i64 k_, .int .i64 fine]) = f137 k p q x_N x_K i k_ fine := by kernel_rfl
theorem m137 : Meets Go.Proofs.Try.prog 137 s137 := meets_of_run tiOk env81_ok mo Go.Proofs.Try.func137 (body := bodyOf Go.Proofs.Try.f137) (by kernel_rfl) (N := 31) (by kernel_rfl) (hs := []) (by
  intro k xs r h
  unfold s137 at h
  dsimp only at h
  split at h
  · exact ⟨Nat.le_of_ble_eq_true rfl, (v137 k _ _ _ _ _ _ _).trans h⟩
  · cases h)
theorem env82_ok : EnvOk Go.Proofs.Try.prog (envOf env82) := envOf_cons m137 Go.Proofs.Try.func137 (by kernel_rfl) (by kernel_rfl) env81_ok

-- impl.deriveSingle
def h202 : Hints := [(1003, .lab [(0, .one (.frz 3 (Ty.int IntKind.i64))), (3, .one (.own 3 (Ty.int IntKind.i64))), (4, .one (.v))])]
def F202_1003 (k : Nat) (rec1003 : List Int → List Int → Int → Option (List (Int))) (p : List Int) (outs : List Int) (i : Int) : Option (List (Int)) :=
  bif decide (i < (↑(List.length p) : Int)) then
    bif boundA i (List.length p) then
      bif decide ((List.length outs + List.length [IntKind.wrap IntKind.i64 (i * List.getD p (Int.toNat i) 0)]) * 8 ≤ 140737488355328) then
        rec1003 p (outs ++ [IntKind.wrap IntKind.i64 (i * List.getD p (Int.toNat i) 0)]) (IntKind.wrap IntKind.i64 (i + 1))
      else
        none
    else
      none
  else
    (f198 k outs).bind fun r0 =>
    some r0
def F202 (k : Nat) (rec1003 : List Int → List Int → Int → Option (List (Int))) (p : List (Int)) : Option (List (Int)) :=
  rec1003 p ([]) (1)
def l202 : Nat → (List Int → List Int → Int → Option (List (Int)))
  | 0 => fun _ _ _ => none
  | k + 1 => F202_1003 k (l202 k)
def f202 (k : Nat) (p : List (Int)) : Option (List (Int)) := F202 k (l202 k) p
def s202 : Spec := ⟨false, [(.slice 3 (.int .i64), false)], true, .slice 3 (.int .i64), fun k xs => match xs with | [.slc 3 (.int .i64) p] => f202 k p | _ => none⟩
def env83 : List (FuncId × Spec) := (202, s202) :: env82
noncomputable abbrev x202 := exec ti (envOf env82) 22 h202 (finT ti true Go.Proofs.Try.f202.results.toList [(.slice 3 (.int .i64), false)] (.slice 3 (.int .i64)))
noncomputable def k202_1003 : List It := stackAt [.r, .r, .l, .r, .b, .lb none] (bodyOf Go.Proofs.Try.f202) []
def t202_1003 (p : List Int) (outs : List Int) (i : Int) : St := [(0, Cell.val (AVal.slc 3 (Ty.int IntKind.i64) p)), (6, Cell.val (AVal.ref 3 none)), (3, Cell.row true 3 (Ty.int IntKind.i64) outs), (8, Cell.val (AVal.int IntKind.i64 i))]
theorem e202_1003 (k : Nat) (p : List Int) (outs : List Int) (i : Int) : x202 (k + 1) k202_1003 (t202_1003 p outs i) = F202_1003 k (fun (p : List Int) (outs : List Int) (i : Int) => x202 k k202_1003 (t202_1003 p outs i)) p outs i := by kernel_rfl
theorem q202 : ∀ k : Nat, (fun (p : List Int) (outs : List Int) (i : Int) => x202 k k202_1003 (t202_1003 p outs i)) = l202 k
  | 0 => rfl
  | k + 1 => by
    have h := q202 k
    show _ = F202_1003 k (l202 k)
    rw [← h]
    exact (funext fun p => funext fun outs => funext fun i => e202_1003 k p outs i)
theorem w202 (k : Nat) (p : List (Int)) : runFn ti (envOf env82) 22 h202 (finT ti true Go.Proofs.Try.f202.results.toList [(.slice 3 (.int .i64), false)] (.slice 3 (.int .i64))) k (bodyOf Go.Proofs.Try.f202) (initS 0 [.slc 3 (.int .i64) p]) = F202 k (fun (p : List Int) (outs : List Int) (i : Int) => x202 k k202_1003 (t202_1003 p outs i)) p := by kernel_rfl
theorem v202 (k : Nat) (p : List (Int)) : runFn ti (envOf env82) 22 h202 (finT ti true Go.Proofs.Try.f202.results.toList [(.slice 3 (.int .i64), false)] (.slice 3 (.int .i64))) k (bodyOf Go.Proofs.Try.f202) (initS 0 [.slc 3 (.int .i64) p]) = f202 k p := by
  rw [w202]
  have h := q202 k
  unfold f202
  rw [← h]
theorem m202 : Meets Go.Proofs.Try.prog 202 s202 := meets_of_run tiOk env82_ok mo Go.Proofs.Try.func202 (body := bodyOf Go.Proofs.Try.f202) (by kernel_rfl) (N := 22) (by kernel_rfl) (hs := h202) (by
  intro k xs r h
  unfold s202 at h
  dsimp only at h
  split at h
  · exact ⟨Nat.le_of_ble_eq_true rfl, (v202 k _).trans h⟩
  · cases h)
theorem env83_ok : EnvOk Go.Proofs.Try.prog (envOf env83) := envOf_cons m202 Go.Proofs.Try.func202 (by kernel_rfl) (by kernel_rfl) env82_ok

-- impl.powerSingle
def h249 : Hints := [(1003, .lab [(0, .one (.frz 3 (Ty.int IntKind.i64))), (5, .one (.own 3 (Ty.int IntKind.i64))), (7, .one (.v)), (8, .one (.v))])]
def F249_1003 (k : Nat) (rec1003 : List Int → List Int → Int → Int → Option (List (Int))) (p : List Int) (outs : List Int) (t7 : Int) (t8 : Int) : Option (List (Int)) :=
  bif decide (t8 < t7) then
    (f134 k outs p).bind fun r0 =>
    rec1003 p r0 t7 (IntKind.wrap IntKind.i64 (t8 + 1))
  else
    some outs
def F249 (k : Nat) (rec1003 : List Int → List Int → Int → Int → Option (List (Int))) (p : List (Int)) (n : Int) : Option (List (Int)) :=
  rec1003 p ([1]) n (0)
def l249 : Nat → (List Int → List Int → Int → Int → Option (List (Int)))
  | 0 => fun _ _ _ _ => none
  | k + 1 => F249_1003 k (l249 k)
def f249 (k : Nat) (p : List (Int)) (n : Int) : Option (List (Int)) := F249 k (l249 k) p n
def s249 : Spec := ⟨false, [(.slice 3 (.int .i64), false)], true, .slice 3 (.int .i64), fun k xs => match xs with | [.slc 3 (.int .i64) p, .int .i64 n] => f249 k p n | _ => none⟩
def env84 : List (FuncId × Spec) := (249, s249) :: env83
noncomputable abbrev x249 := exec ti (envOf env83) 15 h249 (finT ti true Go.Proofs.Try.f249.results.toList [(.slice 3 (.int .i64), false)] (.slice 3 (.int .i64)))
noncomputable def k249_1003 : List It := stackAt [.r, .r, .l, .r, .b, .lb none] (bodyOf Go.Proofs.Try.f249) []
def t249_1003 (p : List Int) (outs : List Int) (t7 : Int) (t8 : Int) : St := [(0, Cell.val (AVal.slc 3 (Ty.int IntKind.i64) p)), (10, Cell.val (AVal.ref 3 none)), (3, Cell.row true 3 (Ty.int IntKind.i64) outs), (14, Cell.val (AVal.int IntKind.i64 t7)), (16, Cell.val (AVal.int IntKind.i64 t8))]
theorem e249_1003 (k : Nat) (p : List Int) (outs : List Int) (t7 : Int) (t8 : Int) : x249 (k + 1) k249_1003 (t249_1003 p outs t7 t8) = F249_1003 k (fun (p : List Int) (outs : List Int) (t7 : Int) (t8 : Int) => x249 k k249_1003 (t249_1003 p outs t7 t8)) p outs t7 t8 := by kernel_rfl
theorem q249 : ∀ k : Nat, (fun (p : List Int) (outs : List Int) (t7 : Int) (t8 : Int) => x249 k k249_1003 (t249_1003 p outs t7 t8)) = l249 k
  | 0 => rfl
  | k + 1 => by
    have h := q249 k
    show _ = F249_1003 k (l249 k)
    rw [← h]
    exact (funext fun p => funext fun outs => funext fun t7 => funext fun t8 => e249_1003 k p outs t7 t8)
theorem w249 (k : Nat) (p : List (Int)) (n : Int) : runFn ti (envOf env83) 15 h249 (finT ti true Go.Proofs.Try.f249.results.toList [(.slice 3 (.int .i64), false)] (.slice 3 (.int .i64))) k (bodyOf Go.Proofs.Try.f249) (initS 0 [.slc 3 (.int .i64) p, .int .i64 n]) = F249 k (fun (p : List Int) (outs : List Int) (t7 : Int) (t8 : Int) => x249 k k249_1003 (t249_1003 p outs t7 t8)) p n := by kernel_rfl
theorem v249 (k : Nat) (p : List (Int)) (n : Int) : runFn ti (envOf env83) 15 h249 (finT ti true Go.Proofs.Try.f249.results.toList [(.slice 3 (.int .i64), false)] (.slice 3 (.int .i64))) k (bodyOf Go.Proofs.Try.f249) (initS 0 [.slc 3 (.int .i64) p, .int .i64 n]) = f249 k p n := by
  rw [w249]
  have h := q249 k
  unfold f249
  rw [← h]
theorem m249 : Meets Go.Proofs.Try.prog 249 s249 := meets_of_run tiOk env83_ok mo Go.Proofs.Try.func249 (body := bodyOf Go.Proofs.Try.f249) (by kernel_rfl) (N := 15) (by kernel_rfl) (hs := h249) (by
  intro k xs r h
  unfold s249 at h
  dsimp only at h
  split at h
  · exact ⟨Nat.le_of_ble_eq_true rfl, (v249 k _ _).trans h⟩
  · cases h)
theorem env84_ok : EnvOk Go.Proofs.Try.prog (envOf env84) := envOf_cons m249 Go.Proofs.Try.func249 (by kernel_rfl) (by kernel_rfl) env83_ok

end Go.Proofs.YtbaeikcfchiiaaaE
