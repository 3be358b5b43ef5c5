/- Functions, by the engine; printed. -/
import Derived.Test.YtbaeikcfchiiaaaST7
set_option maxRecDepth 100000
set_option maxHeartbeats 4000000
set_option linter.unusedVariables false
namespace Go.Proofs.YtbaeikcfchiiaaaE
-- impl.StepHolds
def f21 (k : Nat) (p : List (Int)) (q : List (Int)) (x_Low_N : Int) (x_Low_K : Int) (x_High_N : Int) (x_High_K : Int) (i : Int) (fine : Int) : Option (Bool × Bool) :=
  (f73 k p q fine).bind fun r0 =>
  bif !r0 then
    some ((false, false))
  else
    (f74 k x_Low_N x_Low_K x_High_N x_High_K).bind fun r1 =>
    bif !r1 then
      some ((false, false))
    else
      (f75 k (IntKind.wrap IntKind.i64 (i + 1)) fine).bind fun r2 =>
      bif !r2 then
        some ((false, false))
      else
        bif decide (i < 0) then
          some ((false, false))
        else
          (f81 k p q x_Low_N x_Low_K x_High_N x_High_K i fine).bind fun r3 =>
          some ((r3, true))
def s21 : Spec := ⟨false, [(.bool, false), (.bool, false)], true, .pair (.bool) (.bool), fun k xs => match xs with | [.slc 3 (.int .i64) p, .slc 3 (.int .i64) q, .agg [.int .i64 x_Low_N, .int .i64 x_Low_K, .int .i64 x_High_N, .int .i64 x_High_K], .int .i64 i, .int .i64 fine] => f21 k p q x_Low_N x_Low_K x_High_N x_High_K i fine | _ => none⟩
def env85 : List (FuncId × Spec) := (21, s21) :: env84
theorem v21 (k : Nat) (p : List (Int)) (q : List (Int)) (x_Low_N : Int) (x_Low_K : Int) (x_High_N : Int) (x_High_K : Int) (i : Int) (fine : Int) : runFn ti (envOf env84) 39 [] (finT ti true Go.Proofs.Try.f21.results.toList [(.bool, false), (.bool, false)] (.pair (.bool) (.bool))) k (bodyOf Go.Proofs.Try.f21) (initS 0 [.slc 3 (.int .i64) p, .slc 3 (.int .i64) q, .agg [.int .i64 x_Low_N, .int .i64 x_Low_K, .int .i64 x_High_N, .int .i64 x_High_K], .int .i64 i, .int .i64 fine]) = f21 k p q x_Low_N x_Low_K x_High_N x_High_K i fine := by kernel_rfl
theorem m21 : Meets Go.Proofs.Try.prog 21 s21 := meets_of_run tiOk env84_ok mo Go.Proofs.Try.func21 (body := bodyOf Go.Proofs.Try.f21) (by kernel_rfl) (N := 39) (by kernel_rfl) (hs := []) (by
  intro k xs r h
  unfold s21 at h
  dsimp only at h
  split at h
  · exact ⟨Nat.le_of_ble_eq_true rfl, (v21 k _ _ _ _ _ _ _ _).trans h⟩
  · cases h)
theorem env85_ok : EnvOk Go.Proofs.Try.prog (envOf env85) := envOf_cons m21 Go.Proofs.Try.func21 (by kernel_rfl) (by kernel_rfl) env84_ok

-- laws.FnExactStepHolds
def f4 (k : Nat) (L : List (Int)) (i : List (Int)) (s_Low_N : Int) (s_Low_K : Int) (s_High_N : Int) (s_High_K : Int) (t : Int) (t4 : Int) : Option (Bool) :=
  bif decide (1000000 < IntKind.wrap IntKind.i64 ((↑(List.length L) : Int) + (↑(List.length i) : Int))) then
    some true
  else
    (f15 k L false).bind fun r0 =>
    (f15 k i false).bind fun r1 =>
    (f20 k (List.take r0.snd r0.fst) (List.take r1.snd r1.fst) s_Low_N s_Low_K s_High_N s_High_K t t4).bind fun r2 =>
    (f15 k L false).bind fun r3 =>
    (f15 k i false).bind fun r4 =>
    (f21 k (List.take r3.snd r3.fst) (List.take r4.snd r4.fst) s_Low_N s_Low_K s_High_N s_High_K t t4).bind fun r5 =>
    bif !r5.fst == r2.fst then
      some false
    else
      bif !r5.snd == r2.snd then
        some false
      else
        (f15 k L false).bind fun r6 =>
        (f19 k r3.fst r3.snd r6.fst r6.snd).bind fun r7 =>
        bif !r7 then
          some false
        else
          (f15 k i false).bind fun r8 =>
          (f19 k r4.fst r4.snd r8.fst r8.snd).bind fun r9 =>
          bif !r9 then
            some false
          else
            (f15 k L true).bind fun r10 =>
            (f15 k i true).bind fun r11 =>
            (f21 k (List.take r10.snd r10.fst) (List.take r11.snd r11.fst) s_Low_N s_Low_K s_High_N s_High_K t t4).bind fun r12 =>
            bif !r12.fst == r2.fst then
              some false
            else
              bif !r12.snd == r2.snd then
                some false
              else
                some true
def s4 : Spec := ⟨false, [(.bool, false)], true, .bool, fun k xs => match xs with | [.slc 3 (.int .i64) L, .slc 3 (.int .i64) i, .agg [.int .i64 s_Low_N, .int .i64 s_Low_K, .int .i64 s_High_N, .int .i64 s_High_K], .int .i64 t, .int .i64 t4] => f4 k L i s_Low_N s_Low_K s_High_N s_High_K t t4 | _ => none⟩
def env86 : List (FuncId × Spec) := (4, s4) :: env85
theorem v4 (k : Nat) (L : List (Int)) (i : List (Int)) (s_Low_N : Int) (s_Low_K : Int) (s_High_N : Int) (s_High_K : Int) (t : Int) (t4 : Int) : runFn tiV (envOf env85) 89 [] (finT tiV true Go.Proofs.Try.f4.results.toList [(.bool, false)] (.bool)) k (bodyOf Go.Proofs.Try.f4) (initS 0 [.slc 3 (.int .i64) L, .slc 3 (.int .i64) i, .agg [.int .i64 s_Low_N, .int .i64 s_Low_K, .int .i64 s_High_N, .int .i64 s_High_K], .int .i64 t, .int .i64 t4]) = f4 k L i s_Low_N s_Low_K s_High_N s_High_K t t4 := by kernel_rfl
theorem m4 : Meets Go.Proofs.Try.prog 4 s4 := meets_of_run tiVOk env85_ok mo Go.Proofs.Try.func4 (body := bodyOf Go.Proofs.Try.f4) (by kernel_rfl) (N := 89) (by kernel_rfl) (hs := []) (by
  intro k xs r h
  unfold s4 at h
  dsimp only at h
  split at h
  · exact ⟨Nat.le_of_ble_eq_true rfl, (v4 k _ _ _ _ _ _ _ _).trans h⟩
  · cases h)
theorem env86_ok : EnvOk Go.Proofs.Try.prog (envOf env86) := envOf_cons m4 Go.Proofs.Try.func4 (by kernel_rfl) (by kernel_rfl) env85_ok

end Go.Proofs.YtbaeikcfchiiaaaE
