/- Functions, by the engine; printed. -/
import Derived.Test.YtbaeikcfchiiaaaNF9
set_option maxRecDepth 100000
set_option maxHeartbeats 4000000
set_option linter.unusedVariables false
namespace Go.Proofs.YtbaeikcfchiiaaaE
-- impl.FindStep
noncomputable def f61 (k : Nat) (p : List (Int)) (q : List (Int)) (x_Low_N : Int) (x_Low_K : Int) (x_High_N : Int) (x_High_K : Int) (i : Int) (fine : Int) : Option (((Int × Int) × Int × Int) × Bool) :=
  (f73 k p q fine).bind fun r0 =>
  bif !r0 then
    some ((((0, 0), 0, 0), false))
  else
    (f74 k x_Low_N x_Low_K x_High_N x_High_K).bind fun r1 =>
    bif !r1 then
      some ((((0, 0), 0, 0), false))
    else
      (f75 k (IntKind.wrap IntKind.i64 (i + 1)) fine).bind fun r2 =>
      bif !r2 then
        some ((((0, 0), 0, 0), false))
      else
        bif decide (i < 0) then
          some ((((0, 0), 0, 0), false))
        else
          (f116 k p q x_Low_N x_Low_K x_High_N x_High_K i fine).bind fun r3 =>
          some ((((r3.fst.fst.fst, r3.fst.fst.snd), r3.fst.snd.fst, r3.fst.snd.snd), r3.snd))
noncomputable def s61 : Spec := ⟨false, [(.pair (.pair (.int .i64) (.int .i64)) (.pair (.int .i64) (.int .i64)), true), (.bool, false)], true, .pair (.pair (.pair (.int .i64) (.int .i64)) (.pair (.int .i64) (.int .i64))) (.bool), fun k xs => match xs with | [.slc 3 (.int .i64) p, .slc 3 (.int .i64) q, .agg [.int .i64 x_Low_N, .int .i64 x_Low_K, .int .i64 x_High_N, .int .i64 x_High_K], .int .i64 i, .int .i64 fine] => f61 k p q x_Low_N x_Low_K x_High_N x_High_K i fine | _ => none⟩
noncomputable def env109 : List (FuncId × Spec) := (61, s61) :: env108
theorem v61 (k : Nat) (p : List (Int)) (q : List (Int)) (x_Low_N : Int) (x_Low_K : Int) (x_High_N : Int) (x_High_K : Int) (i : Int) (fine : Int) : runFn ti (envOf env108) 42 [] (finT ti true Go.Proofs.Try.f61.results.toList [(.pair (.pair (.int .i64) (.int .i64)) (.pair (.int .i64) (.int .i64)), true), (.bool, false)] (.pair (.pair (.pair (.int .i64) (.int .i64)) (.pair (.int .i64) (.int .i64))) (.bool))) k (bodyOf Go.Proofs.Try.f61) (initS 0 [.slc 3 (.int .i64) p, .slc 3 (.int .i64) q, .agg [.int .i64 x_Low_N, .int .i64 x_Low_K, .int .i64 x_High_N, .int .i64 x_High_K], .int .i64 i, .int .i64 fine]) = f61 k p q x_Low_N x_Low_K x_High_N x_High_K i fine := by kernel_rfl
theorem m61 : Meets Go.Proofs.Try.prog 61 s61 := meets_of_run tiOk env108_ok mo Go.Proofs.Try.func61 (body := bodyOf Go.Proofs.Try.f61) (by kernel_rfl) (N := 42) (by kernel_rfl) (hs := []) (by
  intro k xs r h
  unfold s61 at h
  dsimp only at h
  split at h
  · exact ⟨Nat.le_of_ble_eq_true rfl, (v61 k _ _ _ _ _ _ _ _).trans h⟩
  · cases h)
theorem env109_ok : EnvOk Go.Proofs.Try.prog (envOf env109) := envOf_cons m61 Go.Proofs.Try.func61 (by kernel_rfl) (by kernel_rfl) env108_ok

-- laws.FnExactFindStep
noncomputable def f12 (k : Nat) (L : List (Int)) (i : List (Int)) (s_Low_N : Int) (s_Low_K : Int) (s_High_N : Int) (s_High_K : Int) (t : Int) (t4 : Int) : Option (Bool) :=
  bif decide (1000000 < IntKind.wrap IntKind.i64 ((↑(List.length L) : Int) + (↑(List.length i) : Int))) then
    some true
  else
    (f15 k L false).bind fun r0 =>
    (f15 k i false).bind fun r1 =>
    (f60 k (List.take r0.snd r0.fst) (List.take r1.snd r1.fst) s_Low_N s_Low_K s_High_N s_High_K t t4).bind fun r2 =>
    (f15 k L false).bind fun r3 =>
    (f15 k i false).bind fun r4 =>
    (f61 k (List.take r3.snd r3.fst) (List.take r4.snd r4.fst) s_Low_N s_Low_K s_High_N s_High_K t t4).bind fun r5 =>
    (f18 k r5.fst.fst.fst r5.fst.fst.snd r5.fst.snd.fst r5.fst.snd.snd r2.fst.fst.fst r2.fst.fst.snd r2.fst.snd.fst r2.fst.snd.snd).bind fun r6 =>
    bif !r6 then
      some false
    else
      bif !r5.snd == r2.snd then
        some false
      else
        (f15 k L false).bind fun r7 =>
        (f19 k r3.fst r3.snd r7.fst r7.snd).bind fun r8 =>
        bif !r8 then
          some false
        else
          (f15 k i false).bind fun r9 =>
          (f19 k r4.fst r4.snd r9.fst r9.snd).bind fun r10 =>
          bif !r10 then
            some false
          else
            (f15 k L true).bind fun r11 =>
            (f15 k i true).bind fun r12 =>
            (f61 k (List.take r11.snd r11.fst) (List.take r12.snd r12.fst) s_Low_N s_Low_K s_High_N s_High_K t t4).bind fun r13 =>
            (f18 k r13.fst.fst.fst r13.fst.fst.snd r13.fst.snd.fst r13.fst.snd.snd r2.fst.fst.fst r2.fst.fst.snd r2.fst.snd.fst r2.fst.snd.snd).bind fun r14 =>
            bif !r14 then
              some false
            else
              bif !r13.snd == r2.snd then
                some false
              else
                some true
noncomputable def s12 : Spec := ⟨false, [(.bool, false)], true, .bool, fun k xs => match xs with | [.slc 3 (.int .i64) L, .slc 3 (.int .i64) i, .agg [.int .i64 s_Low_N, .int .i64 s_Low_K, .int .i64 s_High_N, .int .i64 s_High_K], .int .i64 t, .int .i64 t4] => f12 k L i s_Low_N s_Low_K s_High_N s_High_K t t4 | _ => none⟩
noncomputable def env110 : List (FuncId × Spec) := (12, s12) :: env109
theorem v12 (k : Nat) (L : List (Int)) (i : List (Int)) (s_Low_N : Int) (s_Low_K : Int) (s_High_N : Int) (s_High_K : Int) (t : Int) (t4 : Int) : runFn tiV (envOf env109) 91 [] (finT tiV true Go.Proofs.Try.f12.results.toList [(.bool, false)] (.bool)) k (bodyOf Go.Proofs.Try.f12) (initS 0 [.slc 3 (.int .i64) L, .slc 3 (.int .i64) i, .agg [.int .i64 s_Low_N, .int .i64 s_Low_K, .int .i64 s_High_N, .int .i64 s_High_K], .int .i64 t, .int .i64 t4]) = f12 k L i s_Low_N s_Low_K s_High_N s_High_K t t4 := by kernel_rfl
theorem m12 : Meets Go.Proofs.Try.prog 12 s12 := meets_of_run tiVOk env109_ok mo Go.Proofs.Try.func12 (body := bodyOf Go.Proofs.Try.f12) (by kernel_rfl) (N := 91) (by kernel_rfl) (hs := []) (by
  intro k xs r h
  unfold s12 at h
  dsimp only at h
  split at h
  · exact ⟨Nat.le_of_ble_eq_true rfl, (v12 k _ _ _ _ _ _ _ _).trans h⟩
  · cases h)
theorem env110_ok : EnvOk Go.Proofs.Try.prog (envOf env110) := envOf_cons m12 Go.Proofs.Try.func12 (by kernel_rfl) (by kernel_rfl) env109_ok

end Go.Proofs.YtbaeikcfchiiaaaE
