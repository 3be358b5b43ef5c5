/- Functions, by the engine; printed. -/
import Derived.Test.YtbaeikcfchiiaaaCT8
set_option maxRecDepth 100000
set_option maxHeartbeats 4000000
set_option linter.unusedVariables false
namespace Go.Proofs.YtbaeikcfchiiaaaE
-- laws.eqInterval
def f18 (k : Nat) (a_Low_N : Int) (a_Low_K : Int) (a_High_N : Int) (a_High_K : Int) (b_Low_N : Int) (b_Low_K : Int) (b_High_N : Int) (b_High_K : Int) : Option (Bool) :=
  (f78 k a_Low_N a_Low_K b_Low_N b_Low_K).bind fun r0 =>
  bif !r0 then
    some false
  else
    (f78 k a_High_N a_High_K b_High_N b_High_K).bind fun r1 =>
    bif !r1 then
      some false
    else
      some true
def s18 : Spec := ⟨false, [(.bool, false)], true, .bool, fun k xs => match xs with | [.agg [.int .i64 a_Low_N, .int .i64 a_Low_K, .int .i64 a_High_N, .int .i64 a_High_K], .agg [.int .i64 b_Low_N, .int .i64 b_Low_K, .int .i64 b_High_N, .int .i64 b_High_K]] => f18 k a_Low_N a_Low_K a_High_N a_High_K b_Low_N b_Low_K b_High_N b_High_K | _ => none⟩
def env97 : List (FuncId × Spec) := (18, s18) :: env96
theorem v18 (k : Nat) (a_Low_N : Int) (a_Low_K : Int) (a_High_N : Int) (a_High_K : Int) (b_Low_N : Int) (b_Low_K : Int) (b_High_N : Int) (b_High_K : Int) : runFn ti (envOf env96) 17 [] (finT ti true Go.Proofs.Try.f18.results.toList [(.bool, false)] (.bool)) k (bodyOf Go.Proofs.Try.f18) (initS 0 [.agg [.int .i64 a_Low_N, .int .i64 a_Low_K, .int .i64 a_High_N, .int .i64 a_High_K], .agg [.int .i64 b_Low_N, .int .i64 b_Low_K, .int .i64 b_High_N, .int .i64 b_High_K]]) = f18 k a_Low_N a_Low_K a_High_N a_High_K b_Low_N b_Low_K b_High_N b_High_K := by kernel_rfl
theorem m18 : Meets Go.Proofs.Try.prog 18 s18 := meets_of_run tiOk env96_ok mo Go.Proofs.Try.func18 (body := bodyOf Go.Proofs.Try.f18) (by kernel_rfl) (N := 17) (by kernel_rfl) (hs := []) (by
  intro k xs r h
  unfold s18 at h
  dsimp only at h
  split at h
  · exact ⟨Nat.le_of_ble_eq_true rfl, (v18 k _ _ _ _ _ _ _ _).trans h⟩
  · cases h)
theorem env97_ok : EnvOk Go.Proofs.Try.prog (envOf env97) := envOf_cons m18 Go.Proofs.Try.func18 (by kernel_rfl) (by kernel_rfl) env96_ok

-- laws.eqIntervalS
def h120 : Hints := [(1004, .lab [(0, .one (.frz 29 (Ty.pair (Ty.pair (Ty.int IntKind.i64) (Ty.int IntKind.i64)) (Ty.pair (Ty.int IntKind.i64) (Ty.int IntKind.i64))))), (1, .one (.frz 29 (Ty.pair (Ty.pair (Ty.int IntKind.i64) (Ty.int IntKind.i64)) (Ty.pair (Ty.int IntKind.i64) (Ty.int IntKind.i64))))), (5, .one (.v))])]
def F120_1004 (k : Nat) (rec1004 : List ((Int × Int) × Int × Int) → List ((Int × Int) × Int × Int) → Int → Option (Bool)) (a : List ((Int × Int) × Int × Int)) (b : List ((Int × Int) × Int × Int)) (i : Int) : Option (Bool) :=
  bif decide (i < (↑(List.length a) : Int)) then
    bif boundA i (List.length a) then
      bif boundA i (List.length b) then
        (f18 k (List.getD a (Int.toNat i) ((0, 0), 0, 0)).fst.fst (List.getD a (Int.toNat i) ((0, 0), 0, 0)).fst.snd (List.getD a (Int.toNat i) ((0, 0), 0, 0)).snd.fst (List.getD a (Int.toNat i) ((0, 0), 0, 0)).snd.snd (List.getD b (Int.toNat i) ((0, 0), 0, 0)).fst.fst (List.getD b (Int.toNat i) ((0, 0), 0, 0)).fst.snd (List.getD b (Int.toNat i) ((0, 0), 0, 0)).snd.fst (List.getD b (Int.toNat i) ((0, 0), 0, 0)).snd.snd).bind fun r0 =>
        bif !r0 then
          some false
        else
          rec1004 a b (IntKind.wrap IntKind.i64 (i + 1))
      else
        none
    else
      none
  else
    some true
def F120 (k : Nat) (rec1004 : List ((Int × Int) × Int × Int) → List ((Int × Int) × Int × Int) → Int → Option (Bool)) (a : List ((Int × Int) × Int × Int)) (b : List ((Int × Int) × Int × Int)) : Option (Bool) :=
  bif !decide ((↑(List.length a) : Int) = (↑(List.length b) : Int)) then
    some false
  else
    rec1004 a b (0)
def l120 : Nat → (List ((Int × Int) × Int × Int) → List ((Int × Int) × Int × Int) → Int → Option (Bool))
  | 0 => fun _ _ _ => none
  | k + 1 => F120_1004 k (l120 k)
def f120 (k : Nat) (a : List ((Int × Int) × Int × Int)) (b : List ((Int × Int) × Int × Int)) : Option (Bool) := F120 k (l120 k) a b
def s120 : Spec := ⟨false, [(.bool, false)], true, .bool, fun k xs => match xs with | [.slc 29 (.pair (.pair (.int .i64) (.int .i64)) (.pair (.int .i64) (.int .i64))) a, .slc 29 (.pair (.pair (.int .i64) (.int .i64)) (.pair (.int .i64) (.int .i64))) b] => f120 k a b | _ => none⟩
def env98 : List (FuncId × Spec) := (120, s120) :: env97
noncomputable abbrev x120 := exec ti (envOf env97) 27 h120 (finT ti true Go.Proofs.Try.f120.results.toList [(.bool, false)] (.bool))
noncomputable def k120_1004 : List It := stackAt [.r, .r, .l, .r, .b, .lb none] (bodyOf Go.Proofs.Try.f120) []
def t120_1004 (a : List ((Int × Int) × Int × Int)) (b : List ((Int × Int) × Int × Int)) (i : Int) : St := [(0, Cell.val (AVal.slc 29 (Ty.pair (Ty.pair (Ty.int IntKind.i64) (Ty.int IntKind.i64)) (Ty.pair (Ty.int IntKind.i64) (Ty.int IntKind.i64))) a)), (2, Cell.val (AVal.slc 29 (Ty.pair (Ty.pair (Ty.int IntKind.i64) (Ty.int IntKind.i64)) (Ty.pair (Ty.int IntKind.i64) (Ty.int IntKind.i64))) b)), (10, Cell.val (AVal.int IntKind.i64 i))]
theorem e120_1004 (k : Nat) (a : List ((Int × Int) × Int × Int)) (b : List ((Int × Int) × Int × Int)) (i : Int) : x120 (k + 1) k120_1004 (t120_1004 a b i) = F120_1004 k (fun (a : List ((Int × Int) × Int × Int)) (b : List ((Int × Int) × Int × Int)) (i : Int) => x120 k k120_1004 (t120_1004 a b i)) a b i := by kernel_rfl
theorem q120 : ∀ k : Nat, (fun (a : List ((Int × Int) × Int × Int)) (b : List ((Int × Int) × Int × Int)) (i : Int) => x120 k k120_1004 (t120_1004 a b i)) = l120 k
  | 0 => rfl
  | k + 1 => by
    have h := q120 k
    show _ = F120_1004 k (l120 k)
    rw [← h]
    exact (funext fun a => funext fun b => funext fun i => e120_1004 k a b i)
theorem w120 (k : Nat) (a : List ((Int × Int) × Int × Int)) (b : List ((Int × Int) × Int × Int)) : runFn ti (envOf env97) 27 h120 (finT ti true Go.Proofs.Try.f120.results.toList [(.bool, false)] (.bool)) k (bodyOf Go.Proofs.Try.f120) (initS 0 [.slc 29 (.pair (.pair (.int .i64) (.int .i64)) (.pair (.int .i64) (.int .i64))) a, .slc 29 (.pair (.pair (.int .i64) (.int .i64)) (.pair (.int .i64) (.int .i64))) b]) = F120 k (fun (a : List ((Int × Int) × Int × Int)) (b : List ((Int × Int) × Int × Int)) (i : Int) => x120 k k120_1004 (t120_1004 a b i)) a b := by kernel_rfl
theorem v120 (k : Nat) (a : List ((Int × Int) × Int × Int)) (b : List ((Int × Int) × Int × Int)) : runFn ti (envOf env97) 27 h120 (finT ti true Go.Proofs.Try.f120.results.toList [(.bool, false)] (.bool)) k (bodyOf Go.Proofs.Try.f120) (initS 0 [.slc 29 (.pair (.pair (.int .i64) (.int .i64)) (.pair (.int .i64) (.int .i64))) a, .slc 29 (.pair (.pair (.int .i64) (.int .i64)) (.pair (.int .i64) (.int .i64))) b]) = f120 k a b := by
  rw [w120]
  have h := q120 k
  unfold f120
  rw [← h]
theorem m120 : Meets Go.Proofs.Try.prog 120 s120 := meets_of_run tiOk env97_ok mo Go.Proofs.Try.func120 (body := bodyOf Go.Proofs.Try.f120) (by kernel_rfl) (N := 27) (by kernel_rfl) (hs := h120) (by
  intro k xs r h
  unfold s120 at h
  dsimp only at h
  split at h
  · exact ⟨Nat.le_of_ble_eq_true rfl, (v120 k _ _).trans h⟩
  · cases h)
theorem env98_ok : EnvOk Go.Proofs.Try.prog (envOf env98) := envOf_cons m120 Go.Proofs.Try.func120 (by kernel_rfl) (by kernel_rfl) env97_ok

-- laws.intactIntervalS
def f66 (k : Nat) (x : List ((Int × Int) × Int × Int)) (x_n : Nat) (y : List ((Int × Int) × Int × Int)) (y_n : Nat) : Option (Bool) :=
  (f71 k (↑y_n : Int)).bind fun r0 =>
  bif decide ((↑x_n : Int) = (↑y_n : Int)) then
    bif boundE (IntKind.wrap IntKind.i64 ((↑y_n : Int) + r0)) (List.length x) then
      bif decide (0 ≤ 0) && decide (0 ≤ IntKind.wrap IntKind.i64 ((↑y_n : Int) + r0)) then
        bif boundE (IntKind.wrap IntKind.i64 ((↑y_n : Int) + r0)) (List.length y) then
          bif decide (0 ≤ 0) && decide (0 ≤ IntKind.wrap IntKind.i64 ((↑y_n : Int) + r0)) then
            (f120 k (List.drop (Int.toNat 0) (List.take (Int.toNat (IntKind.wrap IntKind.i64 ((↑y_n : Int) + r0))) x)) (List.drop (Int.toNat 0) (List.take (Int.toNat (IntKind.wrap IntKind.i64 ((↑y_n : Int) + r0))) y))).bind fun r1 =>
            some r1
          else
            none
        else
          none
      else
        none
    else
      none
  else
    some false
def s66 : Spec := ⟨true, [(.bool, false)], true, .bool, fun k xs => match xs with | [.vslc 29 (.pair (.pair (.int .i64) (.int .i64)) (.pair (.int .i64) (.int .i64))) x x_n, .vslc 29 (.pair (.pair (.int .i64) (.int .i64)) (.pair (.int .i64) (.int .i64))) y y_n] => f66 k x x_n y y_n | _ => none⟩
def env99 : List (FuncId × Spec) := (66, s66) :: env98
theorem v66 (k : Nat) (x : List ((Int × Int) × Int × Int)) (x_n : Nat) (y : List ((Int × Int) × Int × Int)) (y_n : Nat) : runFn tiV (envOf env98) 26 [] (finT tiV true Go.Proofs.Try.f66.results.toList [(.bool, false)] (.bool)) k (bodyOf Go.Proofs.Try.f66) (initS 0 [.vslc 29 (.pair (.pair (.int .i64) (.int .i64)) (.pair (.int .i64) (.int .i64))) x x_n, .vslc 29 (.pair (.pair (.int .i64) (.int .i64)) (.pair (.int .i64) (.int .i64))) y y_n]) = f66 k x x_n y y_n := by kernel_rfl
theorem m66 : Meets Go.Proofs.Try.prog 66 s66 := meets_of_run tiVOk env98_ok mo Go.Proofs.Try.func66 (body := bodyOf Go.Proofs.Try.f66) (by kernel_rfl) (N := 26) (by kernel_rfl) (hs := []) (by
  intro k xs r h
  unfold s66 at h
  dsimp only at h
  split at h
  · exact ⟨Nat.le_of_ble_eq_true rfl, (v66 k _ _ _ _).trans h⟩
  · cases h)
theorem env99_ok : EnvOk Go.Proofs.Try.prog (envOf env99) := envOf_cons m66 Go.Proofs.Try.func66 (by kernel_rfl) (by kernel_rfl) env98_ok

-- laws.FnExactCheckTrack
def f13 (k : Nat) (L : List (Int)) (i : List (Int)) (s : List ((Int × Int) × Int × Int)) (t : Int) : Option (Bool) :=
  (f62 k s (IntKind.wrap IntKind.i64 (IntKind.wrap IntKind.i64 (1000000 - (↑(List.length L) : Int)) - (↑(List.length i) : Int)))).bind fun r0 =>
  bif decide (r0 < 0) then
    some true
  else
    (f15 k L false).bind fun r1 =>
    (f15 k i false).bind fun r2 =>
    (f64 k s false).bind fun r3 =>
    (f63 k (List.take r1.snd r1.fst) (List.take r2.snd r2.fst) (List.take r3.snd r3.fst) t).bind fun r4 =>
    (f15 k L false).bind fun r5 =>
    (f15 k i false).bind fun r6 =>
    (f64 k s false).bind fun r7 =>
    (f65 k (List.take r5.snd r5.fst) (List.take r6.snd r6.fst) (List.take r7.snd r7.fst) t).bind fun r8 =>
    bif !r8.fst == r4.fst then
      some false
    else
      bif !r8.snd == r4.snd then
        some false
      else
        (f15 k L false).bind fun r9 =>
        (f19 k r5.fst r5.snd r9.fst r9.snd).bind fun r10 =>
        bif !r10 then
          some false
        else
          (f15 k i false).bind fun r11 =>
          (f19 k r6.fst r6.snd r11.fst r11.snd).bind fun r12 =>
          bif !r12 then
            some false
          else
            (f64 k s false).bind fun r13 =>
            (f66 k r7.fst r7.snd r13.fst r13.snd).bind fun r14 =>
            bif !r14 then
              some false
            else
              (f15 k L true).bind fun r15 =>
              (f15 k i true).bind fun r16 =>
              (f64 k s true).bind fun r17 =>
              (f65 k (List.take r15.snd r15.fst) (List.take r16.snd r16.fst) (List.take r17.snd r17.fst) t).bind fun r18 =>
              bif !r18.fst == r4.fst then
                some false
              else
                bif !r18.snd == r4.snd then
                  some false
                else
                  some true
def s13 : Spec := ⟨false, [(.bool, false)], true, .bool, fun k xs => match xs with | [.slc 3 (.int .i64) L, .slc 3 (.int .i64) i, .slc 26 (.pair (.pair (.int .i64) (.int .i64)) (.pair (.int .i64) (.int .i64))) s, .int .i64 t] => f13 k L i s t | _ => none⟩
def env100 : List (FuncId × Spec) := (13, s13) :: env99
theorem v13 (k : Nat) (L : List (Int)) (i : List (Int)) (s : List ((Int × Int) × Int × Int)) (t : Int) : runFn tiV (envOf env99) 97 [] (finT tiV true Go.Proofs.Try.f13.results.toList [(.bool, false)] (.bool)) k (bodyOf Go.Proofs.Try.f13) (initS 0 [.slc 3 (.int .i64) L, .slc 3 (.int .i64) i, .slc 26 (.pair (.pair (.int .i64) (.int .i64)) (.pair (.int .i64) (.int .i64))) s, .int .i64 t]) = f13 k L i s t := by kernel_rfl
theorem m13 : Meets Go.Proofs.Try.prog 13 s13 := meets_of_run tiVOk env99_ok mo Go.Proofs.Try.func13 (body := bodyOf Go.Proofs.Try.f13) (by kernel_rfl) (N := 97) (by kernel_rfl) (hs := []) (by
  intro k xs r h
  unfold s13 at h
  dsimp only at h
  split at h
  · exact ⟨Nat.le_of_ble_eq_true rfl, (v13 k _ _ _ _).trans h⟩
  · cases h)
theorem env100_ok : EnvOk Go.Proofs.Try.prog (envOf env100) := envOf_cons m13 Go.Proofs.Try.func13 (by kernel_rfl) (by kernel_rfl) env99_ok

end Go.Proofs.YtbaeikcfchiiaaaE
