/- Functions, by the engine; printed. -/
import Derived.Test.YtbaeikcfchiiaaaFD1
set_option maxRecDepth 100000
set_option maxHeartbeats 4000000
set_option linter.unusedVariables false
namespace Go.Proofs.YtbaeikcfchiiaaaE
-- laws.toTermSS
def h141 : Hints := [(1005, .lab [(0, .one (.frz 202 (Ty.slice 233 (Ty.pair (Ty.int IntKind.i64) (Ty.pair (Ty.int IntKind.i64) (Ty.pair (Ty.int IntKind.i64) (Ty.int IntKind.i64))))))), (1, .one (.v)), (5, .one (.own 152 (Ty.vslice 150 (Ty.pair (Ty.int IntKind.i64) (Ty.pair (Ty.int IntKind.i64) (Ty.pair (Ty.int IntKind.i64) (Ty.int IntKind.i64))))))), (6, .one (.v))]), (1009, .lab [(0, .one (.frz 202 (Ty.slice 233 (Ty.pair (Ty.int IntKind.i64) (Ty.pair (Ty.int IntKind.i64) (Ty.pair (Ty.int IntKind.i64) (Ty.int IntKind.i64))))))), (5, .one (.own 152 (Ty.vslice 150 (Ty.pair (Ty.int IntKind.i64) (Ty.pair (Ty.int IntKind.i64) (Ty.pair (Ty.int IntKind.i64) (Ty.int IntKind.i64))))))), (7, .one (.v))])]
def F141_1005 (k : Nat) (rec1005 : List (List (Int × Int × Int × Int)) → Bool → List (List (Int × Int × Int × Int) × Nat) → Int → Option (List (List (Int × Int × Int × Int) × Nat) × Nat)) (rec1009 : List (List (Int × Int × Int × Int)) → List (List (Int × Int × Int × Int) × Nat) → Int → Option (List (List (Int × Int × Int × Int) × Nat) × Nat)) (a : List (List (Int × Int × Int × Int))) (bare : Bool) (outs : List (List (Int × Int × Int × Int) × Nat)) (i : Int) : Option (List (List (Int × Int × Int × Int) × Nat) × Nat) :=
  bif decide (i < (↑(List.length a) : Int)) then
    bif boundA i (List.length a) then
      (f208 k (List.getD a (Int.toNat i) []) bare).bind fun r0 =>
      bif boundA i (List.length outs) then
        bif Nat.blt (Int.toNat i) (List.length outs) then
          rec1005 a bare (List.set outs (Int.toNat i) (r0.fst, r0.snd)) (IntKind.wrap IntKind.i64 (i + 1))
        else
          none
      else
        none
    else
      none
  else
    rec1009 a outs ((↑(List.length a) : Int))
def F141_1009 (k : Nat) (rec1005 : List (List (Int × Int × Int × Int)) → Bool → List (List (Int × Int × Int × Int) × Nat) → Int → Option (List (List (Int × Int × Int × Int) × Nat) × Nat)) (rec1009 : List (List (Int × Int × Int × Int)) → List (List (Int × Int × Int × Int) × Nat) → Int → Option (List (List (Int × Int × Int × Int) × Nat) × Nat)) (a : List (List (Int × Int × Int × Int))) (outs : List (List (Int × Int × Int × Int) × Nat)) (i : Int) : Option (List (List (Int × Int × Int × Int) × Nat) × Nat) :=
  bif decide (i < (↑(List.length outs) : Int)) then
    bif boundA i (List.length outs) then
      bif Nat.blt (Int.toNat i) (List.length outs) then
        rec1009 a (List.set outs (Int.toNat i) ([(-7000000000000000101, -7000000000000000101, -7000000000000000101, -7000000000000000101)], List.length [(-7000000000000000101, -7000000000000000101, -7000000000000000101, -7000000000000000101)])) (IntKind.wrap IntKind.i64 (i + 1))
      else
        none
    else
      none
  else
    bif boundE (↑(List.length a) : Int) (List.length outs) then
      some ((outs, Option.getD (some (Int.toNat (↑(List.length a) : Int))) (List.length outs)))
    else
      none
def F141 (k : Nat) (rec1005 : List (List (Int × Int × Int × Int)) → Bool → List (List (Int × Int × Int × Int) × Nat) → Int → Option (List (List (Int × Int × Int × Int) × Nat) × Nat)) (rec1009 : List (List (Int × Int × Int × Int)) → List (List (Int × Int × Int × Int) × Nat) → Int → Option (List (List (Int × Int × Int × Int) × Nat) × Nat)) (a : List (List (Int × Int × Int × Int))) (bare : Bool) : Option (List (List (Int × Int × Int × Int) × Nat) × Nat) :=
  bif bare then
    bif decide ((↑(List.length a) : Int) = 0) then
      some (([], 0))
    else
      (f71 k (↑(List.length a) : Int)).bind fun r0 =>
      bif decide (0 ≤ IntKind.wrap IntKind.i64 ((↑(List.length a) : Int) + r0)) then
        bif decide (IntKind.wrap IntKind.i64 ((↑(List.length a) : Int) + r0) ≤ IntKind.wrap IntKind.i64 ((↑(List.length a) : Int) + r0)) then
          bif decide (IntKind.wrap IntKind.i64 ((↑(List.length a) : Int) + r0) * (↑24 : Int) ≤ 140737488355328) then
            rec1005 a bare (List.replicate (Int.toNat (IntKind.wrap IntKind.i64 ((↑(List.length a) : Int) + r0))) (dflt (Ty.vslice 150 (Ty.pair (Ty.int IntKind.i64) (Ty.pair (Ty.int IntKind.i64) (Ty.pair (Ty.int IntKind.i64) (Ty.int IntKind.i64))))))) (0)
          else
            none
        else
          none
      else
        none
  else
    (f71 k (↑(List.length a) : Int)).bind fun r1 =>
    bif decide (0 ≤ IntKind.wrap IntKind.i64 ((↑(List.length a) : Int) + r1)) then
      bif decide (IntKind.wrap IntKind.i64 ((↑(List.length a) : Int) + r1) ≤ IntKind.wrap IntKind.i64 ((↑(List.length a) : Int) + r1)) then
        bif decide (IntKind.wrap IntKind.i64 ((↑(List.length a) : Int) + r1) * (↑24 : Int) ≤ 140737488355328) then
          rec1005 a bare (List.replicate (Int.toNat (IntKind.wrap IntKind.i64 ((↑(List.length a) : Int) + r1))) (dflt (Ty.vslice 150 (Ty.pair (Ty.int IntKind.i64) (Ty.pair (Ty.int IntKind.i64) (Ty.pair (Ty.int IntKind.i64) (Ty.int IntKind.i64))))))) (0)
        else
          none
      else
        none
    else
      none
def l141 : Nat → (List (List (Int × Int × Int × Int)) → Bool → List (List (Int × Int × Int × Int) × Nat) → Int → Option (List (List (Int × Int × Int × Int) × Nat) × Nat)) × (List (List (Int × Int × Int × Int)) → List (List (Int × Int × Int × Int) × Nat) → Int → Option (List (List (Int × Int × Int × Int) × Nat) × Nat))
  | 0 => (fun _ _ _ _ => none, fun _ _ _ => none)
  | k + 1 => (F141_1005 k ((l141 k).1) ((l141 k).2), F141_1009 k ((l141 k).1) ((l141 k).2))
def f141 (k : Nat) (a : List (List (Int × Int × Int × Int))) (bare : Bool) : Option (List (List (Int × Int × Int × Int) × Nat) × Nat) := F141 k ((l141 k).1) ((l141 k).2) a bare
def s141 : Spec := ⟨false, [(.vslice 152 (.vslice 150 (.pair (.int .i64) (.pair (.int .i64) (.pair (.int .i64) (.int .i64))))), false)], true, .vslice 152 (.vslice 150 (.pair (.int .i64) (.pair (.int .i64) (.pair (.int .i64) (.int .i64))))), fun k xs => match xs with | [.slc 202 (.slice 233 (.pair (.int .i64) (.pair (.int .i64) (.pair (.int .i64) (.int .i64))))) a, .bool bare] => f141 k a bare | _ => none⟩
def env13 : List (FuncId × Spec) := (141, s141) :: env12
noncomputable abbrev x141 := exec tiV (envOf env12) 53 h141 (finT tiV true Go.Proofs.Try.f141.results.toList [(.vslice 152 (.vslice 150 (.pair (.int .i64) (.pair (.int .i64) (.pair (.int .i64) (.int .i64))))), false)] (.vslice 152 (.vslice 150 (.pair (.int .i64) (.pair (.int .i64) (.pair (.int .i64) (.int .i64)))))))
noncomputable def k141_1005 : List It := stackAt [.r, .r, .r, .l, .r, .b, .lb none] (bodyOf Go.Proofs.Try.f141) []
def t141_1005 (a : List (List (Int × Int × Int × Int))) (bare : Bool) (outs : List (List (Int × Int × Int × Int) × Nat)) (i : Int) : St := [(0, Cell.val (AVal.slc 202 (Ty.slice 233 (Ty.pair (Ty.int IntKind.i64) (Ty.pair (Ty.int IntKind.i64) (Ty.pair (Ty.int IntKind.i64) (Ty.int IntKind.i64))))) a)), (2, Cell.val (AVal.bool bare)), (10, Cell.val (AVal.ref 3 none)), (3, Cell.row true 152 (Ty.vslice 150 (Ty.pair (Ty.int IntKind.i64) (Ty.pair (Ty.int IntKind.i64) (Ty.pair (Ty.int IntKind.i64) (Ty.int IntKind.i64))))) outs), (12, Cell.val (AVal.int IntKind.i64 i))]
noncomputable def k141_1009 : List It := stackAt [.r, .r, .r, .r, .l, .r, .b, .lb none] (bodyOf Go.Proofs.Try.f141) []
def t141_1009 (a : List (List (Int × Int × Int × Int))) (outs : List (List (Int × Int × Int × Int) × Nat)) (i : Int) : St := [(0, Cell.val (AVal.slc 202 (Ty.slice 233 (Ty.pair (Ty.int IntKind.i64) (Ty.pair (Ty.int IntKind.i64) (Ty.pair (Ty.int IntKind.i64) (Ty.int IntKind.i64))))) a)), (10, Cell.val (AVal.ref 3 none)), (3, Cell.row true 152 (Ty.vslice 150 (Ty.pair (Ty.int IntKind.i64) (Ty.pair (Ty.int IntKind.i64) (Ty.pair (Ty.int IntKind.i64) (Ty.int IntKind.i64))))) outs), (14, Cell.val (AVal.int IntKind.i64 i))]
theorem e141_1005 (k : Nat) (a : List (List (Int × Int × Int × Int))) (bare : Bool) (outs : List (List (Int × Int × Int × Int) × Nat)) (i : Int) : x141 (k + 1) k141_1005 (t141_1005 a bare outs i) = F141_1005 k (fun (a : List (List (Int × Int × Int × Int))) (bare : Bool) (outs : List (List (Int × Int × Int × Int) × Nat)) (i : Int) => x141 k k141_1005 (t141_1005 a bare outs i)) (fun (a : List (List (Int × Int × Int × Int))) (outs : List (List (Int × Int × Int × Int) × Nat)) (i : Int) => x141 k k141_1009 (t141_1009 a outs i)) a bare outs i := by kernel_rfl
theorem e141_1009 (k : Nat) (a : List (List (Int × Int × Int × Int))) (outs : List (List (Int × Int × Int × Int) × Nat)) (i : Int) : x141 (k + 1) k141_1009 (t141_1009 a outs i) = F141_1009 k (fun (a : List (List (Int × Int × Int × Int))) (bare : Bool) (outs : List (List (Int × Int × Int × Int) × Nat)) (i : Int) => x141 k k141_1005 (t141_1005 a bare outs i)) (fun (a : List (List (Int × Int × Int × Int))) (outs : List (List (Int × Int × Int × Int) × Nat)) (i : Int) => x141 k k141_1009 (t141_1009 a outs i)) a outs i := by kernel_rfl
theorem q141 : ∀ k : Nat, ((fun (a : List (List (Int × Int × Int × Int))) (bare : Bool) (outs : List (List (Int × Int × Int × Int) × Nat)) (i : Int) => x141 k k141_1005 (t141_1005 a bare outs i)), (fun (a : List (List (Int × Int × Int × Int))) (outs : List (List (Int × Int × Int × Int) × Nat)) (i : Int) => x141 k k141_1009 (t141_1009 a outs i))) = l141 k
  | 0 => rfl
  | k + 1 => by
    have h := q141 k
    show _ = (F141_1005 k ((l141 k).1) ((l141 k).2), F141_1009 k ((l141 k).1) ((l141 k).2))
    rw [← h]
    exact (Prod.ext (funext fun a => funext fun bare => funext fun outs => funext fun i => e141_1005 k a bare outs i) (funext fun a => funext fun outs => funext fun i => e141_1009 k a outs i))
theorem w141 (k : Nat) (a : List (List (Int × Int × Int × Int))) (bare : Bool) : runFn tiV (envOf env12) 53 h141 (finT tiV true Go.Proofs.Try.f141.results.toList [(.vslice 152 (.vslice 150 (.pair (.int .i64) (.pair (.int .i64) (.pair (.int .i64) (.int .i64))))), false)] (.vslice 152 (.vslice 150 (.pair (.int .i64) (.pair (.int .i64) (.pair (.int .i64) (.int .i64))))))) k (bodyOf Go.Proofs.Try.f141) (initS 0 [.slc 202 (.slice 233 (.pair (.int .i64) (.pair (.int .i64) (.pair (.int .i64) (.int .i64))))) a, .bool bare]) = F141 k (fun (a : List (List (Int × Int × Int × Int))) (bare : Bool) (outs : List (List (Int × Int × Int × Int) × Nat)) (i : Int) => x141 k k141_1005 (t141_1005 a bare outs i)) (fun (a : List (List (Int × Int × Int × Int))) (outs : List (List (Int × Int × Int × Int) × Nat)) (i : Int) => x141 k k141_1009 (t141_1009 a outs i)) a bare := by kernel_rfl
theorem v141 (k : Nat) (a : List (List (Int × Int × Int × Int))) (bare : Bool) : runFn tiV (envOf env12) 53 h141 (finT tiV true Go.Proofs.Try.f141.results.toList [(.vslice 152 (.vslice 150 (.pair (.int .i64) (.pair (.int .i64) (.pair (.int .i64) (.int .i64))))), false)] (.vslice 152 (.vslice 150 (.pair (.int .i64) (.pair (.int .i64) (.pair (.int .i64) (.int .i64))))))) k (bodyOf Go.Proofs.Try.f141) (initS 0 [.slc 202 (.slice 233 (.pair (.int .i64) (.pair (.int .i64) (.pair (.int .i64) (.int .i64))))) a, .bool bare]) = f141 k a bare := by
  rw [w141]
  have h := q141 k
  unfold f141
  rw [← h]
theorem m141 : Meets Go.Proofs.Try.prog 141 s141 := meets_of_run tiVOk env12_ok mo Go.Proofs.Try.func141 (body := bodyOf Go.Proofs.Try.f141) (by kernel_rfl) (N := 53) (by kernel_rfl) (hs := h141) (by
  intro k xs r h
  unfold s141 at h
  dsimp only at h
  split at h
  · exact ⟨Nat.le_of_ble_eq_true rfl, (v141 k _ _).trans h⟩
  · cases h)
theorem env13_ok : EnvOk Go.Proofs.Try.prog (envOf env13) := envOf_cons m141 Go.Proofs.Try.func141 (by kernel_rfl) (by kernel_rfl) env12_ok

-- laws.toEntry
def f84 (k : Nat) (a_Name : ByteArray) (a_System : List (List (Int × Int × Int × Int))) (a_Box_K : Int) (a_Box_Low : List (Int)) (a_Box_High : List (Int)) (a_Least : Int) (a_Most : Int) (a_Version : Int) (bare : Bool) : Option (ByteArray × (List (List (Int × Int × Int × Int) × Nat) × Nat) × (Int × (List (Int) × Nat) × List (Int) × Nat) × Int × Int × Int) :=
  (f141 k a_System bare).bind fun r0 =>
  (f37 k a_Box_K a_Box_Low a_Box_High bare).bind fun r1 =>
  some ((a_Name, (r0.fst, Option.getD (some r0.snd) (List.length r0.fst)), (r1.fst, (r1.snd.fst.fst, Option.getD (some r1.snd.fst.snd) (List.length r1.snd.fst.fst)), r1.snd.snd.fst, Option.getD (some r1.snd.snd.snd) (List.length r1.snd.snd.fst)), a_Least, a_Most, a_Version))
def s84 : Spec := ⟨false, [(.pair (.str) (.pair (.vslice 152 (.vslice 150 (.pair (.int .i64) (.pair (.int .i64) (.pair (.int .i64) (.int .i64)))))) (.pair (.pair (.int .i64) (.pair (.vslice 3 (.int .i64)) (.vslice 3 (.int .i64)))) (.pair (.int .i64) (.pair (.int .i64) (.int .i64))))), true)], true, .pair (.str) (.pair (.vslice 152 (.vslice 150 (.pair (.int .i64) (.pair (.int .i64) (.pair (.int .i64) (.int .i64)))))) (.pair (.pair (.int .i64) (.pair (.vslice 3 (.int .i64)) (.vslice 3 (.int .i64)))) (.pair (.int .i64) (.pair (.int .i64) (.int .i64))))), fun k xs => match xs with | [.agg [.str a_Name, .slc 202 (.slice 233 (.pair (.int .i64) (.pair (.int .i64) (.pair (.int .i64) (.int .i64))))) a_System, .int .i64 a_Box_K, .slc 3 (.int .i64) a_Box_Low, .slc 3 (.int .i64) a_Box_High, .int .i64 a_Least, .int .i64 a_Most, .int .i64 a_Version], .bool bare] => f84 k a_Name a_System a_Box_K a_Box_Low a_Box_High a_Least a_Most a_Version bare | _ => none⟩
def env14 : List (FuncId × Spec) := (84, s84) :: env13
theorem v84 (k : Nat) (a_Name : ByteArray) (a_System : List (List (Int × Int × Int × Int))) (a_Box_K : Int) (a_Box_Low : List (Int)) (a_Box_High : List (Int)) (a_Least : Int) (a_Most : Int) (a_Version : Int) (bare : Bool) : runFn tiV (envOf env13) 29 [] (finT tiV true Go.Proofs.Try.f84.results.toList [(.pair (.str) (.pair (.vslice 152 (.vslice 150 (.pair (.int .i64) (.pair (.int .i64) (.pair (.int .i64) (.int .i64)))))) (.pair (.pair (.int .i64) (.pair (.vslice 3 (.int .i64)) (.vslice 3 (.int .i64)))) (.pair (.int .i64) (.pair (.int .i64) (.int .i64))))), true)] (.pair (.str) (.pair (.vslice 152 (.vslice 150 (.pair (.int .i64) (.pair (.int .i64) (.pair (.int .i64) (.int .i64)))))) (.pair (.pair (.int .i64) (.pair (.vslice 3 (.int .i64)) (.vslice 3 (.int .i64)))) (.pair (.int .i64) (.pair (.int .i64) (.int .i64))))))) k (bodyOf Go.Proofs.Try.f84) (initS 0 [.agg [.str a_Name, .slc 202 (.slice 233 (.pair (.int .i64) (.pair (.int .i64) (.pair (.int .i64) (.int .i64))))) a_System, .int .i64 a_Box_K, .slc 3 (.int .i64) a_Box_Low, .slc 3 (.int .i64) a_Box_High, .int .i64 a_Least, .int .i64 a_Most, .int .i64 a_Version], .bool bare]) = f84 k a_Name a_System a_Box_K a_Box_Low a_Box_High a_Least a_Most a_Version bare := by kernel_rfl
theorem m84 : Meets Go.Proofs.Try.prog 84 s84 := meets_of_run tiVOk env13_ok mo Go.Proofs.Try.func84 (body := bodyOf Go.Proofs.Try.f84) (by kernel_rfl) (N := 29) (by kernel_rfl) (hs := []) (by
  intro k xs r h
  unfold s84 at h
  dsimp only at h
  split at h
  · exact ⟨Nat.le_of_ble_eq_true rfl, (v84 k _ _ _ _ _ _ _ _ _).trans h⟩
  · cases h)
theorem env14_ok : EnvOk Go.Proofs.Try.prog (envOf env14) := envOf_cons m84 Go.Proofs.Try.func84 (by kernel_rfl) (by kernel_rfl) env13_ok

-- laws.fillerBox
def f143 (k : Nat)  : Option (Int × (List (Int) × Nat) × List (Int) × Nat) :=
  some ((-7000000000000000101, ([-7000000000000000101], Option.getD none (List.length [-7000000000000000101])), [-7000000000000000101], Option.getD none (List.length [-7000000000000000101])))
def s143 : Spec := ⟨false, [(.pair (.int .i64) (.pair (.vslice 3 (.int .i64)) (.vslice 3 (.int .i64))), true)], true, .pair (.int .i64) (.pair (.vslice 3 (.int .i64)) (.vslice 3 (.int .i64))), fun k xs => match xs with | [] => f143 k  | _ => none⟩
def env15 : List (FuncId × Spec) := (143, s143) :: env14
theorem v143 (k : Nat)  : runFn tiV (envOf env14) 4 [] (finT tiV true Go.Proofs.Try.f143.results.toList [(.pair (.int .i64) (.pair (.vslice 3 (.int .i64)) (.vslice 3 (.int .i64))), true)] (.pair (.int .i64) (.pair (.vslice 3 (.int .i64)) (.vslice 3 (.int .i64))))) k (bodyOf Go.Proofs.Try.f143) (initS 0 []) = f143 k  := by kernel_rfl
theorem m143 : Meets Go.Proofs.Try.prog 143 s143 := meets_of_run tiVOk env14_ok mo Go.Proofs.Try.func143 (body := bodyOf Go.Proofs.Try.f143) (by kernel_rfl) (N := 4) (by kernel_rfl) (hs := []) (by
  intro k xs r h
  unfold s143 at h
  dsimp only at h
  split at h
  · exact ⟨Nat.le_of_ble_eq_true rfl, (v143 k).trans h⟩
  · cases h)
theorem env15_ok : EnvOk Go.Proofs.Try.prog (envOf env15) := envOf_cons m143 Go.Proofs.Try.func143 (by kernel_rfl) (by kernel_rfl) env14_ok

-- laws.fillerEntry
def f85 (k : Nat)  : Option (ByteArray × (List (List (Int × Int × Int × Int) × Nat) × Nat) × (Int × (List (Int) × Nat) × List (Int) × Nat) × Int × Int × Int) :=
  some (({ data := #[126, 115, 112, 97, 114, 101, 126] }, ([([(-7000000000000000101, -7000000000000000101, -7000000000000000101, -7000000000000000101)], List.length [(-7000000000000000101, -7000000000000000101, -7000000000000000101, -7000000000000000101)])], Option.getD none (List.length [([(-7000000000000000101, -7000000000000000101, -7000000000000000101, -7000000000000000101)], List.length [(-7000000000000000101, -7000000000000000101, -7000000000000000101, -7000000000000000101)])])), (-7000000000000000101, ([-7000000000000000101], Option.getD (some (Option.getD none (List.length [-7000000000000000101]))) (List.length [-7000000000000000101])), [-7000000000000000101], Option.getD (some (Option.getD none (List.length [-7000000000000000101]))) (List.length [-7000000000000000101])), -7000000000000000101, -7000000000000000101, -7000000000000000101))
def s85 : Spec := ⟨false, [(.pair (.str) (.pair (.vslice 152 (.vslice 150 (.pair (.int .i64) (.pair (.int .i64) (.pair (.int .i64) (.int .i64)))))) (.pair (.pair (.int .i64) (.pair (.vslice 3 (.int .i64)) (.vslice 3 (.int .i64)))) (.pair (.int .i64) (.pair (.int .i64) (.int .i64))))), true)], true, .pair (.str) (.pair (.vslice 152 (.vslice 150 (.pair (.int .i64) (.pair (.int .i64) (.pair (.int .i64) (.int .i64)))))) (.pair (.pair (.int .i64) (.pair (.vslice 3 (.int .i64)) (.vslice 3 (.int .i64)))) (.pair (.int .i64) (.pair (.int .i64) (.int .i64))))), fun k xs => match xs with | [] => f85 k  | _ => none⟩
def env16 : List (FuncId × Spec) := (85, s85) :: env15
theorem v85 (k : Nat)  : runFn tiV (envOf env15) 6 [] (finT tiV true Go.Proofs.Try.f85.results.toList [(.pair (.str) (.pair (.vslice 152 (.vslice 150 (.pair (.int .i64) (.pair (.int .i64) (.pair (.int .i64) (.int .i64)))))) (.pair (.pair (.int .i64) (.pair (.vslice 3 (.int .i64)) (.vslice 3 (.int .i64)))) (.pair (.int .i64) (.pair (.int .i64) (.int .i64))))), true)] (.pair (.str) (.pair (.vslice 152 (.vslice 150 (.pair (.int .i64) (.pair (.int .i64) (.pair (.int .i64) (.int .i64)))))) (.pair (.pair (.int .i64) (.pair (.vslice 3 (.int .i64)) (.vslice 3 (.int .i64)))) (.pair (.int .i64) (.pair (.int .i64) (.int .i64))))))) k (bodyOf Go.Proofs.Try.f85) (initS 0 []) = f85 k  := by kernel_rfl
theorem m85 : Meets Go.Proofs.Try.prog 85 s85 := meets_of_run tiVOk env15_ok mo Go.Proofs.Try.func85 (body := bodyOf Go.Proofs.Try.f85) (by kernel_rfl) (N := 6) (by kernel_rfl) (hs := []) (by
  intro k xs r h
  unfold s85 at h
  dsimp only at h
  split at h
  · exact ⟨Nat.le_of_ble_eq_true rfl, (v85 k).trans h⟩
  · cases h)
theorem env16_ok : EnvOk Go.Proofs.Try.prog (envOf env16) := envOf_cons m85 Go.Proofs.Try.func85 (by kernel_rfl) (by kernel_rfl) env15_ok

-- laws.toEntryS
def h24 : Hints := [(1005, .lab [(0, .one (.frz 105 (Ty.pair Ty.str (Ty.pair (Ty.slice 202 (Ty.slice 233 (Ty.pair (Ty.int IntKind.i64) (Ty.pair (Ty.int IntKind.i64) (Ty.pair (Ty.int IntKind.i64) (Ty.int IntKind.i64)))))) (Ty.pair (Ty.pair (Ty.int IntKind.i64) (Ty.pair (Ty.slice 3 (Ty.int IntKind.i64)) (Ty.slice 3 (Ty.int IntKind.i64)))) (Ty.pair (Ty.int IntKind.i64) (Ty.pair (Ty.int IntKind.i64) (Ty.int IntKind.i64)))))))), (1, .one (.v)), (5, .one (.own 108 (Ty.pair Ty.str (Ty.pair (Ty.vslice 152 (Ty.vslice 150 (Ty.pair (Ty.int IntKind.i64) (Ty.pair (Ty.int IntKind.i64) (Ty.pair (Ty.int IntKind.i64) (Ty.int IntKind.i64)))))) (Ty.pair (Ty.pair (Ty.int IntKind.i64) (Ty.pair (Ty.vslice 3 (Ty.int IntKind.i64)) (Ty.vslice 3 (Ty.int IntKind.i64)))) (Ty.pair (Ty.int IntKind.i64) (Ty.pair (Ty.int IntKind.i64) (Ty.int IntKind.i64)))))))), (6, .one (.v))]), (1009, .lab [(0, .one (.frz 105 (Ty.pair Ty.str (Ty.pair (Ty.slice 202 (Ty.slice 233 (Ty.pair (Ty.int IntKind.i64) (Ty.pair (Ty.int IntKind.i64) (Ty.pair (Ty.int IntKind.i64) (Ty.int IntKind.i64)))))) (Ty.pair (Ty.pair (Ty.int IntKind.i64) (Ty.pair (Ty.slice 3 (Ty.int IntKind.i64)) (Ty.slice 3 (Ty.int IntKind.i64)))) (Ty.pair (Ty.int IntKind.i64) (Ty.pair (Ty.int IntKind.i64) (Ty.int IntKind.i64)))))))), (5, .one (.own 108 (Ty.pair Ty.str (Ty.pair (Ty.vslice 152 (Ty.vslice 150 (Ty.pair (Ty.int IntKind.i64) (Ty.pair (Ty.int IntKind.i64) (Ty.pair (Ty.int IntKind.i64) (Ty.int IntKind.i64)))))) (Ty.pair (Ty.pair (Ty.int IntKind.i64) (Ty.pair (Ty.vslice 3 (Ty.int IntKind.i64)) (Ty.vslice 3 (Ty.int IntKind.i64)))) (Ty.pair (Ty.int IntKind.i64) (Ty.pair (Ty.int IntKind.i64) (Ty.int IntKind.i64)))))))), (7, .one (.v))])]
def F24_1005 (k : Nat) (rec1005 : List (ByteArray × List (List (Int × Int × Int × Int)) × (Int × List Int × List Int) × Int × Int × Int) → Bool → List (ByteArray × (List (List (Int × Int × Int × Int) × Nat) × Nat) × (Int × (List Int × Nat) × List Int × Nat) × Int × Int × Int) → Int → Option (List (ByteArray × (List (List (Int × Int × Int × Int) × Nat) × Nat) × (Int × (List (Int) × Nat) × List (Int) × Nat) × Int × Int × Int) × Nat)) (rec1009 : List (ByteArray × List (List (Int × Int × Int × Int)) × (Int × List Int × List Int) × Int × Int × Int) → List (ByteArray × (List (List (Int × Int × Int × Int) × Nat) × Nat) × (Int × (List Int × Nat) × List Int × Nat) × Int × Int × Int) → Int → Option (List (ByteArray × (List (List (Int × Int × Int × Int) × Nat) × Nat) × (Int × (List (Int) × Nat) × List (Int) × Nat) × Int × Int × Int) × Nat)) (a : List (ByteArray × List (List (Int × Int × Int × Int)) × (Int × List Int × List Int) × Int × Int × Int)) (bare : Bool) (outs : List (ByteArray × (List (List (Int × Int × Int × Int) × Nat) × Nat) × (Int × (List Int × Nat) × List Int × Nat) × Int × Int × Int)) (i : Int) : Option (List (ByteArray × (List (List (Int × Int × Int × Int) × Nat) × Nat) × (Int × (List (Int) × Nat) × List (Int) × Nat) × Int × Int × Int) × Nat) :=
  bif decide (i < (↑(List.length a) : Int)) then
    bif boundA i (List.length a) then
      (f84 k (List.getD a (Int.toNat i) (ByteArray.empty, [], (0, [], []), 0, 0, 0)).fst (List.getD a (Int.toNat i) (ByteArray.empty, [], (0, [], []), 0, 0, 0)).snd.fst (List.getD a (Int.toNat i) (ByteArray.empty, [], (0, [], []), 0, 0, 0)).snd.snd.fst.fst (List.getD a (Int.toNat i) (ByteArray.empty, [], (0, [], []), 0, 0, 0)).snd.snd.fst.snd.fst (List.getD a (Int.toNat i) (ByteArray.empty, [], (0, [], []), 0, 0, 0)).snd.snd.fst.snd.snd (List.getD a (Int.toNat i) (ByteArray.empty, [], (0, [], []), 0, 0, 0)).snd.snd.snd.fst (List.getD a (Int.toNat i) (ByteArray.empty, [], (0, [], []), 0, 0, 0)).snd.snd.snd.snd.fst (List.getD a (Int.toNat i) (ByteArray.empty, [], (0, [], []), 0, 0, 0)).snd.snd.snd.snd.snd bare).bind fun r0 =>
      bif boundA i (List.length outs) then
        bif Nat.blt (Int.toNat i) (List.length outs) then
          rec1005 a bare (List.set outs (Int.toNat i) (r0.fst, (r0.snd.fst.fst, r0.snd.fst.snd), (r0.snd.snd.fst.fst, (r0.snd.snd.fst.snd.fst.fst, r0.snd.snd.fst.snd.fst.snd), r0.snd.snd.fst.snd.snd.fst, r0.snd.snd.fst.snd.snd.snd), r0.snd.snd.snd.fst, r0.snd.snd.snd.snd.fst, r0.snd.snd.snd.snd.snd)) (IntKind.wrap IntKind.i64 (i + 1))
        else
          none
      else
        none
    else
      none
  else
    rec1009 a outs ((↑(List.length a) : Int))
def F24_1009 (k : Nat) (rec1005 : List (ByteArray × List (List (Int × Int × Int × Int)) × (Int × List Int × List Int) × Int × Int × Int) → Bool → List (ByteArray × (List (List (Int × Int × Int × Int) × Nat) × Nat) × (Int × (List Int × Nat) × List Int × Nat) × Int × Int × Int) → Int → Option (List (ByteArray × (List (List (Int × Int × Int × Int) × Nat) × Nat) × (Int × (List (Int) × Nat) × List (Int) × Nat) × Int × Int × Int) × Nat)) (rec1009 : List (ByteArray × List (List (Int × Int × Int × Int)) × (Int × List Int × List Int) × Int × Int × Int) → List (ByteArray × (List (List (Int × Int × Int × Int) × Nat) × Nat) × (Int × (List Int × Nat) × List Int × Nat) × Int × Int × Int) → Int → Option (List (ByteArray × (List (List (Int × Int × Int × Int) × Nat) × Nat) × (Int × (List (Int) × Nat) × List (Int) × Nat) × Int × Int × Int) × Nat)) (a : List (ByteArray × List (List (Int × Int × Int × Int)) × (Int × List Int × List Int) × Int × Int × Int)) (outs : List (ByteArray × (List (List (Int × Int × Int × Int) × Nat) × Nat) × (Int × (List Int × Nat) × List Int × Nat) × Int × Int × Int)) (i : Int) : Option (List (ByteArray × (List (List (Int × Int × Int × Int) × Nat) × Nat) × (Int × (List (Int) × Nat) × List (Int) × Nat) × Int × Int × Int) × Nat) :=
  bif decide (i < (↑(List.length outs) : Int)) then
    bif boundA i (List.length outs) then
      bif Nat.blt (Int.toNat i) (List.length outs) then
        rec1009 a (List.set outs (Int.toNat i) ({ data := #[126, 115, 112, 97, 114, 101, 126] }, ([([(-7000000000000000101, -7000000000000000101, -7000000000000000101, -7000000000000000101)], List.length [(-7000000000000000101, -7000000000000000101, -7000000000000000101, -7000000000000000101)])], Option.getD none (List.length [([(-7000000000000000101, -7000000000000000101, -7000000000000000101, -7000000000000000101)], List.length [(-7000000000000000101, -7000000000000000101, -7000000000000000101, -7000000000000000101)])])), (-7000000000000000101, ([-7000000000000000101], Option.getD (some (Option.getD none (List.length [-7000000000000000101]))) (List.length [-7000000000000000101])), [-7000000000000000101], Option.getD (some (Option.getD none (List.length [-7000000000000000101]))) (List.length [-7000000000000000101])), -7000000000000000101, -7000000000000000101, -7000000000000000101)) (IntKind.wrap IntKind.i64 (i + 1))
      else
        none
    else
      none
  else
    bif boundE (↑(List.length a) : Int) (List.length outs) then
      some ((outs, Option.getD (some (Int.toNat (↑(List.length a) : Int))) (List.length outs)))
    else
      none
def F24 (k : Nat) (rec1005 : List (ByteArray × List (List (Int × Int × Int × Int)) × (Int × List Int × List Int) × Int × Int × Int) → Bool → List (ByteArray × (List (List (Int × Int × Int × Int) × Nat) × Nat) × (Int × (List Int × Nat) × List Int × Nat) × Int × Int × Int) → Int → Option (List (ByteArray × (List (List (Int × Int × Int × Int) × Nat) × Nat) × (Int × (List (Int) × Nat) × List (Int) × Nat) × Int × Int × Int) × Nat)) (rec1009 : List (ByteArray × List (List (Int × Int × Int × Int)) × (Int × List Int × List Int) × Int × Int × Int) → List (ByteArray × (List (List (Int × Int × Int × Int) × Nat) × Nat) × (Int × (List Int × Nat) × List Int × Nat) × Int × Int × Int) → Int → Option (List (ByteArray × (List (List (Int × Int × Int × Int) × Nat) × Nat) × (Int × (List (Int) × Nat) × List (Int) × Nat) × Int × Int × Int) × Nat)) (a : List (ByteArray × (List (List (Int × Int × Int × Int))) × (Int × (List (Int)) × List (Int)) × Int × Int × Int)) (bare : Bool) : Option (List (ByteArray × (List (List (Int × Int × Int × Int) × Nat) × Nat) × (Int × (List (Int) × Nat) × List (Int) × Nat) × Int × Int × Int) × Nat) :=
  bif bare then
    bif decide ((↑(List.length a) : Int) = 0) then
      some (([], 0))
    else
      (f71 k (↑(List.length a) : Int)).bind fun r0 =>
      bif decide (0 ≤ IntKind.wrap IntKind.i64 ((↑(List.length a) : Int) + r0)) then
        bif decide (IntKind.wrap IntKind.i64 ((↑(List.length a) : Int) + r0) ≤ IntKind.wrap IntKind.i64 ((↑(List.length a) : Int) + r0)) then
          bif decide (IntKind.wrap IntKind.i64 ((↑(List.length a) : Int) + r0) * (↑120 : Int) ≤ 140737488355328) then
            rec1005 a bare (List.replicate (Int.toNat (IntKind.wrap IntKind.i64 ((↑(List.length a) : Int) + r0))) (dflt (Ty.pair Ty.str (Ty.pair (Ty.vslice 152 (Ty.vslice 150 (Ty.pair (Ty.int IntKind.i64) (Ty.pair (Ty.int IntKind.i64) (Ty.pair (Ty.int IntKind.i64) (Ty.int IntKind.i64)))))) (Ty.pair (Ty.pair (Ty.int IntKind.i64) (Ty.pair (Ty.vslice 3 (Ty.int IntKind.i64)) (Ty.vslice 3 (Ty.int IntKind.i64)))) (Ty.pair (Ty.int IntKind.i64) (Ty.pair (Ty.int IntKind.i64) (Ty.int IntKind.i64)))))))) (0)
          else
            none
        else
          none
      else
        none
  else
    (f71 k (↑(List.length a) : Int)).bind fun r1 =>
    bif decide (0 ≤ IntKind.wrap IntKind.i64 ((↑(List.length a) : Int) + r1)) then
      bif decide (IntKind.wrap IntKind.i64 ((↑(List.length a) : Int) + r1) ≤ IntKind.wrap IntKind.i64 ((↑(List.length a) : Int) + r1)) then
        bif decide (IntKind.wrap IntKind.i64 ((↑(List.length a) : Int) + r1) * (↑120 : Int) ≤ 140737488355328) then
          rec1005 a bare (List.replicate (Int.toNat (IntKind.wrap IntKind.i64 ((↑(List.length a) : Int) + r1))) (dflt (Ty.pair Ty.str (Ty.pair (Ty.vslice 152 (Ty.vslice 150 (Ty.pair (Ty.int IntKind.i64) (Ty.pair (Ty.int IntKind.i64) (Ty.pair (Ty.int IntKind.i64) (Ty.int IntKind.i64)))))) (Ty.pair (Ty.pair (Ty.int IntKind.i64) (Ty.pair (Ty.vslice 3 (Ty.int IntKind.i64)) (Ty.vslice 3 (Ty.int IntKind.i64)))) (Ty.pair (Ty.int IntKind.i64) (Ty.pair (Ty.int IntKind.i64) (Ty.int IntKind.i64)))))))) (0)
        else
          none
      else
        none
    else
      none
def l24 : Nat → (List (ByteArray × List (List (Int × Int × Int × Int)) × (Int × List Int × List Int) × Int × Int × Int) → Bool → List (ByteArray × (List (List (Int × Int × Int × Int) × Nat) × Nat) × (Int × (List Int × Nat) × List Int × Nat) × Int × Int × Int) → Int → Option (List (ByteArray × (List (List (Int × Int × Int × Int) × Nat) × Nat) × (Int × (List (Int) × Nat) × List (Int) × Nat) × Int × Int × Int) × Nat)) × (List (ByteArray × List (List (Int × Int × Int × Int)) × (Int × List Int × List Int) × Int × Int × Int) → List (ByteArray × (List (List (Int × Int × Int × Int) × Nat) × Nat) × (Int × (List Int × Nat) × List Int × Nat) × Int × Int × Int) → Int → Option (List (ByteArray × (List (List (Int × Int × Int × Int) × Nat) × Nat) × (Int × (List (Int) × Nat) × List (Int) × Nat) × Int × Int × Int) × Nat))
  | 0 => (fun _ _ _ _ => none, fun _ _ _ => none)
  | k + 1 => (F24_1005 k ((l24 k).1) ((l24 k).2), F24_1009 k ((l24 k).1) ((l24 k).2))
def f24 (k : Nat) (a : List (ByteArray × (List (List (Int × Int × Int × Int))) × (Int × (List (Int)) × List (Int)) × Int × Int × Int)) (bare : Bool) : Option (List (ByteArray × (List (List (Int × Int × Int × Int) × Nat) × Nat) × (Int × (List (Int) × Nat) × List (Int) × Nat) × Int × Int × Int) × Nat) := F24 k ((l24 k).1) ((l24 k).2) a bare
def s24 : Spec := ⟨false, [(.vslice 108 (.pair (.str) (.pair (.vslice 152 (.vslice 150 (.pair (.int .i64) (.pair (.int .i64) (.pair (.int .i64) (.int .i64)))))) (.pair (.pair (.int .i64) (.pair (.vslice 3 (.int .i64)) (.vslice 3 (.int .i64)))) (.pair (.int .i64) (.pair (.int .i64) (.int .i64)))))), false)], true, .vslice 108 (.pair (.str) (.pair (.vslice 152 (.vslice 150 (.pair (.int .i64) (.pair (.int .i64) (.pair (.int .i64) (.int .i64)))))) (.pair (.pair (.int .i64) (.pair (.vslice 3 (.int .i64)) (.vslice 3 (.int .i64)))) (.pair (.int .i64) (.pair (.int .i64) (.int .i64)))))), fun k xs => match xs with | [.slc 105 (.pair (.str) (.pair (.slice 202 (.slice 233 (.pair (.int .i64) (.pair (.int .i64) (.pair (.int .i64) (.int .i64)))))) (.pair (.pair (.int .i64) (.pair (.slice 3 (.int .i64)) (.slice 3 (.int .i64)))) (.pair (.int .i64) (.pair (.int .i64) (.int .i64)))))) a, .bool bare] => f24 k a bare | _ => none⟩
def env17 : List (FuncId × Spec) := (24, s24) :: env16
noncomputable abbrev x24 := exec tiV (envOf env16) 52 h24 (finT tiV true Go.Proofs.Try.f24.results.toList [(.vslice 108 (.pair (.str) (.pair (.vslice 152 (.vslice 150 (.pair (.int .i64) (.pair (.int .i64) (.pair (.int .i64) (.int .i64)))))) (.pair (.pair (.int .i64) (.pair (.vslice 3 (.int .i64)) (.vslice 3 (.int .i64)))) (.pair (.int .i64) (.pair (.int .i64) (.int .i64)))))), false)] (.vslice 108 (.pair (.str) (.pair (.vslice 152 (.vslice 150 (.pair (.int .i64) (.pair (.int .i64) (.pair (.int .i64) (.int .i64)))))) (.pair (.pair (.int .i64) (.pair (.vslice 3 (.int .i64)) (.vslice 3 (.int .i64)))) (.pair (.int .i64) (.pair (.int .i64) (.int .i64))))))))
noncomputable def k24_1005 : List It := stackAt [.r, .r, .r, .l, .r, .b, .lb none] (bodyOf Go.Proofs.Try.f24) []
def t24_1005 (a : List (ByteArray × List (List (Int × Int × Int × Int)) × (Int × List Int × List Int) × Int × Int × Int)) (bare : Bool) (outs : List (ByteArray × (List (List (Int × Int × Int × Int) × Nat) × Nat) × (Int × (List Int × Nat) × List Int × Nat) × Int × Int × Int)) (i : Int) : St := [(0, Cell.val (AVal.slc 105 (Ty.pair Ty.str (Ty.pair (Ty.slice 202 (Ty.slice 233 (Ty.pair (Ty.int IntKind.i64) (Ty.pair (Ty.int IntKind.i64) (Ty.pair (Ty.int IntKind.i64) (Ty.int IntKind.i64)))))) (Ty.pair (Ty.pair (Ty.int IntKind.i64) (Ty.pair (Ty.slice 3 (Ty.int IntKind.i64)) (Ty.slice 3 (Ty.int IntKind.i64)))) (Ty.pair (Ty.int IntKind.i64) (Ty.pair (Ty.int IntKind.i64) (Ty.int IntKind.i64)))))) a)), (2, Cell.val (AVal.bool bare)), (10, Cell.val (AVal.ref 3 none)), (3, Cell.row true 108 (Ty.pair Ty.str (Ty.pair (Ty.vslice 152 (Ty.vslice 150 (Ty.pair (Ty.int IntKind.i64) (Ty.pair (Ty.int IntKind.i64) (Ty.pair (Ty.int IntKind.i64) (Ty.int IntKind.i64)))))) (Ty.pair (Ty.pair (Ty.int IntKind.i64) (Ty.pair (Ty.vslice 3 (Ty.int IntKind.i64)) (Ty.vslice 3 (Ty.int IntKind.i64)))) (Ty.pair (Ty.int IntKind.i64) (Ty.pair (Ty.int IntKind.i64) (Ty.int IntKind.i64)))))) outs), (12, Cell.val (AVal.int IntKind.i64 i))]
noncomputable def k24_1009 : List It := stackAt [.r, .r, .r, .r, .l, .r, .b, .lb none] (bodyOf Go.Proofs.Try.f24) []
def t24_1009 (a : List (ByteArray × List (List (Int × Int × Int × Int)) × (Int × List Int × List Int) × Int × Int × Int)) (outs : List (ByteArray × (List (List (Int × Int × Int × Int) × Nat) × Nat) × (Int × (List Int × Nat) × List Int × Nat) × Int × Int × Int)) (i : Int) : St := [(0, Cell.val (AVal.slc 105 (Ty.pair Ty.str (Ty.pair (Ty.slice 202 (Ty.slice 233 (Ty.pair (Ty.int IntKind.i64) (Ty.pair (Ty.int IntKind.i64) (Ty.pair (Ty.int IntKind.i64) (Ty.int IntKind.i64)))))) (Ty.pair (Ty.pair (Ty.int IntKind.i64) (Ty.pair (Ty.slice 3 (Ty.int IntKind.i64)) (Ty.slice 3 (Ty.int IntKind.i64)))) (Ty.pair (Ty.int IntKind.i64) (Ty.pair (Ty.int IntKind.i64) (Ty.int IntKind.i64)))))) a)), (10, Cell.val (AVal.ref 3 none)), (3, Cell.row true 108 (Ty.pair Ty.str (Ty.pair (Ty.vslice 152 (Ty.vslice 150 (Ty.pair (Ty.int IntKind.i64) (Ty.pair (Ty.int IntKind.i64) (Ty.pair (Ty.int IntKind.i64) (Ty.int IntKind.i64)))))) (Ty.pair (Ty.pair (Ty.int IntKind.i64) (Ty.pair (Ty.vslice 3 (Ty.int IntKind.i64)) (Ty.vslice 3 (Ty.int IntKind.i64)))) (Ty.pair (Ty.int IntKind.i64) (Ty.pair (Ty.int IntKind.i64) (Ty.int IntKind.i64)))))) outs), (14, Cell.val (AVal.int IntKind.i64 i))]
theorem e24_1005 (k : Nat) (a : List (ByteArray × List (List (Int × Int × Int × Int)) × (Int × List Int × List Int) × Int × Int × Int)) (bare : Bool) (outs : List (ByteArray × (List (List (Int × Int × Int × Int) × Nat) × Nat) × (Int × (List Int × Nat) × List Int × Nat) × Int × Int × Int)) (i : Int) : x24 (k + 1) k24_1005 (t24_1005 a bare outs i) = F24_1005 k (fun (a : List (ByteArray × List (List (Int × Int × Int × Int)) × (Int × List Int × List Int) × Int × Int × Int)) (bare : Bool) (outs : List (ByteArray × (List (List (Int × Int × Int × Int) × Nat) × Nat) × (Int × (List Int × Nat) × List Int × Nat) × Int × Int × Int)) (i : Int) => x24 k k24_1005 (t24_1005 a bare outs i)) (fun (a : List (ByteArray × List (List (Int × Int × Int × Int)) × (Int × List Int × List Int) × Int × Int × Int)) (outs : List (ByteArray × (List (List (Int × Int × Int × Int) × Nat) × Nat) × (Int × (List Int × Nat) × List Int × Nat) × Int × Int × Int)) (i : Int) => x24 k k24_1009 (t24_1009 a outs i)) a bare outs i := by kernel_rfl
theorem e24_1009 (k : Nat) (a : List (ByteArray × List (List (Int × Int × Int × Int)) × (Int × List Int × List Int) × Int × Int × Int)) (outs : List (ByteArray × (List (List (Int × Int × Int × Int) × Nat) × Nat) × (Int × (List Int × Nat) × List Int × Nat) × Int × Int × Int)) (i : Int) : x24 (k + 1) k24_1009 (t24_1009 a outs i) = F24_1009 k (fun (a : List (ByteArray × List (List (Int × Int × Int × Int)) × (Int × List Int × List Int) × Int × Int × Int)) (bare : Bool) (outs : List (ByteArray × (List (List (Int × Int × Int × Int) × Nat) × Nat) × (Int × (List Int × Nat) × List Int × Nat) × Int × Int × Int)) (i : Int) => x24 k k24_1005 (t24_1005 a bare outs i)) (fun (a : List (ByteArray × List (List (Int × Int × Int × Int)) × (Int × List Int × List Int) × Int × Int × Int)) (outs : List (ByteArray × (List (List (Int × Int × Int × Int) × Nat) × Nat) × (Int × (List Int × Nat) × List Int × Nat) × Int × Int × Int)) (i : Int) => x24 k k24_1009 (t24_1009 a outs i)) a outs i := by kernel_rfl
theorem q24 : ∀ k : Nat, ((fun (a : List (ByteArray × List (List (Int × Int × Int × Int)) × (Int × List Int × List Int) × Int × Int × Int)) (bare : Bool) (outs : List (ByteArray × (List (List (Int × Int × Int × Int) × Nat) × Nat) × (Int × (List Int × Nat) × List Int × Nat) × Int × Int × Int)) (i : Int) => x24 k k24_1005 (t24_1005 a bare outs i)), (fun (a : List (ByteArray × List (List (Int × Int × Int × Int)) × (Int × List Int × List Int) × Int × Int × Int)) (outs : List (ByteArray × (List (List (Int × Int × Int × Int) × Nat) × Nat) × (Int × (List Int × Nat) × List Int × Nat) × Int × Int × Int)) (i : Int) => x24 k k24_1009 (t24_1009 a outs i))) = l24 k
  | 0 => rfl
  | k + 1 => by
    have h := q24 k
    show _ = (F24_1005 k ((l24 k).1) ((l24 k).2), F24_1009 k ((l24 k).1) ((l24 k).2))
    rw [← h]
    exact (Prod.ext (funext fun a => funext fun bare => funext fun outs => funext fun i => e24_1005 k a bare outs i) (funext fun a => funext fun outs => funext fun i => e24_1009 k a outs i))
theorem w24 (k : Nat) (a : List (ByteArray × (List (List (Int × Int × Int × Int))) × (Int × (List (Int)) × List (Int)) × Int × Int × Int)) (bare : Bool) : runFn tiV (envOf env16) 52 h24 (finT tiV true Go.Proofs.Try.f24.results.toList [(.vslice 108 (.pair (.str) (.pair (.vslice 152 (.vslice 150 (.pair (.int .i64) (.pair (.int .i64) (.pair (.int .i64) (.int .i64)))))) (.pair (.pair (.int .i64) (.pair (.vslice 3 (.int .i64)) (.vslice 3 (.int .i64)))) (.pair (.int .i64) (.pair (.int .i64) (.int .i64)))))), false)] (.vslice 108 (.pair (.str) (.pair (.vslice 152 (.vslice 150 (.pair (.int .i64) (.pair (.int .i64) (.pair (.int .i64) (.int .i64)))))) (.pair (.pair (.int .i64) (.pair (.vslice 3 (.int .i64)) (.vslice 3 (.int .i64)))) (.pair (.int .i64) (.pair (.int .i64) (.int .i64)))))))) k (bodyOf Go.Proofs.Try.f24) (initS 0 [.slc 105 (.pair (.str) (.pair (.slice 202 (.slice 233 (.pair (.int .i64) (.pair (.int .i64) (.pair (.int .i64) (.int .i64)))))) (.pair (.pair (.int .i64) (.pair (.slice 3 (.int .i64)) (.slice 3 (.int .i64)))) (.pair (.int .i64) (.pair (.int .i64) (.int .i64)))))) a, .bool bare]) = F24 k (fun (a : List (ByteArray × List (List (Int × Int × Int × Int)) × (Int × List Int × List Int) × Int × Int × Int)) (bare : Bool) (outs : List (ByteArray × (List (List (Int × Int × Int × Int) × Nat) × Nat) × (Int × (List Int × Nat) × List Int × Nat) × Int × Int × Int)) (i : Int) => x24 k k24_1005 (t24_1005 a bare outs i)) (fun (a : List (ByteArray × List (List (Int × Int × Int × Int)) × (Int × List Int × List Int) × Int × Int × Int)) (outs : List (ByteArray × (List (List (Int × Int × Int × Int) × Nat) × Nat) × (Int × (List Int × Nat) × List Int × Nat) × Int × Int × Int)) (i : Int) => x24 k k24_1009 (t24_1009 a outs i)) a bare := by kernel_rfl
theorem v24 (k : Nat) (a : List (ByteArray × (List (List (Int × Int × Int × Int))) × (Int × (List (Int)) × List (Int)) × Int × Int × Int)) (bare : Bool) : runFn tiV (envOf env16) 52 h24 (finT tiV true Go.Proofs.Try.f24.results.toList [(.vslice 108 (.pair (.str) (.pair (.vslice 152 (.vslice 150 (.pair (.int .i64) (.pair (.int .i64) (.pair (.int .i64) (.int .i64)))))) (.pair (.pair (.int .i64) (.pair (.vslice 3 (.int .i64)) (.vslice 3 (.int .i64)))) (.pair (.int .i64) (.pair (.int .i64) (.int .i64)))))), false)] (.vslice 108 (.pair (.str) (.pair (.vslice 152 (.vslice 150 (.pair (.int .i64) (.pair (.int .i64) (.pair (.int .i64) (.int .i64)))))) (.pair (.pair (.int .i64) (.pair (.vslice 3 (.int .i64)) (.vslice 3 (.int .i64)))) (.pair (.int .i64) (.pair (.int .i64) (.int .i64)))))))) k (bodyOf Go.Proofs.Try.f24) (initS 0 [.slc 105 (.pair (.str) (.pair (.slice 202 (.slice 233 (.pair (.int .i64) (.pair (.int .i64) (.pair (.int .i64) (.int .i64)))))) (.pair (.pair (.int .i64) (.pair (.slice 3 (.int .i64)) (.slice 3 (.int .i64)))) (.pair (.int .i64) (.pair (.int .i64) (.int .i64)))))) a, .bool bare]) = f24 k a bare := by
  rw [w24]
  have h := q24 k
  unfold f24
  rw [← h]
theorem m24 : Meets Go.Proofs.Try.prog 24 s24 := meets_of_run tiVOk env16_ok mo Go.Proofs.Try.func24 (body := bodyOf Go.Proofs.Try.f24) (by kernel_rfl) (N := 52) (by kernel_rfl) (hs := h24) (by
  intro k xs r h
  unfold s24 at h
  dsimp only at h
  split at h
  · exact ⟨Nat.le_of_ble_eq_true rfl, (v24 k _ _).trans h⟩
  · cases h)
theorem env17_ok : EnvOk Go.Proofs.Try.prog (envOf env17) := envOf_cons m24 Go.Proofs.Try.func24 (by kernel_rfl) (by kernel_rfl) env16_ok

-- laws.eqIntS
def h31 : Hints := [(1004, .lab [(0, .one (.frz 3 (Ty.int IntKind.i64))), (1, .one (.frz 3 (Ty.int IntKind.i64))), (5, .one (.v))])]
def F31_1004 (k : Nat) (rec1004 : List Int → List Int → Int → Option (Bool)) (a : List Int) (b : List Int) (i : Int) : Option (Bool) :=
  bif decide (i < (↑(List.length a) : Int)) then
    bif boundA i (List.length a) then
      bif boundA i (List.length b) then
        bif !decide (List.getD a (Int.toNat i) 0 = List.getD b (Int.toNat i) 0) then
          some false
        else
          rec1004 a b (IntKind.wrap IntKind.i64 (i + 1))
      else
        none
    else
      none
  else
    some true
def F31 (k : Nat) (rec1004 : List Int → List Int → Int → Option (Bool)) (a : List (Int)) (b : List (Int)) : Option (Bool) :=
  bif !decide ((↑(List.length a) : Int) = (↑(List.length b) : Int)) then
    some false
  else
    rec1004 a b (0)
def l31 : Nat → (List Int → List Int → Int → Option (Bool))
  | 0 => fun _ _ _ => none
  | k + 1 => F31_1004 k (l31 k)
def f31 (k : Nat) (a : List (Int)) (b : List (Int)) : Option (Bool) := F31 k (l31 k) a b
def s31 : Spec := ⟨false, [(.bool, false)], true, .bool, fun k xs => match xs with | [.slc 3 (.int .i64) a, .slc 3 (.int .i64) b] => f31 k a b | _ => none⟩
def env18 : List (FuncId × Spec) := (31, s31) :: env17
noncomputable abbrev x31 := exec ti (envOf env17) 26 h31 (finT ti true Go.Proofs.Try.f31.results.toList [(.bool, false)] (.bool))
noncomputable def k31_1004 : List It := stackAt [.r, .r, .l, .r, .b, .lb none] (bodyOf Go.Proofs.Try.f31) []
def t31_1004 (a : List Int) (b : List Int) (i : Int) : St := [(0, Cell.val (AVal.slc 3 (Ty.int IntKind.i64) a)), (2, Cell.val (AVal.slc 3 (Ty.int IntKind.i64) b)), (10, Cell.val (AVal.int IntKind.i64 i))]
theorem e31_1004 (k : Nat) (a : List Int) (b : List Int) (i : Int) : x31 (k + 1) k31_1004 (t31_1004 a b i) = F31_1004 k (fun (a : List Int) (b : List Int) (i : Int) => x31 k k31_1004 (t31_1004 a b i)) a b i := by kernel_rfl
theorem q31 : ∀ k : Nat, (fun (a : List Int) (b : List Int) (i : Int) => x31 k k31_1004 (t31_1004 a b i)) = l31 k
  | 0 => rfl
  | k + 1 => by
    have h := q31 k
    show _ = F31_1004 k (l31 k)
    rw [← h]
    exact (funext fun a => funext fun b => funext fun i => e31_1004 k a b i)
theorem w31 (k : Nat) (a : List (Int)) (b : List (Int)) : runFn ti (envOf env17) 26 h31 (finT ti true Go.Proofs.Try.f31.results.toList [(.bool, false)] (.bool)) k (bodyOf Go.Proofs.Try.f31) (initS 0 [.slc 3 (.int .i64) a, .slc 3 (.int .i64) b]) = F31 k (fun (a : List Int) (b : List Int) (i : Int) => x31 k k31_1004 (t31_1004 a b i)) a b := by kernel_rfl
theorem v31 (k : Nat) (a : List (Int)) (b : List (Int)) : runFn ti (envOf env17) 26 h31 (finT ti true Go.Proofs.Try.f31.results.toList [(.bool, false)] (.bool)) k (bodyOf Go.Proofs.Try.f31) (initS 0 [.slc 3 (.int .i64) a, .slc 3 (.int .i64) b]) = f31 k a b := by
  rw [w31]
  have h := q31 k
  unfold f31
  rw [← h]
theorem m31 : Meets Go.Proofs.Try.prog 31 s31 := meets_of_run tiOk env17_ok mo Go.Proofs.Try.func31 (body := bodyOf Go.Proofs.Try.f31) (by kernel_rfl) (N := 26) (by kernel_rfl) (hs := h31) (by
  intro k xs r h
  unfold s31 at h
  dsimp only at h
  split at h
  · exact ⟨Nat.le_of_ble_eq_true rfl, (v31 k _ _).trans h⟩
  · cases h)
theorem env18_ok : EnvOk Go.Proofs.Try.prog (envOf env18) := envOf_cons m31 Go.Proofs.Try.func31 (by kernel_rfl) (by kernel_rfl) env17_ok

-- laws.intactIntS
def f19 (k : Nat) (x : List (Int)) (x_n : Nat) (y : List (Int)) (y_n : Nat) : Option (Bool) :=
  (f71 k (↑y_n : Int)).bind fun r0 =>
  bif decide ((↑x_n : Int) = (↑y_n : Int)) then
    bif boundE (IntKind.wrap IntKind.i64 ((↑y_n : Int) + r0)) (List.length x) then
      bif decide (0 ≤ 0) && decide (0 ≤ IntKind.wrap IntKind.i64 ((↑y_n : Int) + r0)) then
        bif boundE (IntKind.wrap IntKind.i64 ((↑y_n : Int) + r0)) (List.length y) then
          bif decide (0 ≤ 0) && decide (0 ≤ IntKind.wrap IntKind.i64 ((↑y_n : Int) + r0)) then
            (f31 k (List.drop (Int.toNat 0) (List.take (Int.toNat (IntKind.wrap IntKind.i64 ((↑y_n : Int) + r0))) x)) (List.drop (Int.toNat 0) (List.take (Int.toNat (IntKind.wrap IntKind.i64 ((↑y_n : Int) + r0))) y))).bind fun r1 =>
            some r1
          else
            none
        else
          none
      else
        none
    else
      none
  else
    some false
def s19 : Spec := ⟨true, [(.bool, false)], true, .bool, fun k xs => match xs with | [.vslc 3 (.int .i64) x x_n, .vslc 3 (.int .i64) y y_n] => f19 k x x_n y y_n | _ => none⟩
def env19 : List (FuncId × Spec) := (19, s19) :: env18
theorem v19 (k : Nat) (x : List (Int)) (x_n : Nat) (y : List (Int)) (y_n : Nat) : runFn tiV (envOf env18) 26 [] (finT tiV true Go.Proofs.Try.f19.results.toList [(.bool, false)] (.bool)) k (bodyOf Go.Proofs.Try.f19) (initS 0 [.vslc 3 (.int .i64) x x_n, .vslc 3 (.int .i64) y y_n]) = f19 k x x_n y y_n := by kernel_rfl
theorem m19 : Meets Go.Proofs.Try.prog 19 s19 := meets_of_run tiVOk env18_ok mo Go.Proofs.Try.func19 (body := bodyOf Go.Proofs.Try.f19) (by kernel_rfl) (N := 26) (by kernel_rfl) (hs := []) (by
  intro k xs r h
  unfold s19 at h
  dsimp only at h
  split at h
  · exact ⟨Nat.le_of_ble_eq_true rfl, (v19 k _ _ _ _).trans h⟩
  · cases h)
theorem env19_ok : EnvOk Go.Proofs.Try.prog (envOf env19) := envOf_cons m19 Go.Proofs.Try.func19 (by kernel_rfl) (by kernel_rfl) env18_ok

-- laws.intactBox
def f41 (k : Nat) (x_K : Int) (x_Low : List (Int)) (x_Low_n : Nat) (x_High : List (Int)) (x_High_n : Nat) (y_K : Int) (y_Low : List (Int)) (y_Low_n : Nat) (y_High : List (Int)) (y_High_n : Nat) : Option (Bool) :=
  bif !decide (x_K = y_K) then
    some false
  else
    (f19 k x_Low x_Low_n y_Low y_Low_n).bind fun r0 =>
    bif !r0 then
      some false
    else
      (f19 k x_High x_High_n y_High y_High_n).bind fun r1 =>
      bif !r1 then
        some false
      else
        some true
def s41 : Spec := ⟨true, [(.bool, false)], true, .bool, fun k xs => match xs with | [.agg [.int .i64 x_K, .vslc 3 (.int .i64) x_Low x_Low_n, .vslc 3 (.int .i64) x_High x_High_n], .agg [.int .i64 y_K, .vslc 3 (.int .i64) y_Low y_Low_n, .vslc 3 (.int .i64) y_High y_High_n]] => f41 k x_K x_Low x_Low_n x_High x_High_n y_K y_Low y_Low_n y_High y_High_n | _ => none⟩
def env20 : List (FuncId × Spec) := (41, s41) :: env19
theorem v41 (k : Nat) (x_K : Int) (x_Low : List (Int)) (x_Low_n : Nat) (x_High : List (Int)) (x_High_n : Nat) (y_K : Int) (y_Low : List (Int)) (y_Low_n : Nat) (y_High : List (Int)) (y_High_n : Nat) : runFn tiV (envOf env19) 22 [] (finT tiV true Go.Proofs.Try.f41.results.toList [(.bool, false)] (.bool)) k (bodyOf Go.Proofs.Try.f41) (initS 0 [.agg [.int .i64 x_K, .vslc 3 (.int .i64) x_Low x_Low_n, .vslc 3 (.int .i64) x_High x_High_n], .agg [.int .i64 y_K, .vslc 3 (.int .i64) y_Low y_Low_n, .vslc 3 (.int .i64) y_High y_High_n]]) = f41 k x_K x_Low x_Low_n x_High x_High_n y_K y_Low y_Low_n y_High y_High_n := by kernel_rfl
theorem m41 : Meets Go.Proofs.Try.prog 41 s41 := meets_of_run tiVOk env19_ok mo Go.Proofs.Try.func41 (body := bodyOf Go.Proofs.Try.f41) (by kernel_rfl) (N := 22) (by kernel_rfl) (hs := []) (by
  intro k xs r h
  unfold s41 at h
  dsimp only at h
  split at h
  · exact ⟨Nat.le_of_ble_eq_true rfl, (v41 k _ _ _ _ _ _ _ _ _ _).trans h⟩
  · cases h)
theorem env20_ok : EnvOk Go.Proofs.Try.prog (envOf env20) := envOf_cons m41 Go.Proofs.Try.func41 (by kernel_rfl) (by kernel_rfl) env19_ok

-- laws.eqTerm
def f281 (k : Nat) (a_C : Int) (a_X : Int) (a_Y : Int) (a_Z : Int) (b_C : Int) (b_X : Int) (b_Y : Int) (b_Z : Int) : Option (Bool) :=
  bif !decide (a_C = b_C) then
    some false
  else
    bif !decide (a_X = b_X) then
      some false
    else
      bif !decide (a_Y = b_Y) then
        some false
      else
        bif !decide (a_Z = b_Z) then
          some false
        else
          some true
def s281 : Spec := ⟨false, [(.bool, false)], true, .bool, fun k xs => match xs with | [.agg [.int .i64 a_C, .int .i64 a_X, .int .i64 a_Y, .int .i64 a_Z], .agg [.int .i64 b_C, .int .i64 b_X, .int .i64 b_Y, .int .i64 b_Z]] => f281 k a_C a_X a_Y a_Z b_C b_X b_Y b_Z | _ => none⟩
def env21 : List (FuncId × Spec) := (281, s281) :: env20
theorem v281 (k : Nat) (a_C : Int) (a_X : Int) (a_Y : Int) (a_Z : Int) (b_C : Int) (b_X : Int) (b_Y : Int) (b_Z : Int) : runFn ti (envOf env20) 25 [] (finT ti true Go.Proofs.Try.f281.results.toList [(.bool, false)] (.bool)) k (bodyOf Go.Proofs.Try.f281) (initS 0 [.agg [.int .i64 a_C, .int .i64 a_X, .int .i64 a_Y, .int .i64 a_Z], .agg [.int .i64 b_C, .int .i64 b_X, .int .i64 b_Y, .int .i64 b_Z]]) = f281 k a_C a_X a_Y a_Z b_C b_X b_Y b_Z := by kernel_rfl
theorem m281 : Meets Go.Proofs.Try.prog 281 s281 := meets_of_run tiOk env20_ok mo Go.Proofs.Try.func281 (body := bodyOf Go.Proofs.Try.f281) (by kernel_rfl) (N := 25) (by kernel_rfl) (hs := []) (by
  intro k xs r h
  unfold s281 at h
  dsimp only at h
  split at h
  · exact ⟨Nat.le_of_ble_eq_true rfl, (v281 k _ _ _ _ _ _ _ _).trans h⟩
  · cases h)
theorem env21_ok : EnvOk Go.Proofs.Try.prog (envOf env21) := envOf_cons m281 Go.Proofs.Try.func281 (by kernel_rfl) (by kernel_rfl) env20_ok

-- laws.eqTermS
def h255 : Hints := [(1004, .lab [(0, .one (.frz 150 (Ty.pair (Ty.int IntKind.i64) (Ty.pair (Ty.int IntKind.i64) (Ty.pair (Ty.int IntKind.i64) (Ty.int IntKind.i64)))))), (1, .one (.frz 150 (Ty.pair (Ty.int IntKind.i64) (Ty.pair (Ty.int IntKind.i64) (Ty.pair (Ty.int IntKind.i64) (Ty.int IntKind.i64)))))), (5, .one (.v))])]
def F255_1004 (k : Nat) (rec1004 : List (Int × Int × Int × Int) → List (Int × Int × Int × Int) → Int → Option (Bool)) (a : List (Int × Int × Int × Int)) (b : List (Int × Int × Int × Int)) (i : Int) : Option (Bool) :=
  bif decide (i < (↑(List.length a) : Int)) then
    bif boundA i (List.length a) then
      bif boundA i (List.length b) then
        (f281 k (List.getD a (Int.toNat i) (0, 0, 0, 0)).fst (List.getD a (Int.toNat i) (0, 0, 0, 0)).snd.fst (List.getD a (Int.toNat i) (0, 0, 0, 0)).snd.snd.fst (List.getD a (Int.toNat i) (0, 0, 0, 0)).snd.snd.snd (List.getD b (Int.toNat i) (0, 0, 0, 0)).fst (List.getD b (Int.toNat i) (0, 0, 0, 0)).snd.fst (List.getD b (Int.toNat i) (0, 0, 0, 0)).snd.snd.fst (List.getD b (Int.toNat i) (0, 0, 0, 0)).snd.snd.snd).bind fun r0 =>
        bif !r0 then
          some false
        else
          rec1004 a b (IntKind.wrap IntKind.i64 (i + 1))
      else
        none
    else
      none
  else
    some true
def F255 (k : Nat) (rec1004 : List (Int × Int × Int × Int) → List (Int × Int × Int × Int) → Int → Option (Bool)) (a : List (Int × Int × Int × Int)) (b : List (Int × Int × Int × Int)) : Option (Bool) :=
  bif !decide ((↑(List.length a) : Int) = (↑(List.length b) : Int)) then
    some false
  else
    rec1004 a b (0)
def l255 : Nat → (List (Int × Int × Int × Int) → List (Int × Int × Int × Int) → Int → Option (Bool))
  | 0 => fun _ _ _ => none
  | k + 1 => F255_1004 k (l255 k)
def f255 (k : Nat) (a : List (Int × Int × Int × Int)) (b : List (Int × Int × Int × Int)) : Option (Bool) := F255 k (l255 k) a b
def s255 : Spec := ⟨false, [(.bool, false)], true, .bool, fun k xs => match xs with | [.slc 150 (.pair (.int .i64) (.pair (.int .i64) (.pair (.int .i64) (.int .i64)))) a, .slc 150 (.pair (.int .i64) (.pair (.int .i64) (.pair (.int .i64) (.int .i64)))) b] => f255 k a b | _ => none⟩
def env22 : List (FuncId × Spec) := (255, s255) :: env21
noncomputable abbrev x255 := exec ti (envOf env21) 27 h255 (finT ti true Go.Proofs.Try.f255.results.toList [(.bool, false)] (.bool))
noncomputable def k255_1004 : List It := stackAt [.r, .r, .l, .r, .b, .lb none] (bodyOf Go.Proofs.Try.f255) []
def t255_1004 (a : List (Int × Int × Int × Int)) (b : List (Int × Int × Int × Int)) (i : Int) : St := [(0, Cell.val (AVal.slc 150 (Ty.pair (Ty.int IntKind.i64) (Ty.pair (Ty.int IntKind.i64) (Ty.pair (Ty.int IntKind.i64) (Ty.int IntKind.i64)))) a)), (2, Cell.val (AVal.slc 150 (Ty.pair (Ty.int IntKind.i64) (Ty.pair (Ty.int IntKind.i64) (Ty.pair (Ty.int IntKind.i64) (Ty.int IntKind.i64)))) b)), (10, Cell.val (AVal.int IntKind.i64 i))]
theorem e255_1004 (k : Nat) (a : List (Int × Int × Int × Int)) (b : List (Int × Int × Int × Int)) (i : Int) : x255 (k + 1) k255_1004 (t255_1004 a b i) = F255_1004 k (fun (a : List (Int × Int × Int × Int)) (b : List (Int × Int × Int × Int)) (i : Int) => x255 k k255_1004 (t255_1004 a b i)) a b i := by kernel_rfl
theorem q255 : ∀ k : Nat, (fun (a : List (Int × Int × Int × Int)) (b : List (Int × Int × Int × Int)) (i : Int) => x255 k k255_1004 (t255_1004 a b i)) = l255 k
  | 0 => rfl
  | k + 1 => by
    have h := q255 k
    show _ = F255_1004 k (l255 k)
    rw [← h]
    exact (funext fun a => funext fun b => funext fun i => e255_1004 k a b i)
theorem w255 (k : Nat) (a : List (Int × Int × Int × Int)) (b : List (Int × Int × Int × Int)) : runFn ti (envOf env21) 27 h255 (finT ti true Go.Proofs.Try.f255.results.toList [(.bool, false)] (.bool)) k (bodyOf Go.Proofs.Try.f255) (initS 0 [.slc 150 (.pair (.int .i64) (.pair (.int .i64) (.pair (.int .i64) (.int .i64)))) a, .slc 150 (.pair (.int .i64) (.pair (.int .i64) (.pair (.int .i64) (.int .i64)))) b]) = F255 k (fun (a : List (Int × Int × Int × Int)) (b : List (Int × Int × Int × Int)) (i : Int) => x255 k k255_1004 (t255_1004 a b i)) a b := by kernel_rfl
theorem v255 (k : Nat) (a : List (Int × Int × Int × Int)) (b : List (Int × Int × Int × Int)) : runFn ti (envOf env21) 27 h255 (finT ti true Go.Proofs.Try.f255.results.toList [(.bool, false)] (.bool)) k (bodyOf Go.Proofs.Try.f255) (initS 0 [.slc 150 (.pair (.int .i64) (.pair (.int .i64) (.pair (.int .i64) (.int .i64)))) a, .slc 150 (.pair (.int .i64) (.pair (.int .i64) (.pair (.int .i64) (.int .i64)))) b]) = f255 k a b := by
  rw [w255]
  have h := q255 k
  unfold f255
  rw [← h]
theorem m255 : Meets Go.Proofs.Try.prog 255 s255 := meets_of_run tiOk env21_ok mo Go.Proofs.Try.func255 (body := bodyOf Go.Proofs.Try.f255) (by kernel_rfl) (N := 27) (by kernel_rfl) (hs := h255) (by
  intro k xs r h
  unfold s255 at h
  dsimp only at h
  split at h
  · exact ⟨Nat.le_of_ble_eq_true rfl, (v255 k _ _).trans h⟩
  · cases h)
theorem env22_ok : EnvOk Go.Proofs.Try.prog (envOf env22) := envOf_cons m255 Go.Proofs.Try.func255 (by kernel_rfl) (by kernel_rfl) env21_ok

-- laws.intactTermS
def f210 (k : Nat) (x : List (Int × Int × Int × Int)) (x_n : Nat) (y : List (Int × Int × Int × Int)) (y_n : Nat) : Option (Bool) :=
  (f71 k (↑y_n : Int)).bind fun r0 =>
  bif decide ((↑x_n : Int) = (↑y_n : Int)) then
    bif boundE (IntKind.wrap IntKind.i64 ((↑y_n : Int) + r0)) (List.length x) then
      bif decide (0 ≤ 0) && decide (0 ≤ IntKind.wrap IntKind.i64 ((↑y_n : Int) + r0)) then
        bif boundE (IntKind.wrap IntKind.i64 ((↑y_n : Int) + r0)) (List.length y) then
          bif decide (0 ≤ 0) && decide (0 ≤ IntKind.wrap IntKind.i64 ((↑y_n : Int) + r0)) then
            (f255 k (List.drop (Int.toNat 0) (List.take (Int.toNat (IntKind.wrap IntKind.i64 ((↑y_n : Int) + r0))) x)) (List.drop (Int.toNat 0) (List.take (Int.toNat (IntKind.wrap IntKind.i64 ((↑y_n : Int) + r0))) y))).bind fun r1 =>
            some r1
          else
            none
        else
          none
      else
        none
    else
      none
  else
    some false
def s210 : Spec := ⟨true, [(.bool, false)], true, .bool, fun k xs => match xs with | [.vslc 150 (.pair (.int .i64) (.pair (.int .i64) (.pair (.int .i64) (.int .i64)))) x x_n, .vslc 150 (.pair (.int .i64) (.pair (.int .i64) (.pair (.int .i64) (.int .i64)))) y y_n] => f210 k x x_n y y_n | _ => none⟩
def env23 : List (FuncId × Spec) := (210, s210) :: env22
theorem v210 (k : Nat) (x : List (Int × Int × Int × Int)) (x_n : Nat) (y : List (Int × Int × Int × Int)) (y_n : Nat) : runFn tiV (envOf env22) 26 [] (finT tiV true Go.Proofs.Try.f210.results.toList [(.bool, false)] (.bool)) k (bodyOf Go.Proofs.Try.f210) (initS 0 [.vslc 150 (.pair (.int .i64) (.pair (.int .i64) (.pair (.int .i64) (.int .i64)))) x x_n, .vslc 150 (.pair (.int .i64) (.pair (.int .i64) (.pair (.int .i64) (.int .i64)))) y y_n]) = f210 k x x_n y y_n := by kernel_rfl
theorem m210 : Meets Go.Proofs.Try.prog 210 s210 := meets_of_run tiVOk env22_ok mo Go.Proofs.Try.func210 (body := bodyOf Go.Proofs.Try.f210) (by kernel_rfl) (N := 26) (by kernel_rfl) (hs := []) (by
  intro k xs r h
  unfold s210 at h
  dsimp only at h
  split at h
  · exact ⟨Nat.le_of_ble_eq_true rfl, (v210 k _ _ _ _).trans h⟩
  · cases h)
theorem env23_ok : EnvOk Go.Proofs.Try.prog (envOf env23) := envOf_cons m210 Go.Proofs.Try.func210 (by kernel_rfl) (by kernel_rfl) env22_ok

-- laws.eqTermSS
def h211 : Hints := [(1004, .lab [(0, .one (.frz 152 (Ty.slice 150 (Ty.pair (Ty.int IntKind.i64) (Ty.pair (Ty.int IntKind.i64) (Ty.pair (Ty.int IntKind.i64) (Ty.int IntKind.i64))))))), (1, .one (.frz 152 (Ty.slice 150 (Ty.pair (Ty.int IntKind.i64) (Ty.pair (Ty.int IntKind.i64) (Ty.pair (Ty.int IntKind.i64) (Ty.int IntKind.i64))))))), (5, .one (.v))])]
def F211_1004 (k : Nat) (rec1004 : List (List (Int × Int × Int × Int)) → List (List (Int × Int × Int × Int)) → Int → Option (Bool)) (a : List (List (Int × Int × Int × Int))) (b : List (List (Int × Int × Int × Int))) (i : Int) : Option (Bool) :=
  bif decide (i < (↑(List.length a) : Int)) then
    bif boundA i (List.length a) then
      bif boundA i (List.length b) then
        (f255 k (List.getD a (Int.toNat i) []) (List.getD b (Int.toNat i) [])).bind fun r0 =>
        bif !r0 then
          some false
        else
          rec1004 a b (IntKind.wrap IntKind.i64 (i + 1))
      else
        none
    else
      none
  else
    some true
def F211 (k : Nat) (rec1004 : List (List (Int × Int × Int × Int)) → List (List (Int × Int × Int × Int)) → Int → Option (Bool)) (a : List (List (Int × Int × Int × Int))) (b : List (List (Int × Int × Int × Int))) : Option (Bool) :=
  bif !decide ((↑(List.length a) : Int) = (↑(List.length b) : Int)) then
    some false
  else
    rec1004 a b (0)
def l211 : Nat → (List (List (Int × Int × Int × Int)) → List (List (Int × Int × Int × Int)) → Int → Option (Bool))
  | 0 => fun _ _ _ => none
  | k + 1 => F211_1004 k (l211 k)
def f211 (k : Nat) (a : List (List (Int × Int × Int × Int))) (b : List (List (Int × Int × Int × Int))) : Option (Bool) := F211 k (l211 k) a b
def s211 : Spec := ⟨false, [(.bool, false)], true, .bool, fun k xs => match xs with | [.slc 152 (.slice 150 (.pair (.int .i64) (.pair (.int .i64) (.pair (.int .i64) (.int .i64))))) a, .slc 152 (.slice 150 (.pair (.int .i64) (.pair (.int .i64) (.pair (.int .i64) (.int .i64))))) b] => f211 k a b | _ => none⟩
def env24 : List (FuncId × Spec) := (211, s211) :: env23
noncomputable abbrev x211 := exec ti (envOf env23) 27 h211 (finT ti true Go.Proofs.Try.f211.results.toList [(.bool, false)] (.bool))
noncomputable def k211_1004 : List It := stackAt [.r, .r, .l, .r, .b, .lb none] (bodyOf Go.Proofs.Try.f211) []
def t211_1004 (a : List (List (Int × Int × Int × Int))) (b : List (List (Int × Int × Int × Int))) (i : Int) : St := [(0, Cell.val (AVal.slc 152 (Ty.slice 150 (Ty.pair (Ty.int IntKind.i64) (Ty.pair (Ty.int IntKind.i64) (Ty.pair (Ty.int IntKind.i64) (Ty.int IntKind.i64))))) a)), (2, Cell.val (AVal.slc 152 (Ty.slice 150 (Ty.pair (Ty.int IntKind.i64) (Ty.pair (Ty.int IntKind.i64) (Ty.pair (Ty.int IntKind.i64) (Ty.int IntKind.i64))))) b)), (10, Cell.val (AVal.int IntKind.i64 i))]
theorem e211_1004 (k : Nat) (a : List (List (Int × Int × Int × Int))) (b : List (List (Int × Int × Int × Int))) (i : Int) : x211 (k + 1) k211_1004 (t211_1004 a b i) = F211_1004 k (fun (a : List (List (Int × Int × Int × Int))) (b : List (List (Int × Int × Int × Int))) (i : Int) => x211 k k211_1004 (t211_1004 a b i)) a b i := by kernel_rfl
theorem q211 : ∀ k : Nat, (fun (a : List (List (Int × Int × Int × Int))) (b : List (List (Int × Int × Int × Int))) (i : Int) => x211 k k211_1004 (t211_1004 a b i)) = l211 k
  | 0 => rfl
  | k + 1 => by
    have h := q211 k
    show _ = F211_1004 k (l211 k)
    rw [← h]
    exact (funext fun a => funext fun b => funext fun i => e211_1004 k a b i)
theorem w211 (k : Nat) (a : List (List (Int × Int × Int × Int))) (b : List (List (Int × Int × Int × Int))) : runFn ti (envOf env23) 27 h211 (finT ti true Go.Proofs.Try.f211.results.toList [(.bool, false)] (.bool)) k (bodyOf Go.Proofs.Try.f211) (initS 0 [.slc 152 (.slice 150 (.pair (.int .i64) (.pair (.int .i64) (.pair (.int .i64) (.int .i64))))) a, .slc 152 (.slice 150 (.pair (.int .i64) (.pair (.int .i64) (.pair (.int .i64) (.int .i64))))) b]) = F211 k (fun (a : List (List (Int × Int × Int × Int))) (b : List (List (Int × Int × Int × Int))) (i : Int) => x211 k k211_1004 (t211_1004 a b i)) a b := by kernel_rfl
theorem v211 (k : Nat) (a : List (List (Int × Int × Int × Int))) (b : List (List (Int × Int × Int × Int))) : runFn ti (envOf env23) 27 h211 (finT ti true Go.Proofs.Try.f211.results.toList [(.bool, false)] (.bool)) k (bodyOf Go.Proofs.Try.f211) (initS 0 [.slc 152 (.slice 150 (.pair (.int .i64) (.pair (.int .i64) (.pair (.int .i64) (.int .i64))))) a, .slc 152 (.slice 150 (.pair (.int .i64) (.pair (.int .i64) (.pair (.int .i64) (.int .i64))))) b]) = f211 k a b := by
  rw [w211]
  have h := q211 k
  unfold f211
  rw [← h]
theorem m211 : Meets Go.Proofs.Try.prog 211 s211 := meets_of_run tiOk env23_ok mo Go.Proofs.Try.func211 (body := bodyOf Go.Proofs.Try.f211) (by kernel_rfl) (N := 27) (by kernel_rfl) (hs := h211) (by
  intro k xs r h
  unfold s211 at h
  dsimp only at h
  split at h
  · exact ⟨Nat.le_of_ble_eq_true rfl, (v211 k _ _).trans h⟩
  · cases h)
theorem env24_ok : EnvOk Go.Proofs.Try.prog (envOf env24) := envOf_cons m211 Go.Proofs.Try.func211 (by kernel_rfl) (by kernel_rfl) env23_ok

end Go.Proofs.YtbaeikcfchiiaaaE
