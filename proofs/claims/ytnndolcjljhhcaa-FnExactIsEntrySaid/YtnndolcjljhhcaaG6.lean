/- Functions, by the engine; printed. -/
import Derived.Test.YtnndolcjljhhcaaG5
set_option maxRecDepth 100000
set_option maxHeartbeats 4000000
set_option linter.unusedVariables false
namespace Go.Proofs.YtnndolcjljhhcaaE
-- laws.intactTermSS
def h94 : Hints := [(1005, .lab [(0, .one (.v)), (1, .one (.v)), (5, .one (.v)), (6, .one (.v))])]
def F94_1005 (k : Nat) (rec1005 : List (List (Int × Int × Int × Int) × Nat) → Nat → List (List (Int × Int × Int × Int) × Nat) → Nat → Int → Int → Option (Bool)) (x : List (List (Int × Int × Int × Int) × Nat)) (x_n : Nat) (y : List (List (Int × Int × Int × Int) × Nat)) (y_n : Nat) (n : Int) (i : Int) : Option (Bool) :=
  bif decide (i < (↑y_n : Int)) then
    bif boundA i x_n then
      bif boundA i y_n then
        (f129 k (List.getD x (Int.toNat i) ([], 0)).fst (List.getD x (Int.toNat i) ([], 0)).snd (List.getD y (Int.toNat i) ([], 0)).fst (List.getD y (Int.toNat i) ([], 0)).snd).bind fun r0 =>
        bif !r0 then
          some false
        else
          rec1005 x x_n y y_n n (IntKind.wrap IntKind.i64 (i + 1))
      else
        none
    else
      none
  else
    bif boundE n (List.length x) then
      bif decide (0 ≤ (↑y_n : Int)) && decide ((↑y_n : Int) ≤ n) then
        bif boundE n (List.length y) then
          bif decide (0 ≤ (↑y_n : Int)) && decide ((↑y_n : Int) ≤ n) then
            (f130 k (List.map (fun (x : T (Ty.vslice 136 (Ty.pair (Ty.int IntKind.i64) (Ty.pair (Ty.int IntKind.i64) (Ty.pair (Ty.int IntKind.i64) (Ty.int IntKind.i64)))))) => List.map (fun (x : T (Ty.pair (Ty.int IntKind.i64) (Ty.pair (Ty.int IntKind.i64) (Ty.pair (Ty.int IntKind.i64) (Ty.int IntKind.i64))))) => (x.fst, x.snd.fst, x.snd.snd.fst, x.snd.snd.snd)) (List.take x.snd x.fst)) (List.drop (Int.toNat (↑y_n : Int)) (List.take (Int.toNat n) x))) (List.map (fun (x : T (Ty.vslice 136 (Ty.pair (Ty.int IntKind.i64) (Ty.pair (Ty.int IntKind.i64) (Ty.pair (Ty.int IntKind.i64) (Ty.int IntKind.i64)))))) => List.map (fun (x : T (Ty.pair (Ty.int IntKind.i64) (Ty.pair (Ty.int IntKind.i64) (Ty.pair (Ty.int IntKind.i64) (Ty.int IntKind.i64))))) => (x.fst, x.snd.fst, x.snd.snd.fst, x.snd.snd.snd)) (List.take x.snd x.fst)) (List.drop (Int.toNat (↑y_n : Int)) (List.take (Int.toNat n) y)))).bind fun r1 =>
            some r1
          else
            none
        else
          none
      else
        none
    else
      none
def F94 (k : Nat) (rec1005 : List (List (Int × Int × Int × Int) × Nat) → Nat → List (List (Int × Int × Int × Int) × Nat) → Nat → Int → Int → Option (Bool)) (x : List (List (Int × Int × Int × Int) × Nat)) (x_n : Nat) (y : List (List (Int × Int × Int × Int) × Nat)) (y_n : Nat) : Option (Bool) :=
  (f65 k (↑y_n : Int)).bind fun r0 =>
  bif !decide ((↑x_n : Int) = (↑y_n : Int)) then
    some false
  else
    rec1005 x x_n y y_n (IntKind.wrap IntKind.i64 ((↑y_n : Int) + r0)) (0)
def l94 : Nat → (List (List (Int × Int × Int × Int) × Nat) → Nat → List (List (Int × Int × Int × Int) × Nat) → Nat → Int → Int → Option (Bool))
  | 0 => fun _ _ _ _ _ _ => none
  | k + 1 => F94_1005 k (l94 k)
def f94 (k : Nat) (x : List (List (Int × Int × Int × Int) × Nat)) (x_n : Nat) (y : List (List (Int × Int × Int × Int) × Nat)) (y_n : Nat) : Option (Bool) := F94 k (l94 k) x x_n y y_n
def s94 : Spec := ⟨true, [(.bool, false)], true, .bool, fun k xs => match xs with | [.vslc 133 (.vslice 136 (.pair (.int .i64) (.pair (.int .i64) (.pair (.int .i64) (.int .i64))))) x x_n, .vslc 133 (.vslice 136 (.pair (.int .i64) (.pair (.int .i64) (.pair (.int .i64) (.int .i64))))) y y_n] => f94 k x x_n y y_n | _ => none⟩
def env51 : List (FuncId × Spec) := (94, s94) :: env50
noncomputable abbrev x94 := exec tiV (envOf env50) 45 h94 (finT tiV true Go.Proofs.Try.f94.results.toList [(.bool, false)] (.bool))
noncomputable def k94_1005 : List It := stackAt [.r, .r, .r, .l, .r, .b, .lb none] (bodyOf Go.Proofs.Try.f94) []
def t94_1005 (x : List (List (Int × Int × Int × Int) × Nat)) (x_n : Nat) (y : List (List (Int × Int × Int × Int) × Nat)) (y_n : Nat) (n : Int) (i : Int) : St := [(0, Cell.val (AVal.vslc 133 (Ty.vslice 136 (Ty.pair (Ty.int IntKind.i64) (Ty.pair (Ty.int IntKind.i64) (Ty.pair (Ty.int IntKind.i64) (Ty.int IntKind.i64))))) x x_n)), (2, Cell.val (AVal.vslc 133 (Ty.vslice 136 (Ty.pair (Ty.int IntKind.i64) (Ty.pair (Ty.int IntKind.i64) (Ty.pair (Ty.int IntKind.i64) (Ty.int IntKind.i64))))) y y_n)), (10, Cell.val (AVal.int IntKind.i64 n)), (12, Cell.val (AVal.int IntKind.i64 i))]
theorem e94_1005 (k : Nat) (x : List (List (Int × Int × Int × Int) × Nat)) (x_n : Nat) (y : List (List (Int × Int × Int × Int) × Nat)) (y_n : Nat) (n : Int) (i : Int) : x94 (k + 1) k94_1005 (t94_1005 x x_n y y_n n i) = F94_1005 k (fun (x : List (List (Int × Int × Int × Int) × Nat)) (x_n : Nat) (y : List (List (Int × Int × Int × Int) × Nat)) (y_n : Nat) (n : Int) (i : Int) => x94 k k94_1005 (t94_1005 x x_n y y_n n i)) x x_n y y_n n i := by kernel_rfl
theorem q94 : ∀ k : Nat, (fun (x : List (List (Int × Int × Int × Int) × Nat)) (x_n : Nat) (y : List (List (Int × Int × Int × Int) × Nat)) (y_n : Nat) (n : Int) (i : Int) => x94 k k94_1005 (t94_1005 x x_n y y_n n i)) = l94 k
  | 0 => rfl
  | k + 1 => by
    have h := q94 k
    show _ = F94_1005 k (l94 k)
    rw [← h]
    exact (funext fun x => funext fun x_n => funext fun y => funext fun y_n => funext fun n => funext fun i => e94_1005 k x x_n y y_n n i)
theorem w94 (k : Nat) (x : List (List (Int × Int × Int × Int) × Nat)) (x_n : Nat) (y : List (List (Int × Int × Int × Int) × Nat)) (y_n : Nat) : runFn tiV (envOf env50) 45 h94 (finT tiV true Go.Proofs.Try.f94.results.toList [(.bool, false)] (.bool)) k (bodyOf Go.Proofs.Try.f94) (initS 0 [.vslc 133 (.vslice 136 (.pair (.int .i64) (.pair (.int .i64) (.pair (.int .i64) (.int .i64))))) x x_n, .vslc 133 (.vslice 136 (.pair (.int .i64) (.pair (.int .i64) (.pair (.int .i64) (.int .i64))))) y y_n]) = F94 k (fun (x : List (List (Int × Int × Int × Int) × Nat)) (x_n : Nat) (y : List (List (Int × Int × Int × Int) × Nat)) (y_n : Nat) (n : Int) (i : Int) => x94 k k94_1005 (t94_1005 x x_n y y_n n i)) x x_n y y_n := by kernel_rfl
theorem v94 (k : Nat) (x : List (List (Int × Int × Int × Int) × Nat)) (x_n : Nat) (y : List (List (Int × Int × Int × Int) × Nat)) (y_n : Nat) : runFn tiV (envOf env50) 45 h94 (finT tiV true Go.Proofs.Try.f94.results.toList [(.bool, false)] (.bool)) k (bodyOf Go.Proofs.Try.f94) (initS 0 [.vslc 133 (.vslice 136 (.pair (.int .i64) (.pair (.int .i64) (.pair (.int .i64) (.int .i64))))) x x_n, .vslc 133 (.vslice 136 (.pair (.int .i64) (.pair (.int .i64) (.pair (.int .i64) (.int .i64))))) y y_n]) = f94 k x x_n y y_n := by
  rw [w94]
  have h := q94 k
  unfold f94
  rw [← h]
theorem m94 : Meets Go.Proofs.Try.prog 94 s94 := meets_of_run tiVOk env50_ok mo Go.Proofs.Try.func94 (body := bodyOf Go.Proofs.Try.f94) (by kernel_rfl) (N := 45) (by kernel_rfl) (hs := h94) (by
  intro k xs r h
  unfold s94 at h
  dsimp only at h
  split at h
  · exact ⟨Nat.le_of_ble_eq_true rfl, (v94 k _ _ _ _).trans h⟩
  · cases h)
theorem env51_ok : EnvOk Go.Proofs.Try.prog (envOf env51) := envOf_cons m94 Go.Proofs.Try.func94 (by kernel_rfl) (by kernel_rfl) env50_ok

-- laws.intactEntry
def f49 (k : Nat) (x_Name : ByteArray) (x_System : List (List (Int × Int × Int × Int) × Nat)) (x_System_n : Nat) (x_Box_K : Int) (x_Box_Low : List (Int)) (x_Box_Low_n : Nat) (x_Box_High : List (Int)) (x_Box_High_n : Nat) (x_Least : Int) (x_Most : Int) (x_Version : Int) (y_Name : ByteArray) (y_System : List (List (Int × Int × Int × Int) × Nat)) (y_System_n : Nat) (y_Box_K : Int) (y_Box_Low : List (Int)) (y_Box_Low_n : Nat) (y_Box_High : List (Int)) (y_Box_High_n : Nat) (y_Least : Int) (y_Most : Int) (y_Version : Int) : Option (Bool) :=
  bif !ByteArray.toList x_Name == ByteArray.toList y_Name then
    some false
  else
    (f94 k x_System x_System_n y_System y_System_n).bind fun r0 =>
    bif !r0 then
      some false
    else
      (f58 k x_Box_K x_Box_Low x_Box_Low_n x_Box_High x_Box_High_n y_Box_K y_Box_Low y_Box_Low_n y_Box_High y_Box_High_n).bind fun r1 =>
      bif !r1 then
        some false
      else
        bif !decide (x_Least = y_Least) then
          some false
        else
          bif !decide (x_Most = y_Most) then
            some false
          else
            bif !decide (x_Version = y_Version) then
              some false
            else
              some true
def s49 : Spec := ⟨true, [(.bool, false)], true, .bool, fun k xs => match xs with | [.agg [.str x_Name, .vslc 133 (.vslice 136 (.pair (.int .i64) (.pair (.int .i64) (.pair (.int .i64) (.int .i64))))) x_System x_System_n, .int .i64 x_Box_K, .vslc 3 (.int .i64) x_Box_Low x_Box_Low_n, .vslc 3 (.int .i64) x_Box_High x_Box_High_n, .int .i64 x_Least, .int .i64 x_Most, .int .i64 x_Version], .agg [.str y_Name, .vslc 133 (.vslice 136 (.pair (.int .i64) (.pair (.int .i64) (.pair (.int .i64) (.int .i64))))) y_System y_System_n, .int .i64 y_Box_K, .vslc 3 (.int .i64) y_Box_Low y_Box_Low_n, .vslc 3 (.int .i64) y_Box_High y_Box_High_n, .int .i64 y_Least, .int .i64 y_Most, .int .i64 y_Version]] => f49 k x_Name x_System x_System_n x_Box_K x_Box_Low x_Box_Low_n x_Box_High x_Box_High_n x_Least x_Most x_Version y_Name y_System y_System_n y_Box_K y_Box_Low y_Box_Low_n y_Box_High y_Box_High_n y_Least y_Most y_Version | _ => none⟩
def env52 : List (FuncId × Spec) := (49, s49) :: env51
theorem v49 (k : Nat) (x_Name : ByteArray) (x_System : List (List (Int × Int × Int × Int) × Nat)) (x_System_n : Nat) (x_Box_K : Int) (x_Box_Low : List (Int)) (x_Box_Low_n : Nat) (x_Box_High : List (Int)) (x_Box_High_n : Nat) (x_Least : Int) (x_Most : Int) (x_Version : Int) (y_Name : ByteArray) (y_System : List (List (Int × Int × Int × Int) × Nat)) (y_System_n : Nat) (y_Box_K : Int) (y_Box_Low : List (Int)) (y_Box_Low_n : Nat) (y_Box_High : List (Int)) (y_Box_High_n : Nat) (y_Least : Int) (y_Most : Int) (y_Version : Int) : runFn tiV (envOf env51) 37 [] (finT tiV true Go.Proofs.Try.f49.results.toList [(.bool, false)] (.bool)) k (bodyOf Go.Proofs.Try.f49) (initS 0 [.agg [.str x_Name, .vslc 133 (.vslice 136 (.pair (.int .i64) (.pair (.int .i64) (.pair (.int .i64) (.int .i64))))) x_System x_System_n, .int .i64 x_Box_K, .vslc 3 (.int .i64) x_Box_Low x_Box_Low_n, .vslc 3 (.int .i64) x_Box_High x_Box_High_n, .int .i64 x_Least, .int .i64 x_Most, .int .i64 x_Version], .agg [.str y_Name, .vslc 133 (.vslice 136 (.pair (.int .i64) (.pair (.int .i64) (.pair (.int .i64) (.int .i64))))) y_System y_System_n, .int .i64 y_Box_K, .vslc 3 (.int .i64) y_Box_Low y_Box_Low_n, .vslc 3 (.int .i64) y_Box_High y_Box_High_n, .int .i64 y_Least, .int .i64 y_Most, .int .i64 y_Version]]) = f49 k x_Name x_System x_System_n x_Box_K x_Box_Low x_Box_Low_n x_Box_High x_Box_High_n x_Least x_Most x_Version y_Name y_System y_System_n y_Box_K y_Box_Low y_Box_Low_n y_Box_High y_Box_High_n y_Least y_Most y_Version := by kernel_rfl
theorem m49 : Meets Go.Proofs.Try.prog 49 s49 := meets_of_run tiVOk env51_ok mo Go.Proofs.Try.func49 (body := bodyOf Go.Proofs.Try.f49) (by kernel_rfl) (N := 37) (by kernel_rfl) (hs := []) (by
  intro k xs r h
  unfold s49 at h
  dsimp only at h
  split at h
  · exact ⟨Nat.le_of_ble_eq_true rfl, (v49 k _ _ _ _ _ _ _ _ _ _ _ _ _ _ _ _ _ _ _ _ _ _).trans h⟩
  · cases h)
theorem env52_ok : EnvOk Go.Proofs.Try.prog (envOf env52) := envOf_cons m49 Go.Proofs.Try.func49 (by kernel_rfl) (by kernel_rfl) env51_ok

-- laws.FnExactIsEntry
def f11 (k : Nat) (aE_Name : ByteArray) (aE_System : List (List (Int × Int × Int × Int))) (aE_Box_K : Int) (aE_Box_Low : List (Int)) (aE_Box_High : List (Int)) (aE_Least : Int) (aE_Most : Int) (aE_Version : Int) : Option (Bool) :=
  (f45 k aE_Name aE_System aE_Box_K aE_Box_Low aE_Box_High aE_Least aE_Most aE_Version 1000000).bind fun r0 =>
  bif decide (r0 < 0) then
    some true
  else
    (f47 k aE_Name aE_System aE_Box_K aE_Box_Low aE_Box_High aE_Least aE_Most aE_Version false).bind fun r1 =>
    (f46 k r1.fst (List.map (fun (x : T (Ty.vslice 136 (Ty.pair (Ty.int IntKind.i64) (Ty.pair (Ty.int IntKind.i64) (Ty.pair (Ty.int IntKind.i64) (Ty.int IntKind.i64)))))) => List.map (fun (x : T (Ty.pair (Ty.int IntKind.i64) (Ty.pair (Ty.int IntKind.i64) (Ty.pair (Ty.int IntKind.i64) (Ty.int IntKind.i64))))) => (x.fst, x.snd.fst, x.snd.snd.fst, x.snd.snd.snd)) (List.take x.snd x.fst)) (List.take r1.snd.fst.snd r1.snd.fst.fst)) r1.snd.snd.fst.fst (List.take r1.snd.snd.fst.snd.fst.snd r1.snd.snd.fst.snd.fst.fst) (List.take r1.snd.snd.fst.snd.snd.snd r1.snd.snd.fst.snd.snd.fst) r1.snd.snd.snd.fst r1.snd.snd.snd.snd.fst r1.snd.snd.snd.snd.snd).bind fun r2 =>
    (f47 k aE_Name aE_System aE_Box_K aE_Box_Low aE_Box_High aE_Least aE_Most aE_Version false).bind fun r3 =>
    (f48 k r3.fst (List.map (fun (x : T (Ty.vslice 136 (Ty.pair (Ty.int IntKind.i64) (Ty.pair (Ty.int IntKind.i64) (Ty.pair (Ty.int IntKind.i64) (Ty.int IntKind.i64)))))) => List.map (fun (x : T (Ty.pair (Ty.int IntKind.i64) (Ty.pair (Ty.int IntKind.i64) (Ty.pair (Ty.int IntKind.i64) (Ty.int IntKind.i64))))) => (x.fst, x.snd.fst, x.snd.snd.fst, x.snd.snd.snd)) (List.take x.snd x.fst)) (List.take r3.snd.fst.snd r3.snd.fst.fst)) r3.snd.snd.fst.fst (List.take r3.snd.snd.fst.snd.fst.snd r3.snd.snd.fst.snd.fst.fst) (List.take r3.snd.snd.fst.snd.snd.snd r3.snd.snd.fst.snd.snd.fst) r3.snd.snd.snd.fst r3.snd.snd.snd.snd.fst r3.snd.snd.snd.snd.snd).bind fun r4 =>
    bif !r4 == r2 then
      some false
    else
      (f47 k aE_Name aE_System aE_Box_K aE_Box_Low aE_Box_High aE_Least aE_Most aE_Version false).bind fun r5 =>
      (f49 k r3.fst r3.snd.fst.fst r3.snd.fst.snd r3.snd.snd.fst.fst r3.snd.snd.fst.snd.fst.fst r3.snd.snd.fst.snd.fst.snd r3.snd.snd.fst.snd.snd.fst r3.snd.snd.fst.snd.snd.snd r3.snd.snd.snd.fst r3.snd.snd.snd.snd.fst r3.snd.snd.snd.snd.snd r5.fst r5.snd.fst.fst r5.snd.fst.snd r5.snd.snd.fst.fst r5.snd.snd.fst.snd.fst.fst r5.snd.snd.fst.snd.fst.snd r5.snd.snd.fst.snd.snd.fst r5.snd.snd.fst.snd.snd.snd r5.snd.snd.snd.fst r5.snd.snd.snd.snd.fst r5.snd.snd.snd.snd.snd).bind fun r6 =>
      bif !r6 then
        some false
      else
        (f47 k aE_Name aE_System aE_Box_K aE_Box_Low aE_Box_High aE_Least aE_Most aE_Version true).bind fun r7 =>
        (f48 k r7.fst (List.map (fun (x : T (Ty.vslice 136 (Ty.pair (Ty.int IntKind.i64) (Ty.pair (Ty.int IntKind.i64) (Ty.pair (Ty.int IntKind.i64) (Ty.int IntKind.i64)))))) => List.map (fun (x : T (Ty.pair (Ty.int IntKind.i64) (Ty.pair (Ty.int IntKind.i64) (Ty.pair (Ty.int IntKind.i64) (Ty.int IntKind.i64))))) => (x.fst, x.snd.fst, x.snd.snd.fst, x.snd.snd.snd)) (List.take x.snd x.fst)) (List.take r7.snd.fst.snd r7.snd.fst.fst)) r7.snd.snd.fst.fst (List.take r7.snd.snd.fst.snd.fst.snd r7.snd.snd.fst.snd.fst.fst) (List.take r7.snd.snd.fst.snd.snd.snd r7.snd.snd.fst.snd.snd.fst) r7.snd.snd.snd.fst r7.snd.snd.snd.snd.fst r7.snd.snd.snd.snd.snd).bind fun r8 =>
        bif !r8 == r2 then
          some false
        else
          some true
def s11 : Spec := ⟨false, [(.bool, false)], true, .bool, fun k xs => match xs with | [.agg [.str aE_Name, .slc 130 (.slice 160 (.pair (.int .i64) (.pair (.int .i64) (.pair (.int .i64) (.int .i64))))) aE_System, .int .i64 aE_Box_K, .slc 3 (.int .i64) aE_Box_Low, .slc 3 (.int .i64) aE_Box_High, .int .i64 aE_Least, .int .i64 aE_Most, .int .i64 aE_Version]] => f11 k aE_Name aE_System aE_Box_K aE_Box_Low aE_Box_High aE_Least aE_Most aE_Version | _ => none⟩
def env53 : List (FuncId × Spec) := (11, s11) :: env52
theorem v11 (k : Nat) (aE_Name : ByteArray) (aE_System : List (List (Int × Int × Int × Int))) (aE_Box_K : Int) (aE_Box_Low : List (Int)) (aE_Box_High : List (Int)) (aE_Least : Int) (aE_Most : Int) (aE_Version : Int) : runFn tiV (envOf env52) 34 [] (finT tiV true Go.Proofs.Try.f11.results.toList [(.bool, false)] (.bool)) k (bodyOf Go.Proofs.Try.f11) (initS 0 [.agg [.str aE_Name, .slc 130 (.slice 160 (.pair (.int .i64) (.pair (.int .i64) (.pair (.int .i64) (.int .i64))))) aE_System, .int .i64 aE_Box_K, .slc 3 (.int .i64) aE_Box_Low, .slc 3 (.int .i64) aE_Box_High, .int .i64 aE_Least, .int .i64 aE_Most, .int .i64 aE_Version]]) = f11 k aE_Name aE_System aE_Box_K aE_Box_Low aE_Box_High aE_Least aE_Most aE_Version := by kernel_rfl
theorem m11 : Meets Go.Proofs.Try.prog 11 s11 := meets_of_run tiVOk env52_ok mo Go.Proofs.Try.func11 (body := bodyOf Go.Proofs.Try.f11) (by kernel_rfl) (N := 34) (by kernel_rfl) (hs := []) (by
  intro k xs r h
  unfold s11 at h
  dsimp only at h
  split at h
  · exact ⟨Nat.le_of_ble_eq_true rfl, (v11 k _ _ _ _ _ _ _ _).trans h⟩
  · cases h)
theorem env53_ok : EnvOk Go.Proofs.Try.prog (envOf env53) := envOf_cons m11 Go.Proofs.Try.func11 (by kernel_rfl) (by kernel_rfl) env52_ok

end Go.Proofs.YtnndolcjljhhcaaE
