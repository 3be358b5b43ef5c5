/- Functions, by the engine; printed. -/
import Derived.Test.YtbaeikcfchiiaaaFD2
set_option maxRecDepth 100000
set_option maxHeartbeats 4000000
set_option linter.unusedVariables false
namespace Go.Proofs.YtbaeikcfchiiaaaE
-- laws.intactTermSS
def h145 : Hints := [(1005, .lab [(0, .one (.v)), (1, .one (.v)), (5, .one (.v)), (6, .one (.v))])]
def F145_1005 (k : Nat) (rec1005 : List (List (Int × Int × Int × Int) × Nat) → Nat → List (List (Int × Int × Int × Int) × Nat) → Nat → Int → Int → Option (Bool)) (x : List (List (Int × Int × Int × Int) × Nat)) (x_n : Nat) (y : List (List (Int × Int × Int × Int) × Nat)) (y_n : Nat) (n : Int) (i : Int) : Option (Bool) :=
  bif decide (i < (↑y_n : Int)) then
    bif boundA i x_n then
      bif boundA i y_n then
        (f210 k (List.getD x (Int.toNat i) ([], 0)).fst (List.getD x (Int.toNat i) ([], 0)).snd (List.getD y (Int.toNat i) ([], 0)).fst (List.getD y (Int.toNat i) ([], 0)).snd).bind fun r0 =>
        bif !r0 then
          some false
        else
          rec1005 x x_n y y_n n (IntKind.wrap IntKind.i64 (i + 1))
      else
        none
    else
      none
  else
    bif boundE n (List.length x) then
      bif decide (0 ≤ (↑y_n : Int)) && decide ((↑y_n : Int) ≤ n) then
        bif boundE n (List.length y) then
          bif decide (0 ≤ (↑y_n : Int)) && decide ((↑y_n : Int) ≤ n) then
            (f211 k (List.map (fun (x : T (Ty.vslice 150 (Ty.pair (Ty.int IntKind.i64) (Ty.pair (Ty.int IntKind.i64) (Ty.pair (Ty.int IntKind.i64) (Ty.int IntKind.i64)))))) => List.map (fun (x : T (Ty.pair (Ty.int IntKind.i64) (Ty.pair (Ty.int IntKind.i64) (Ty.pair (Ty.int IntKind.i64) (Ty.int IntKind.i64))))) => (x.fst, x.snd.fst, x.snd.snd.fst, x.snd.snd.snd)) (List.take x.snd x.fst)) (List.drop (Int.toNat (↑y_n : Int)) (List.take (Int.toNat n) x))) (List.map (fun (x : T (Ty.vslice 150 (Ty.pair (Ty.int IntKind.i64) (Ty.pair (Ty.int IntKind.i64) (Ty.pair (Ty.int IntKind.i64) (Ty.int IntKind.i64)))))) => List.map (fun (x : T (Ty.pair (Ty.int IntKind.i64) (Ty.pair (Ty.int IntKind.i64) (Ty.pair (Ty.int IntKind.i64) (Ty.int IntKind.i64))))) => (x.fst, x.snd.fst, x.snd.snd.fst, x.snd.snd.snd)) (List.take x.snd x.fst)) (List.drop (Int.toNat (↑y_n : Int)) (List.take (Int.toNat n) y)))).bind fun r1 =>
            some r1
          else
            none
        else
          none
      else
        none
    else
      none
def F145 (k : Nat) (rec1005 : List (List (Int × Int × Int × Int) × Nat) → Nat → List (List (Int × Int × Int × Int) × Nat) → Nat → Int → Int → Option (Bool)) (x : List (List (Int × Int × Int × Int) × Nat)) (x_n : Nat) (y : List (List (Int × Int × Int × Int) × Nat)) (y_n : Nat) : Option (Bool) :=
  (f71 k (↑y_n : Int)).bind fun r0 =>
  bif !decide ((↑x_n : Int) = (↑y_n : Int)) then
    some false
  else
    rec1005 x x_n y y_n (IntKind.wrap IntKind.i64 ((↑y_n : Int) + r0)) (0)
def l145 : Nat → (List (List (Int × Int × Int × Int) × Nat) → Nat → List (List (Int × Int × Int × Int) × Nat) → Nat → Int → Int → Option (Bool))
  | 0 => fun _ _ _ _ _ _ => none
  | k + 1 => F145_1005 k (l145 k)
def f145 (k : Nat) (x : List (List (Int × Int × Int × Int) × Nat)) (x_n : Nat) (y : List (List (Int × Int × Int × Int) × Nat)) (y_n : Nat) : Option (Bool) := F145 k (l145 k) x x_n y y_n
def s145 : Spec := ⟨true, [(.bool, false)], true, .bool, fun k xs => match xs with | [.vslc 152 (.vslice 150 (.pair (.int .i64) (.pair (.int .i64) (.pair (.int .i64) (.int .i64))))) x x_n, .vslc 152 (.vslice 150 (.pair (.int .i64) (.pair (.int .i64) (.pair (.int .i64) (.int .i64))))) y y_n] => f145 k x x_n y y_n | _ => none⟩
def env25 : List (FuncId × Spec) := (145, s145) :: env24
noncomputable abbrev x145 := exec tiV (envOf env24) 45 h145 (finT tiV true Go.Proofs.Try.f145.results.toList [(.bool, false)] (.bool))
noncomputable def k145_1005 : List It := stackAt [.r, .r, .r, .l, .r, .b, .lb none] (bodyOf Go.Proofs.Try.f145) []
def t145_1005 (x : List (List (Int × Int × Int × Int) × Nat)) (x_n : Nat) (y : List (List (Int × Int × Int × Int) × Nat)) (y_n : Nat) (n : Int) (i : Int) : St := [(0, Cell.val (AVal.vslc 152 (Ty.vslice 150 (Ty.pair (Ty.int IntKind.i64) (Ty.pair (Ty.int IntKind.i64) (Ty.pair (Ty.int IntKind.i64) (Ty.int IntKind.i64))))) x x_n)), (2, Cell.val (AVal.vslc 152 (Ty.vslice 150 (Ty.pair (Ty.int IntKind.i64) (Ty.pair (Ty.int IntKind.i64) (Ty.pair (Ty.int IntKind.i64) (Ty.int IntKind.i64))))) y y_n)), (10, Cell.val (AVal.int IntKind.i64 n)), (12, Cell.val (AVal.int IntKind.i64 i))]
theorem e145_1005 (k : Nat) (x : List (List (Int × Int × Int × Int) × Nat)) (x_n : Nat) (y : List (List (Int × Int × Int × Int) × Nat)) (y_n : Nat) (n : Int) (i : Int) : x145 (k + 1) k145_1005 (t145_1005 x x_n y y_n n i) = F145_1005 k (fun (x : List (List (Int × Int × Int × Int) × Nat)) (x_n : Nat) (y : List (List (Int × Int × Int × Int) × Nat)) (y_n : Nat) (n : Int) (i : Int) => x145 k k145_1005 (t145_1005 x x_n y y_n n i)) x x_n y y_n n i := by kernel_rfl
theorem q145 : ∀ k : Nat, (fun (x : List (List (Int × Int × Int × Int) × Nat)) (x_n : Nat) (y : List (List (Int × Int × Int × Int) × Nat)) (y_n : Nat) (n : Int) (i : Int) => x145 k k145_1005 (t145_1005 x x_n y y_n n i)) = l145 k
  | 0 => rfl
  | k + 1 => by
    have h := q145 k
    show _ = F145_1005 k (l145 k)
    rw [← h]
    exact (funext fun x => funext fun x_n => funext fun y => funext fun y_n => funext fun n => funext fun i => e145_1005 k x x_n y y_n n i)
theorem w145 (k : Nat) (x : List (List (Int × Int × Int × Int) × Nat)) (x_n : Nat) (y : List (List (Int × Int × Int × Int) × Nat)) (y_n : Nat) : runFn tiV (envOf env24) 45 h145 (finT tiV true Go.Proofs.Try.f145.results.toList [(.bool, false)] (.bool)) k (bodyOf Go.Proofs.Try.f145) (initS 0 [.vslc 152 (.vslice 150 (.pair (.int .i64) (.pair (.int .i64) (.pair (.int .i64) (.int .i64))))) x x_n, .vslc 152 (.vslice 150 (.pair (.int .i64) (.pair (.int .i64) (.pair (.int .i64) (.int .i64))))) y y_n]) = F145 k (fun (x : List (List (Int × Int × Int × Int) × Nat)) (x_n : Nat) (y : List (List (Int × Int × Int × Int) × Nat)) (y_n : Nat) (n : Int) (i : Int) => x145 k k145_1005 (t145_1005 x x_n y y_n n i)) x x_n y y_n := by kernel_rfl
theorem v145 (k : Nat) (x : List (List (Int × Int × Int × Int) × Nat)) (x_n : Nat) (y : List (List (Int × Int × Int × Int) × Nat)) (y_n : Nat) : runFn tiV (envOf env24) 45 h145 (finT tiV true Go.Proofs.Try.f145.results.toList [(.bool, false)] (.bool)) k (bodyOf Go.Proofs.Try.f145) (initS 0 [.vslc 152 (.vslice 150 (.pair (.int .i64) (.pair (.int .i64) (.pair (.int .i64) (.int .i64))))) x x_n, .vslc 152 (.vslice 150 (.pair (.int .i64) (.pair (.int .i64) (.pair (.int .i64) (.int .i64))))) y y_n]) = f145 k x x_n y y_n := by
  rw [w145]
  have h := q145 k
  unfold f145
  rw [← h]
theorem m145 : Meets Go.Proofs.Try.prog 145 s145 := meets_of_run tiVOk env24_ok mo Go.Proofs.Try.func145 (body := bodyOf Go.Proofs.Try.f145) (by kernel_rfl) (N := 45) (by kernel_rfl) (hs := h145) (by
  intro k xs r h
  unfold s145 at h
  dsimp only at h
  split at h
  · exact ⟨Nat.le_of_ble_eq_true rfl, (v145 k _ _ _ _).trans h⟩
  · cases h)
theorem env25_ok : EnvOk Go.Proofs.Try.prog (envOf env25) := envOf_cons m145 Go.Proofs.Try.func145 (by kernel_rfl) (by kernel_rfl) env24_ok

-- laws.intactEntry
def f87 (k : Nat) (x_Name : ByteArray) (x_System : List (List (Int × Int × Int × Int) × Nat)) (x_System_n : Nat) (x_Box_K : Int) (x_Box_Low : List (Int)) (x_Box_Low_n : Nat) (x_Box_High : List (Int)) (x_Box_High_n : Nat) (x_Least : Int) (x_Most : Int) (x_Version : Int) (y_Name : ByteArray) (y_System : List (List (Int × Int × Int × Int) × Nat)) (y_System_n : Nat) (y_Box_K : Int) (y_Box_Low : List (Int)) (y_Box_Low_n : Nat) (y_Box_High : List (Int)) (y_Box_High_n : Nat) (y_Least : Int) (y_Most : Int) (y_Version : Int) : Option (Bool) :=
  bif !ByteArray.toList x_Name == ByteArray.toList y_Name then
    some false
  else
    (f145 k x_System x_System_n y_System y_System_n).bind fun r0 =>
    bif !r0 then
      some false
    else
      (f41 k x_Box_K x_Box_Low x_Box_Low_n x_Box_High x_Box_High_n y_Box_K y_Box_Low y_Box_Low_n y_Box_High y_Box_High_n).bind fun r1 =>
      bif !r1 then
        some false
      else
        bif !decide (x_Least = y_Least) then
          some false
        else
          bif !decide (x_Most = y_Most) then
            some false
          else
            bif !decide (x_Version = y_Version) then
              some false
            else
              some true
def s87 : Spec := ⟨true, [(.bool, false)], true, .bool, fun k xs => match xs with | [.agg [.str x_Name, .vslc 152 (.vslice 150 (.pair (.int .i64) (.pair (.int .i64) (.pair (.int .i64) (.int .i64))))) x_System x_System_n, .int .i64 x_Box_K, .vslc 3 (.int .i64) x_Box_Low x_Box_Low_n, .vslc 3 (.int .i64) x_Box_High x_Box_High_n, .int .i64 x_Least, .int .i64 x_Most, .int .i64 x_Version], .agg [.str y_Name, .vslc 152 (.vslice 150 (.pair (.int .i64) (.pair (.int .i64) (.pair (.int .i64) (.int .i64))))) y_System y_System_n, .int .i64 y_Box_K, .vslc 3 (.int .i64) y_Box_Low y_Box_Low_n, .vslc 3 (.int .i64) y_Box_High y_Box_High_n, .int .i64 y_Least, .int .i64 y_Most, .int .i64 y_Version]] => f87 k x_Name x_System x_System_n x_Box_K x_Box_Low x_Box_Low_n x_Box_High x_Box_High_n x_Least x_Most x_Version y_Name y_System y_System_n y_Box_K y_Box_Low y_Box_Low_n y_Box_High y_Box_High_n y_Least y_Most y_Version | _ => none⟩
def env26 : List (FuncId × Spec) := (87, s87) :: env25
theorem v87 (k : Nat) (x_Name : ByteArray) (x_System : List (List (Int × Int × Int × Int) × Nat)) (x_System_n : Nat) (x_Box_K : Int) (x_Box_Low : List (Int)) (x_Box_Low_n : Nat) (x_Box_High : List (Int)) (x_Box_High_n : Nat) (x_Least : Int) (x_Most : Int) (x_Version : Int) (y_Name : ByteArray) (y_System : List (List (Int × Int × Int × Int) × Nat)) (y_System_n : Nat) (y_Box_K : Int) (y_Box_Low : List (Int)) (y_Box_Low_n : Nat) (y_Box_High : List (Int)) (y_Box_High_n : Nat) (y_Least : Int) (y_Most : Int) (y_Version : Int) : runFn tiV (envOf env25) 37 [] (finT tiV true Go.Proofs.Try.f87.results.toList [(.bool, false)] (.bool)) k (bodyOf Go.Proofs.Try.f87) (initS 0 [.agg [.str x_Name, .vslc 152 (.vslice 150 (.pair (.int .i64) (.pair (.int .i64) (.pair (.int .i64) (.int .i64))))) x_System x_System_n, .int .i64 x_Box_K, .vslc 3 (.int .i64) x_Box_Low x_Box_Low_n, .vslc 3 (.int .i64) x_Box_High x_Box_High_n, .int .i64 x_Least, .int .i64 x_Most, .int .i64 x_Version], .agg [.str y_Name, .vslc 152 (.vslice 150 (.pair (.int .i64) (.pair (.int .i64) (.pair (.int .i64) (.int .i64))))) y_System y_System_n, .int .i64 y_Box_K, .vslc 3 (.int .i64) y_Box_Low y_Box_Low_n, .vslc 3 (.int .i64) y_Box_High y_Box_High_n, .int .i64 y_Least, .int .i64 y_Most, .int .i64 y_Version]]) = f87 k x_Name x_System x_System_n x_Box_K x_Box_Low x_Box_Low_n x_Box_High x_Box_High_n x_Least x_Most x_Version y_Name y_System y_System_n y_Box_K y_Box_Low y_Box_Low_n y_Box_High y_Box_High_n y_Least y_Most y_Version := by kernel_rfl
theorem m87 : Meets Go.Proofs.Try.prog 87 s87 := meets_of_run tiVOk env25_ok mo Go.Proofs.Try.func87 (body := bodyOf Go.Proofs.Try.f87) (by kernel_rfl) (N := 37) (by kernel_rfl) (hs := []) (by
  intro k xs r h
  unfold s87 at h
  dsimp only at h
  split at h
  · exact ⟨Nat.le_of_ble_eq_true rfl, (v87 k _ _ _ _ _ _ _ _ _ _ _ _ _ _ _ _ _ _ _ _ _ _).trans h⟩
  · cases h)
theorem env26_ok : EnvOk Go.Proofs.Try.prog (envOf env26) := envOf_cons m87 Go.Proofs.Try.func87 (by kernel_rfl) (by kernel_rfl) env25_ok

-- laws.eqBox
def f104 (k : Nat) (a_K : Int) (a_Low : List (Int)) (a_High : List (Int)) (b_K : Int) (b_Low : List (Int)) (b_High : List (Int)) : Option (Bool) :=
  bif !decide (a_K = b_K) then
    some false
  else
    (f31 k a_Low b_Low).bind fun r0 =>
    bif !r0 then
      some false
    else
      (f31 k a_High b_High).bind fun r1 =>
      bif !r1 then
        some false
      else
        some true
def s104 : Spec := ⟨false, [(.bool, false)], true, .bool, fun k xs => match xs with | [.agg [.int .i64 a_K, .slc 3 (.int .i64) a_Low, .slc 3 (.int .i64) a_High], .agg [.int .i64 b_K, .slc 3 (.int .i64) b_Low, .slc 3 (.int .i64) b_High]] => f104 k a_K a_Low a_High b_K b_Low b_High | _ => none⟩
def env27 : List (FuncId × Spec) := (104, s104) :: env26
theorem v104 (k : Nat) (a_K : Int) (a_Low : List (Int)) (a_High : List (Int)) (b_K : Int) (b_Low : List (Int)) (b_High : List (Int)) : runFn ti (envOf env26) 22 [] (finT ti true Go.Proofs.Try.f104.results.toList [(.bool, false)] (.bool)) k (bodyOf Go.Proofs.Try.f104) (initS 0 [.agg [.int .i64 a_K, .slc 3 (.int .i64) a_Low, .slc 3 (.int .i64) a_High], .agg [.int .i64 b_K, .slc 3 (.int .i64) b_Low, .slc 3 (.int .i64) b_High]]) = f104 k a_K a_Low a_High b_K b_Low b_High := by kernel_rfl
theorem m104 : Meets Go.Proofs.Try.prog 104 s104 := meets_of_run tiOk env26_ok mo Go.Proofs.Try.func104 (body := bodyOf Go.Proofs.Try.f104) (by kernel_rfl) (N := 22) (by kernel_rfl) (hs := []) (by
  intro k xs r h
  unfold s104 at h
  dsimp only at h
  split at h
  · exact ⟨Nat.le_of_ble_eq_true rfl, (v104 k _ _ _ _ _ _).trans h⟩
  · cases h)
theorem env27_ok : EnvOk Go.Proofs.Try.prog (envOf env27) := envOf_cons m104 Go.Proofs.Try.func104 (by kernel_rfl) (by kernel_rfl) env26_ok

-- laws.eqEntry
def f146 (k : Nat) (a_Name : ByteArray) (a_System : List (List (Int × Int × Int × Int))) (a_Box_K : Int) (a_Box_Low : List (Int)) (a_Box_High : List (Int)) (a_Least : Int) (a_Most : Int) (a_Version : Int) (b_Name : ByteArray) (b_System : List (List (Int × Int × Int × Int))) (b_Box_K : Int) (b_Box_Low : List (Int)) (b_Box_High : List (Int)) (b_Least : Int) (b_Most : Int) (b_Version : Int) : Option (Bool) :=
  bif !ByteArray.toList a_Name == ByteArray.toList b_Name then
    some false
  else
    (f211 k a_System b_System).bind fun r0 =>
    bif !r0 then
      some false
    else
      (f104 k a_Box_K a_Box_Low a_Box_High b_Box_K b_Box_Low b_Box_High).bind fun r1 =>
      bif !r1 then
        some false
      else
        bif !decide (a_Least = b_Least) then
          some false
        else
          bif !decide (a_Most = b_Most) then
            some false
          else
            bif !decide (a_Version = b_Version) then
              some false
            else
              some true
def s146 : Spec := ⟨false, [(.bool, false)], true, .bool, fun k xs => match xs with | [.agg [.str a_Name, .slc 152 (.slice 150 (.pair (.int .i64) (.pair (.int .i64) (.pair (.int .i64) (.int .i64))))) a_System, .int .i64 a_Box_K, .slc 3 (.int .i64) a_Box_Low, .slc 3 (.int .i64) a_Box_High, .int .i64 a_Least, .int .i64 a_Most, .int .i64 a_Version], .agg [.str b_Name, .slc 152 (.slice 150 (.pair (.int .i64) (.pair (.int .i64) (.pair (.int .i64) (.int .i64))))) b_System, .int .i64 b_Box_K, .slc 3 (.int .i64) b_Box_Low, .slc 3 (.int .i64) b_Box_High, .int .i64 b_Least, .int .i64 b_Most, .int .i64 b_Version]] => f146 k a_Name a_System a_Box_K a_Box_Low a_Box_High a_Least a_Most a_Version b_Name b_System b_Box_K b_Box_Low b_Box_High b_Least b_Most b_Version | _ => none⟩
def env28 : List (FuncId × Spec) := (146, s146) :: env27
theorem v146 (k : Nat) (a_Name : ByteArray) (a_System : List (List (Int × Int × Int × Int))) (a_Box_K : Int) (a_Box_Low : List (Int)) (a_Box_High : List (Int)) (a_Least : Int) (a_Most : Int) (a_Version : Int) (b_Name : ByteArray) (b_System : List (List (Int × Int × Int × Int))) (b_Box_K : Int) (b_Box_Low : List (Int)) (b_Box_High : List (Int)) (b_Least : Int) (b_Most : Int) (b_Version : Int) : runFn ti (envOf env27) 37 [] (finT ti true Go.Proofs.Try.f146.results.toList [(.bool, false)] (.bool)) k (bodyOf Go.Proofs.Try.f146) (initS 0 [.agg [.str a_Name, .slc 152 (.slice 150 (.pair (.int .i64) (.pair (.int .i64) (.pair (.int .i64) (.int .i64))))) a_System, .int .i64 a_Box_K, .slc 3 (.int .i64) a_Box_Low, .slc 3 (.int .i64) a_Box_High, .int .i64 a_Least, .int .i64 a_Most, .int .i64 a_Version], .agg [.str b_Name, .slc 152 (.slice 150 (.pair (.int .i64) (.pair (.int .i64) (.pair (.int .i64) (.int .i64))))) b_System, .int .i64 b_Box_K, .slc 3 (.int .i64) b_Box_Low, .slc 3 (.int .i64) b_Box_High, .int .i64 b_Least, .int .i64 b_Most, .int .i64 b_Version]]) = f146 k a_Name a_System a_Box_K a_Box_Low a_Box_High a_Least a_Most a_Version b_Name b_System b_Box_K b_Box_Low b_Box_High b_Least b_Most b_Version := by kernel_rfl
theorem m146 : Meets Go.Proofs.Try.prog 146 s146 := meets_of_run tiOk env27_ok mo Go.Proofs.Try.func146 (body := bodyOf Go.Proofs.Try.f146) (by kernel_rfl) (N := 37) (by kernel_rfl) (hs := []) (by
  intro k xs r h
  unfold s146 at h
  dsimp only at h
  split at h
  · exact ⟨Nat.le_of_ble_eq_true rfl, (v146 k _ _ _ _ _ _ _ _ _ _ _ _ _ _ _ _).trans h⟩
  · cases h)
theorem env28_ok : EnvOk Go.Proofs.Try.prog (envOf env28) := envOf_cons m146 Go.Proofs.Try.func146 (by kernel_rfl) (by kernel_rfl) env27_ok

-- laws.eqEntryS
def h88 : Hints := [(1004, .lab [(0, .one (.frz 108 (Ty.pair Ty.str (Ty.pair (Ty.slice 152 (Ty.slice 150 (Ty.pair (Ty.int IntKind.i64) (Ty.pair (Ty.int IntKind.i64) (Ty.pair (Ty.int IntKind.i64) (Ty.int IntKind.i64)))))) (Ty.pair (Ty.pair (Ty.int IntKind.i64) (Ty.pair (Ty.slice 3 (Ty.int IntKind.i64)) (Ty.slice 3 (Ty.int IntKind.i64)))) (Ty.pair (Ty.int IntKind.i64) (Ty.pair (Ty.int IntKind.i64) (Ty.int IntKind.i64)))))))), (1, .one (.frz 108 (Ty.pair Ty.str (Ty.pair (Ty.slice 152 (Ty.slice 150 (Ty.pair (Ty.int IntKind.i64) (Ty.pair (Ty.int IntKind.i64) (Ty.pair (Ty.int IntKind.i64) (Ty.int IntKind.i64)))))) (Ty.pair (Ty.pair (Ty.int IntKind.i64) (Ty.pair (Ty.slice 3 (Ty.int IntKind.i64)) (Ty.slice 3 (Ty.int IntKind.i64)))) (Ty.pair (Ty.int IntKind.i64) (Ty.pair (Ty.int IntKind.i64) (Ty.int IntKind.i64)))))))), (5, .one (.v))])]
def F88_1004 (k : Nat) (rec1004 : List (ByteArray × List (List (Int × Int × Int × Int)) × (Int × List Int × List Int) × Int × Int × Int) → List (ByteArray × List (List (Int × Int × Int × Int)) × (Int × List Int × List Int) × Int × Int × Int) → Int → Option (Bool)) (a : List (ByteArray × List (List (Int × Int × Int × Int)) × (Int × List Int × List Int) × Int × Int × Int)) (b : List (ByteArray × List (List (Int × Int × Int × Int)) × (Int × List Int × List Int) × Int × Int × Int)) (i : Int) : Option (Bool) :=
  bif decide (i < (↑(List.length a) : Int)) then
    bif boundA i (List.length a) then
      bif boundA i (List.length b) then
        (f146 k (List.getD a (Int.toNat i) (ByteArray.empty, [], (0, [], []), 0, 0, 0)).fst (List.getD a (Int.toNat i) (ByteArray.empty, [], (0, [], []), 0, 0, 0)).snd.fst (List.getD a (Int.toNat i) (ByteArray.empty, [], (0, [], []), 0, 0, 0)).snd.snd.fst.fst (List.getD a (Int.toNat i) (ByteArray.empty, [], (0, [], []), 0, 0, 0)).snd.snd.fst.snd.fst (List.getD a (Int.toNat i) (ByteArray.empty, [], (0, [], []), 0, 0, 0)).snd.snd.fst.snd.snd (List.getD a (Int.toNat i) (ByteArray.empty, [], (0, [], []), 0, 0, 0)).snd.snd.snd.fst (List.getD a (Int.toNat i) (ByteArray.empty, [], (0, [], []), 0, 0, 0)).snd.snd.snd.snd.fst (List.getD a (Int.toNat i) (ByteArray.empty, [], (0, [], []), 0, 0, 0)).snd.snd.snd.snd.snd (List.getD b (Int.toNat i) (ByteArray.empty, [], (0, [], []), 0, 0, 0)).fst (List.getD b (Int.toNat i) (ByteArray.empty, [], (0, [], []), 0, 0, 0)).snd.fst (List.getD b (Int.toNat i) (ByteArray.empty, [], (0, [], []), 0, 0, 0)).snd.snd.fst.fst (List.getD b (Int.toNat i) (ByteArray.empty, [], (0, [], []), 0, 0, 0)).snd.snd.fst.snd.fst (List.getD b (Int.toNat i) (ByteArray.empty, [], (0, [], []), 0, 0, 0)).snd.snd.fst.snd.snd (List.getD b (Int.toNat i) (ByteArray.empty, [], (0, [], []), 0, 0, 0)).snd.snd.snd.fst (List.getD b (Int.toNat i) (ByteArray.empty, [], (0, [], []), 0, 0, 0)).snd.snd.snd.snd.fst (List.getD b (Int.toNat i) (ByteArray.empty, [], (0, [], []), 0, 0, 0)).snd.snd.snd.snd.snd).bind fun r0 =>
        bif !r0 then
          some false
        else
          rec1004 a b (IntKind.wrap IntKind.i64 (i + 1))
      else
        none
    else
      none
  else
    some true
def F88 (k : Nat) (rec1004 : List (ByteArray × List (List (Int × Int × Int × Int)) × (Int × List Int × List Int) × Int × Int × Int) → List (ByteArray × List (List (Int × Int × Int × Int)) × (Int × List Int × List Int) × Int × Int × Int) → Int → Option (Bool)) (a : List (ByteArray × (List (List (Int × Int × Int × Int))) × (Int × (List (Int)) × List (Int)) × Int × Int × Int)) (b : List (ByteArray × (List (List (Int × Int × Int × Int))) × (Int × (List (Int)) × List (Int)) × Int × Int × Int)) : Option (Bool) :=
  bif !decide ((↑(List.length a) : Int) = (↑(List.length b) : Int)) then
    some false
  else
    rec1004 a b (0)
def l88 : Nat → (List (ByteArray × List (List (Int × Int × Int × Int)) × (Int × List Int × List Int) × Int × Int × Int) → List (ByteArray × List (List (Int × Int × Int × Int)) × (Int × List Int × List Int) × Int × Int × Int) → Int → Option (Bool))
  | 0 => fun _ _ _ => none
  | k + 1 => F88_1004 k (l88 k)
def f88 (k : Nat) (a : List (ByteArray × (List (List (Int × Int × Int × Int))) × (Int × (List (Int)) × List (Int)) × Int × Int × Int)) (b : List (ByteArray × (List (List (Int × Int × Int × Int))) × (Int × (List (Int)) × List (Int)) × Int × Int × Int)) : Option (Bool) := F88 k (l88 k) a b
def s88 : Spec := ⟨false, [(.bool, false)], true, .bool, fun k xs => match xs with | [.slc 108 (.pair (.str) (.pair (.slice 152 (.slice 150 (.pair (.int .i64) (.pair (.int .i64) (.pair (.int .i64) (.int .i64)))))) (.pair (.pair (.int .i64) (.pair (.slice 3 (.int .i64)) (.slice 3 (.int .i64)))) (.pair (.int .i64) (.pair (.int .i64) (.int .i64)))))) a, .slc 108 (.pair (.str) (.pair (.slice 152 (.slice 150 (.pair (.int .i64) (.pair (.int .i64) (.pair (.int .i64) (.int .i64)))))) (.pair (.pair (.int .i64) (.pair (.slice 3 (.int .i64)) (.slice 3 (.int .i64)))) (.pair (.int .i64) (.pair (.int .i64) (.int .i64)))))) b] => f88 k a b | _ => none⟩
def env29 : List (FuncId × Spec) := (88, s88) :: env28
noncomputable abbrev x88 := exec ti (envOf env28) 27 h88 (finT ti true Go.Proofs.Try.f88.results.toList [(.bool, false)] (.bool))
noncomputable def k88_1004 : List It := stackAt [.r, .r, .l, .r, .b, .lb none] (bodyOf Go.Proofs.Try.f88) []
def t88_1004 (a : List (ByteArray × List (List (Int × Int × Int × Int)) × (Int × List Int × List Int) × Int × Int × Int)) (b : List (ByteArray × List (List (Int × Int × Int × Int)) × (Int × List Int × List Int) × Int × Int × Int)) (i : Int) : St := [(0, Cell.val (AVal.slc 108 (Ty.pair Ty.str (Ty.pair (Ty.slice 152 (Ty.slice 150 (Ty.pair (Ty.int IntKind.i64) (Ty.pair (Ty.int IntKind.i64) (Ty.pair (Ty.int IntKind.i64) (Ty.int IntKind.i64)))))) (Ty.pair (Ty.pair (Ty.int IntKind.i64) (Ty.pair (Ty.slice 3 (Ty.int IntKind.i64)) (Ty.slice 3 (Ty.int IntKind.i64)))) (Ty.pair (Ty.int IntKind.i64) (Ty.pair (Ty.int IntKind.i64) (Ty.int IntKind.i64)))))) a)), (2, Cell.val (AVal.slc 108 (Ty.pair Ty.str (Ty.pair (Ty.slice 152 (Ty.slice 150 (Ty.pair (Ty.int IntKind.i64) (Ty.pair (Ty.int IntKind.i64) (Ty.pair (Ty.int IntKind.i64) (Ty.int IntKind.i64)))))) (Ty.pair (Ty.pair (Ty.int IntKind.i64) (Ty.pair (Ty.slice 3 (Ty.int IntKind.i64)) (Ty.slice 3 (Ty.int IntKind.i64)))) (Ty.pair (Ty.int IntKind.i64) (Ty.pair (Ty.int IntKind.i64) (Ty.int IntKind.i64)))))) b)), (10, Cell.val (AVal.int IntKind.i64 i))]
theorem e88_1004 (k : Nat) (a : List (ByteArray × List (List (Int × Int × Int × Int)) × (Int × List Int × List Int) × Int × Int × Int)) (b : List (ByteArray × List (List (Int × Int × Int × Int)) × (Int × List Int × List Int) × Int × Int × Int)) (i : Int) : x88 (k + 1) k88_1004 (t88_1004 a b i) = F88_1004 k (fun (a : List (ByteArray × List (List (Int × Int × Int × Int)) × (Int × List Int × List Int) × Int × Int × Int)) (b : List (ByteArray × List (List (Int × Int × Int × Int)) × (Int × List Int × List Int) × Int × Int × Int)) (i : Int) => x88 k k88_1004 (t88_1004 a b i)) a b i := by kernel_rfl
theorem q88 : ∀ k : Nat, (fun (a : List (ByteArray × List (List (Int × Int × Int × Int)) × (Int × List Int × List Int) × Int × Int × Int)) (b : List (ByteArray × List (List (Int × Int × Int × Int)) × (Int × List Int × List Int) × Int × Int × Int)) (i : Int) => x88 k k88_1004 (t88_1004 a b i)) = l88 k
  | 0 => rfl
  | k + 1 => by
    have h := q88 k
    show _ = F88_1004 k (l88 k)
    rw [← h]
    exact (funext fun a => funext fun b => funext fun i => e88_1004 k a b i)
theorem w88 (k : Nat) (a : List (ByteArray × (List (List (Int × Int × Int × Int))) × (Int × (List (Int)) × List (Int)) × Int × Int × Int)) (b : List (ByteArray × (List (List (Int × Int × Int × Int))) × (Int × (List (Int)) × List (Int)) × Int × Int × Int)) : runFn ti (envOf env28) 27 h88 (finT ti true Go.Proofs.Try.f88.results.toList [(.bool, false)] (.bool)) k (bodyOf Go.Proofs.Try.f88) (initS 0 [.slc 108 (.pair (.str) (.pair (.slice 152 (.slice 150 (.pair (.int .i64) (.pair (.int .i64) (.pair (.int .i64) (.int .i64)))))) (.pair (.pair (.int .i64) (.pair (.slice 3 (.int .i64)) (.slice 3 (.int .i64)))) (.pair (.int .i64) (.pair (.int .i64) (.int .i64)))))) a, .slc 108 (.pair (.str) (.pair (.slice 152 (.slice 150 (.pair (.int .i64) (.pair (.int .i64) (.pair (.int .i64) (.int .i64)))))) (.pair (.pair (.int .i64) (.pair (.slice 3 (.int .i64)) (.slice 3 (.int .i64)))) (.pair (.int .i64) (.pair (.int .i64) (.int .i64)))))) b]) = F88 k (fun (a : List (ByteArray × List (List (Int × Int × Int × Int)) × (Int × List Int × List Int) × Int × Int × Int)) (b : List (ByteArray × List (List (Int × Int × Int × Int)) × (Int × List Int × List Int) × Int × Int × Int)) (i : Int) => x88 k k88_1004 (t88_1004 a b i)) a b := by kernel_rfl
theorem v88 (k : Nat) (a : List (ByteArray × (List (List (Int × Int × Int × Int))) × (Int × (List (Int)) × List (Int)) × Int × Int × Int)) (b : List (ByteArray × (List (List (Int × Int × Int × Int))) × (Int × (List (Int)) × List (Int)) × Int × Int × Int)) : runFn ti (envOf env28) 27 h88 (finT ti true Go.Proofs.Try.f88.results.toList [(.bool, false)] (.bool)) k (bodyOf Go.Proofs.Try.f88) (initS 0 [.slc 108 (.pair (.str) (.pair (.slice 152 (.slice 150 (.pair (.int .i64) (.pair (.int .i64) (.pair (.int .i64) (.int .i64)))))) (.pair (.pair (.int .i64) (.pair (.slice 3 (.int .i64)) (.slice 3 (.int .i64)))) (.pair (.int .i64) (.pair (.int .i64) (.int .i64)))))) a, .slc 108 (.pair (.str) (.pair (.slice 152 (.slice 150 (.pair (.int .i64) (.pair (.int .i64) (.pair (.int .i64) (.int .i64)))))) (.pair (.pair (.int .i64) (.pair (.slice 3 (.int .i64)) (.slice 3 (.int .i64)))) (.pair (.int .i64) (.pair (.int .i64) (.int .i64)))))) b]) = f88 k a b := by
  rw [w88]
  have h := q88 k
  unfold f88
  rw [← h]
theorem m88 : Meets Go.Proofs.Try.prog 88 s88 := meets_of_run tiOk env28_ok mo Go.Proofs.Try.func88 (body := bodyOf Go.Proofs.Try.f88) (by kernel_rfl) (N := 27) (by kernel_rfl) (hs := h88) (by
  intro k xs r h
  unfold s88 at h
  dsimp only at h
  split at h
  · exact ⟨Nat.le_of_ble_eq_true rfl, (v88 k _ _).trans h⟩
  · cases h)
theorem env29_ok : EnvOk Go.Proofs.Try.prog (envOf env29) := envOf_cons m88 Go.Proofs.Try.func88 (by kernel_rfl) (by kernel_rfl) env28_ok

-- laws.intactEntryS
def h26 : Hints := [(1005, .lab [(0, .one (.v)), (1, .one (.v)), (5, .one (.v)), (6, .one (.v))])]
def F26_1005 (k : Nat) (rec1005 : List (ByteArray × (List (List (Int × Int × Int × Int) × Nat) × Nat) × (Int × (List Int × Nat) × List Int × Nat) × Int × Int × Int) → Nat → List (ByteArray × (List (List (Int × Int × Int × Int) × Nat) × Nat) × (Int × (List Int × Nat) × List Int × Nat) × Int × Int × Int) → Nat → Int → Int → Option (Bool)) (x : List (ByteArray × (List (List (Int × Int × Int × Int) × Nat) × Nat) × (Int × (List Int × Nat) × List Int × Nat) × Int × Int × Int)) (x_n : Nat) (y : List (ByteArray × (List (List (Int × Int × Int × Int) × Nat) × Nat) × (Int × (List Int × Nat) × List Int × Nat) × Int × Int × Int)) (y_n : Nat) (n : Int) (i : Int) : Option (Bool) :=
  bif decide (i < (↑y_n : Int)) then
    bif boundA i x_n then
      bif boundA i y_n then
        (f87 k (List.getD x (Int.toNat i) (ByteArray.empty, ([], 0), (0, ([], 0), [], 0), 0, 0, 0)).fst (List.getD x (Int.toNat i) (ByteArray.empty, ([], 0), (0, ([], 0), [], 0), 0, 0, 0)).snd.fst.fst (List.getD x (Int.toNat i) (ByteArray.empty, ([], 0), (0, ([], 0), [], 0), 0, 0, 0)).snd.fst.snd (List.getD x (Int.toNat i) (ByteArray.empty, ([], 0), (0, ([], 0), [], 0), 0, 0, 0)).snd.snd.fst.fst (List.getD x (Int.toNat i) (ByteArray.empty, ([], 0), (0, ([], 0), [], 0), 0, 0, 0)).snd.snd.fst.snd.fst.fst (List.getD x (Int.toNat i) (ByteArray.empty, ([], 0), (0, ([], 0), [], 0), 0, 0, 0)).snd.snd.fst.snd.fst.snd (List.getD x (Int.toNat i) (ByteArray.empty, ([], 0), (0, ([], 0), [], 0), 0, 0, 0)).snd.snd.fst.snd.snd.fst (List.getD x (Int.toNat i) (ByteArray.empty, ([], 0), (0, ([], 0), [], 0), 0, 0, 0)).snd.snd.fst.snd.snd.snd (List.getD x (Int.toNat i) (ByteArray.empty, ([], 0), (0, ([], 0), [], 0), 0, 0, 0)).snd.snd.snd.fst (List.getD x (Int.toNat i) (ByteArray.empty, ([], 0), (0, ([], 0), [], 0), 0, 0, 0)).snd.snd.snd.snd.fst (List.getD x (Int.toNat i) (ByteArray.empty, ([], 0), (0, ([], 0), [], 0), 0, 0, 0)).snd.snd.snd.snd.snd (List.getD y (Int.toNat i) (ByteArray.empty, ([], 0), (0, ([], 0), [], 0), 0, 0, 0)).fst (List.getD y (Int.toNat i) (ByteArray.empty, ([], 0), (0, ([], 0), [], 0), 0, 0, 0)).snd.fst.fst (List.getD y (Int.toNat i) (ByteArray.empty, ([], 0), (0, ([], 0), [], 0), 0, 0, 0)).snd.fst.snd (List.getD y (Int.toNat i) (ByteArray.empty, ([], 0), (0, ([], 0), [], 0), 0, 0, 0)).snd.snd.fst.fst (List.getD y (Int.toNat i) (ByteArray.empty, ([], 0), (0, ([], 0), [], 0), 0, 0, 0)).snd.snd.fst.snd.fst.fst (List.getD y (Int.toNat i) (ByteArray.empty, ([], 0), (0, ([], 0), [], 0), 0, 0, 0)).snd.snd.fst.snd.fst.snd (List.getD y (Int.toNat i) (ByteArray.empty, ([], 0), (0, ([], 0), [], 0), 0, 0, 0)).snd.snd.fst.snd.snd.fst (List.getD y (Int.toNat i) (ByteArray.empty, ([], 0), (0, ([], 0), [], 0), 0, 0, 0)).snd.snd.fst.snd.snd.snd (List.getD y (Int.toNat i) (ByteArray.empty, ([], 0), (0, ([], 0), [], 0), 0, 0, 0)).snd.snd.snd.fst (List.getD y (Int.toNat i) (ByteArray.empty, ([], 0), (0, ([], 0), [], 0), 0, 0, 0)).snd.snd.snd.snd.fst (List.getD y (Int.toNat i) (ByteArray.empty, ([], 0), (0, ([], 0), [], 0), 0, 0, 0)).snd.snd.snd.snd.snd).bind fun r0 =>
        bif !r0 then
          some false
        else
          rec1005 x x_n y y_n n (IntKind.wrap IntKind.i64 (i + 1))
      else
        none
    else
      none
  else
    bif boundE n (List.length x) then
      bif decide (0 ≤ (↑y_n : Int)) && decide ((↑y_n : Int) ≤ n) then
        bif boundE n (List.length y) then
          bif decide (0 ≤ (↑y_n : Int)) && decide ((↑y_n : Int) ≤ n) then
            (f88 k (List.map (fun (x : T (Ty.pair Ty.str (Ty.pair (Ty.vslice 152 (Ty.vslice 150 (Ty.pair (Ty.int IntKind.i64) (Ty.pair (Ty.int IntKind.i64) (Ty.pair (Ty.int IntKind.i64) (Ty.int IntKind.i64)))))) (Ty.pair (Ty.pair (Ty.int IntKind.i64) (Ty.pair (Ty.vslice 3 (Ty.int IntKind.i64)) (Ty.vslice 3 (Ty.int IntKind.i64)))) (Ty.pair (Ty.int IntKind.i64) (Ty.pair (Ty.int IntKind.i64) (Ty.int IntKind.i64))))))) => (x.fst, List.map (fun (x : T (Ty.vslice 150 (Ty.pair (Ty.int IntKind.i64) (Ty.pair (Ty.int IntKind.i64) (Ty.pair (Ty.int IntKind.i64) (Ty.int IntKind.i64)))))) => List.map (fun (x : T (Ty.pair (Ty.int IntKind.i64) (Ty.pair (Ty.int IntKind.i64) (Ty.pair (Ty.int IntKind.i64) (Ty.int IntKind.i64))))) => (x.fst, x.snd.fst, x.snd.snd.fst, x.snd.snd.snd)) (List.take x.snd x.fst)) (List.take x.snd.fst.snd x.snd.fst.fst), (x.snd.snd.fst.fst, List.map (fun (x : T (Ty.int IntKind.i64)) => x) (List.take x.snd.snd.fst.snd.fst.snd x.snd.snd.fst.snd.fst.fst), List.map (fun (x : T (Ty.int IntKind.i64)) => x) (List.take x.snd.snd.fst.snd.snd.snd x.snd.snd.fst.snd.snd.fst)), x.snd.snd.snd.fst, x.snd.snd.snd.snd.fst, x.snd.snd.snd.snd.snd)) (List.drop (Int.toNat (↑y_n : Int)) (List.take (Int.toNat n) x))) (List.map (fun (x : T (Ty.pair Ty.str (Ty.pair (Ty.vslice 152 (Ty.vslice 150 (Ty.pair (Ty.int IntKind.i64) (Ty.pair (Ty.int IntKind.i64) (Ty.pair (Ty.int IntKind.i64) (Ty.int IntKind.i64)))))) (Ty.pair (Ty.pair (Ty.int IntKind.i64) (Ty.pair (Ty.vslice 3 (Ty.int IntKind.i64)) (Ty.vslice 3 (Ty.int IntKind.i64)))) (Ty.pair (Ty.int IntKind.i64) (Ty.pair (Ty.int IntKind.i64) (Ty.int IntKind.i64))))))) => (x.fst, List.map (fun (x : T (Ty.vslice 150 (Ty.pair (Ty.int IntKind.i64) (Ty.pair (Ty.int IntKind.i64) (Ty.pair (Ty.int IntKind.i64) (Ty.int IntKind.i64)))))) => List.map (fun (x : T (Ty.pair (Ty.int IntKind.i64) (Ty.pair (Ty.int IntKind.i64) (Ty.pair (Ty.int IntKind.i64) (Ty.int IntKind.i64))))) => (x.fst, x.snd.fst, x.snd.snd.fst, x.snd.snd.snd)) (List.take x.snd x.fst)) (List.take x.snd.fst.snd x.snd.fst.fst), (x.snd.snd.fst.fst, List.map (fun (x : T (Ty.int IntKind.i64)) => x) (List.take x.snd.snd.fst.snd.fst.snd x.snd.snd.fst.snd.fst.fst), List.map (fun (x : T (Ty.int IntKind.i64)) => x) (List.take x.snd.snd.fst.snd.snd.snd x.snd.snd.fst.snd.snd.fst)), x.snd.snd.snd.fst, x.snd.snd.snd.snd.fst, x.snd.snd.snd.snd.snd)) (List.drop (Int.toNat (↑y_n : Int)) (List.take (Int.toNat n) y)))).bind fun r1 =>
            some r1
          else
            none
        else
          none
      else
        none
    else
      none
def F26 (k : Nat) (rec1005 : List (ByteArray × (List (List (Int × Int × Int × Int) × Nat) × Nat) × (Int × (List Int × Nat) × List Int × Nat) × Int × Int × Int) → Nat → List (ByteArray × (List (List (Int × Int × Int × Int) × Nat) × Nat) × (Int × (List Int × Nat) × List Int × Nat) × Int × Int × Int) → Nat → Int → Int → Option (Bool)) (x : List (ByteArray × (List (List (Int × Int × Int × Int) × Nat) × Nat) × (Int × (List (Int) × Nat) × List (Int) × Nat) × Int × Int × Int)) (x_n : Nat) (y : List (ByteArray × (List (List (Int × Int × Int × Int) × Nat) × Nat) × (Int × (List (Int) × Nat) × List (Int) × Nat) × Int × Int × Int)) (y_n : Nat) : Option (Bool) :=
  (f71 k (↑y_n : Int)).bind fun r0 =>
  bif !decide ((↑x_n : Int) = (↑y_n : Int)) then
    some false
  else
    rec1005 x x_n y y_n (IntKind.wrap IntKind.i64 ((↑y_n : Int) + r0)) (0)
def l26 : Nat → (List (ByteArray × (List (List (Int × Int × Int × Int) × Nat) × Nat) × (Int × (List Int × Nat) × List Int × Nat) × Int × Int × Int) → Nat → List (ByteArray × (List (List (Int × Int × Int × Int) × Nat) × Nat) × (Int × (List Int × Nat) × List Int × Nat) × Int × Int × Int) → Nat → Int → Int → Option (Bool))
  | 0 => fun _ _ _ _ _ _ => none
  | k + 1 => F26_1005 k (l26 k)
def f26 (k : Nat) (x : List (ByteArray × (List (List (Int × Int × Int × Int) × Nat) × Nat) × (Int × (List (Int) × Nat) × List (Int) × Nat) × Int × Int × Int)) (x_n : Nat) (y : List (ByteArray × (List (List (Int × Int × Int × Int) × Nat) × Nat) × (Int × (List (Int) × Nat) × List (Int) × Nat) × Int × Int × Int)) (y_n : Nat) : Option (Bool) := F26 k (l26 k) x x_n y y_n
def s26 : Spec := ⟨true, [(.bool, false)], true, .bool, fun k xs => match xs with | [.vslc 108 (.pair (.str) (.pair (.vslice 152 (.vslice 150 (.pair (.int .i64) (.pair (.int .i64) (.pair (.int .i64) (.int .i64)))))) (.pair (.pair (.int .i64) (.pair (.vslice 3 (.int .i64)) (.vslice 3 (.int .i64)))) (.pair (.int .i64) (.pair (.int .i64) (.int .i64)))))) x x_n, .vslc 108 (.pair (.str) (.pair (.vslice 152 (.vslice 150 (.pair (.int .i64) (.pair (.int .i64) (.pair (.int .i64) (.int .i64)))))) (.pair (.pair (.int .i64) (.pair (.vslice 3 (.int .i64)) (.vslice 3 (.int .i64)))) (.pair (.int .i64) (.pair (.int .i64) (.int .i64)))))) y y_n] => f26 k x x_n y y_n | _ => none⟩
def env30 : List (FuncId × Spec) := (26, s26) :: env29
noncomputable abbrev x26 := exec tiV (envOf env29) 45 h26 (finT tiV true Go.Proofs.Try.f26.results.toList [(.bool, false)] (.bool))
noncomputable def k26_1005 : List It := stackAt [.r, .r, .r, .l, .r, .b, .lb none] (bodyOf Go.Proofs.Try.f26) []
def t26_1005 (x : List (ByteArray × (List (List (Int × Int × Int × Int) × Nat) × Nat) × (Int × (List Int × Nat) × List Int × Nat) × Int × Int × Int)) (x_n : Nat) (y : List (ByteArray × (List (List (Int × Int × Int × Int) × Nat) × Nat) × (Int × (List Int × Nat) × List Int × Nat) × Int × Int × Int)) (y_n : Nat) (n : Int) (i : Int) : St := [(0, Cell.val (AVal.vslc 108 (Ty.pair Ty.str (Ty.pair (Ty.vslice 152 (Ty.vslice 150 (Ty.pair (Ty.int IntKind.i64) (Ty.pair (Ty.int IntKind.i64) (Ty.pair (Ty.int IntKind.i64) (Ty.int IntKind.i64)))))) (Ty.pair (Ty.pair (Ty.int IntKind.i64) (Ty.pair (Ty.vslice 3 (Ty.int IntKind.i64)) (Ty.vslice 3 (Ty.int IntKind.i64)))) (Ty.pair (Ty.int IntKind.i64) (Ty.pair (Ty.int IntKind.i64) (Ty.int IntKind.i64)))))) x x_n)), (2, Cell.val (AVal.vslc 108 (Ty.pair Ty.str (Ty.pair (Ty.vslice 152 (Ty.vslice 150 (Ty.pair (Ty.int IntKind.i64) (Ty.pair (Ty.int IntKind.i64) (Ty.pair (Ty.int IntKind.i64) (Ty.int IntKind.i64)))))) (Ty.pair (Ty.pair (Ty.int IntKind.i64) (Ty.pair (Ty.vslice 3 (Ty.int IntKind.i64)) (Ty.vslice 3 (Ty.int IntKind.i64)))) (Ty.pair (Ty.int IntKind.i64) (Ty.pair (Ty.int IntKind.i64) (Ty.int IntKind.i64)))))) y y_n)), (10, Cell.val (AVal.int IntKind.i64 n)), (12, Cell.val (AVal.int IntKind.i64 i))]
theorem e26_1005 (k : Nat) (x : List (ByteArray × (List (List (Int × Int × Int × Int) × Nat) × Nat) × (Int × (List Int × Nat) × List Int × Nat) × Int × Int × Int)) (x_n : Nat) (y : List (ByteArray × (List (List (Int × Int × Int × Int) × Nat) × Nat) × (Int × (List Int × Nat) × List Int × Nat) × Int × Int × Int)) (y_n : Nat) (n : Int) (i : Int) : x26 (k + 1) k26_1005 (t26_1005 x x_n y y_n n i) = F26_1005 k (fun (x : List (ByteArray × (List (List (Int × Int × Int × Int) × Nat) × Nat) × (Int × (List Int × Nat) × List Int × Nat) × Int × Int × Int)) (x_n : Nat) (y : List (ByteArray × (List (List (Int × Int × Int × Int) × Nat) × Nat) × (Int × (List Int × Nat) × List Int × Nat) × Int × Int × Int)) (y_n : Nat) (n : Int) (i : Int) => x26 k k26_1005 (t26_1005 x x_n y y_n n i)) x x_n y y_n n i := by kernel_rfl
theorem q26 : ∀ k : Nat, (fun (x : List (ByteArray × (List (List (Int × Int × Int × Int) × Nat) × Nat) × (Int × (List Int × Nat) × List Int × Nat) × Int × Int × Int)) (x_n : Nat) (y : List (ByteArray × (List (List (Int × Int × Int × Int) × Nat) × Nat) × (Int × (List Int × Nat) × List Int × Nat) × Int × Int × Int)) (y_n : Nat) (n : Int) (i : Int) => x26 k k26_1005 (t26_1005 x x_n y y_n n i)) = l26 k
  | 0 => rfl
  | k + 1 => by
    have h := q26 k
    show _ = F26_1005 k (l26 k)
    rw [← h]
    exact (funext fun x => funext fun x_n => funext fun y => funext fun y_n => funext fun n => funext fun i => e26_1005 k x x_n y y_n n i)
theorem w26 (k : Nat) (x : List (ByteArray × (List (List (Int × Int × Int × Int) × Nat) × Nat) × (Int × (List (Int) × Nat) × List (Int) × Nat) × Int × Int × Int)) (x_n : Nat) (y : List (ByteArray × (List (List (Int × Int × Int × Int) × Nat) × Nat) × (Int × (List (Int) × Nat) × List (Int) × Nat) × Int × Int × Int)) (y_n : Nat) : runFn tiV (envOf env29) 45 h26 (finT tiV true Go.Proofs.Try.f26.results.toList [(.bool, false)] (.bool)) k (bodyOf Go.Proofs.Try.f26) (initS 0 [.vslc 108 (.pair (.str) (.pair (.vslice 152 (.vslice 150 (.pair (.int .i64) (.pair (.int .i64) (.pair (.int .i64) (.int .i64)))))) (.pair (.pair (.int .i64) (.pair (.vslice 3 (.int .i64)) (.vslice 3 (.int .i64)))) (.pair (.int .i64) (.pair (.int .i64) (.int .i64)))))) x x_n, .vslc 108 (.pair (.str) (.pair (.vslice 152 (.vslice 150 (.pair (.int .i64) (.pair (.int .i64) (.pair (.int .i64) (.int .i64)))))) (.pair (.pair (.int .i64) (.pair (.vslice 3 (.int .i64)) (.vslice 3 (.int .i64)))) (.pair (.int .i64) (.pair (.int .i64) (.int .i64)))))) y y_n]) = F26 k (fun (x : List (ByteArray × (List (List (Int × Int × Int × Int) × Nat) × Nat) × (Int × (List Int × Nat) × List Int × Nat) × Int × Int × Int)) (x_n : Nat) (y : List (ByteArray × (List (List (Int × Int × Int × Int) × Nat) × Nat) × (Int × (List Int × Nat) × List Int × Nat) × Int × Int × Int)) (y_n : Nat) (n : Int) (i : Int) => x26 k k26_1005 (t26_1005 x x_n y y_n n i)) x x_n y y_n := by kernel_rfl
theorem v26 (k : Nat) (x : List (ByteArray × (List (List (Int × Int × Int × Int) × Nat) × Nat) × (Int × (List (Int) × Nat) × List (Int) × Nat) × Int × Int × Int)) (x_n : Nat) (y : List (ByteArray × (List (List (Int × Int × Int × Int) × Nat) × Nat) × (Int × (List (Int) × Nat) × List (Int) × Nat) × Int × Int × Int)) (y_n : Nat) : runFn tiV (envOf env29) 45 h26 (finT tiV true Go.Proofs.Try.f26.results.toList [(.bool, false)] (.bool)) k (bodyOf Go.Proofs.Try.f26) (initS 0 [.vslc 108 (.pair (.str) (.pair (.vslice 152 (.vslice 150 (.pair (.int .i64) (.pair (.int .i64) (.pair (.int .i64) (.int .i64)))))) (.pair (.pair (.int .i64) (.pair (.vslice 3 (.int .i64)) (.vslice 3 (.int .i64)))) (.pair (.int .i64) (.pair (.int .i64) (.int .i64)))))) x x_n, .vslc 108 (.pair (.str) (.pair (.vslice 152 (.vslice 150 (.pair (.int .i64) (.pair (.int .i64) (.pair (.int .i64) (.int .i64)))))) (.pair (.pair (.int .i64) (.pair (.vslice 3 (.int .i64)) (.vslice 3 (.int .i64)))) (.pair (.int .i64) (.pair (.int .i64) (.int .i64)))))) y y_n]) = f26 k x x_n y y_n := by
  rw [w26]
  have h := q26 k
  unfold f26
  rw [← h]
theorem m26 : Meets Go.Proofs.Try.prog 26 s26 := meets_of_run tiVOk env29_ok mo Go.Proofs.Try.func26 (body := bodyOf Go.Proofs.Try.f26) (by kernel_rfl) (N := 45) (by kernel_rfl) (hs := h26) (by
  intro k xs r h
  unfold s26 at h
  dsimp only at h
  split at h
  · exact ⟨Nat.le_of_ble_eq_true rfl, (v26 k _ _ _ _).trans h⟩
  · cases h)
theorem env30_ok : EnvOk Go.Proofs.Try.prog (envOf env30) := envOf_cons m26 Go.Proofs.Try.func26 (by kernel_rfl) (by kernel_rfl) env29_ok

-- spec.l1In
def f121 (k : Nat) (n : Int) (lo : Int) (hi : Int) : Option (Bool) :=
  bif decide (lo ≤ n) then
    some (decide (n ≤ hi))
  else
    some false
def s121 : Spec := ⟨false, [(.bool, false)], true, .bool, fun k xs => match xs with | [.int .i64 n, .int .i64 lo, .int .i64 hi] => f121 k n lo hi | _ => none⟩
def env31 : List (FuncId × Spec) := (121, s121) :: env30
theorem v121 (k : Nat) (n : Int) (lo : Int) (hi : Int) : runFn ti (envOf env30) 15 [] (finT ti true Go.Proofs.Try.f121.results.toList [(.bool, false)] (.bool)) k (bodyOf Go.Proofs.Try.f121) (initS 0 [.int .i64 n, .int .i64 lo, .int .i64 hi]) = f121 k n lo hi := by kernel_rfl
theorem m121 : Meets Go.Proofs.Try.prog 121 s121 := meets_of_run tiOk env30_ok mo Go.Proofs.Try.func121 (body := bodyOf Go.Proofs.Try.f121) (by kernel_rfl) (N := 15) (by kernel_rfl) (hs := []) (by
  intro k xs r h
  unfold s121 at h
  dsimp only at h
  split at h
  · exact ⟨Nat.le_of_ble_eq_true rfl, (v121 k _ _ _).trans h⟩
  · cases h)
theorem env31_ok : EnvOk Go.Proofs.Try.prog (envOf env31) := envOf_cons m121 Go.Proofs.Try.func121 (by kernel_rfl) (by kernel_rfl) env30_ok

-- spec.caName
def h206 : Hints := [(1002, .lab [(0, .one (.v)), (3, .one (.v))])]
def F206_1002 (k : Nat) (rec1002 : ByteArray → Int → Option (Bool)) (s : ByteArray) (i : Int) : Option (Bool) :=
  bif decide (i < (↑(ByteArray.size s) : Int)) then
    bif boundA i (ByteArray.size s) then
      bif decide ((↑(UInt8.toNat (Array.getD s.data (Int.toNat i) 0)) : Int) < 97) then
        some false
      else
        bif boundA i (ByteArray.size s) then
          bif decide (122 < (↑(UInt8.toNat (Array.getD s.data (Int.toNat i) 0)) : Int)) then
            some false
          else
            rec1002 s (IntKind.wrap IntKind.i64 (i + 1))
        else
          none
    else
      none
  else
    (f121 k (↑(ByteArray.size s) : Int) 1 8).bind fun r0 =>
    some r0
def F206 (k : Nat) (rec1002 : ByteArray → Int → Option (Bool)) (s : ByteArray) : Option (Bool) :=
  rec1002 s (0)
def l206 : Nat → (ByteArray → Int → Option (Bool))
  | 0 => fun _ _ => none
  | k + 1 => F206_1002 k (l206 k)
def f206 (k : Nat) (s : ByteArray) : Option (Bool) := F206 k (l206 k) s
def s206 : Spec := ⟨false, [(.bool, false)], true, .bool, fun k xs => match xs with | [.str s] => f206 k s | _ => none⟩
def env32 : List (FuncId × Spec) := (206, s206) :: env31
noncomputable abbrev x206 := exec ti (envOf env31) 23 h206 (finT ti true Go.Proofs.Try.f206.results.toList [(.bool, false)] (.bool))
noncomputable def k206_1002 : List It := stackAt [.r, .l, .r, .b, .lb none] (bodyOf Go.Proofs.Try.f206) []
def t206_1002 (s : ByteArray) (i : Int) : St := [(0, Cell.val (AVal.str s)), (6, Cell.val (AVal.int IntKind.i64 i))]
theorem e206_1002 (k : Nat) (s : ByteArray) (i : Int) : x206 (k + 1) k206_1002 (t206_1002 s i) = F206_1002 k (fun (s : ByteArray) (i : Int) => x206 k k206_1002 (t206_1002 s i)) s i := by kernel_rfl
theorem q206 : ∀ k : Nat, (fun (s : ByteArray) (i : Int) => x206 k k206_1002 (t206_1002 s i)) = l206 k
  | 0 => rfl
  | k + 1 => by
    have h := q206 k
    show _ = F206_1002 k (l206 k)
    rw [← h]
    exact (funext fun s => funext fun i => e206_1002 k s i)
theorem w206 (k : Nat) (s : ByteArray) : runFn ti (envOf env31) 23 h206 (finT ti true Go.Proofs.Try.f206.results.toList [(.bool, false)] (.bool)) k (bodyOf Go.Proofs.Try.f206) (initS 0 [.str s]) = F206 k (fun (s : ByteArray) (i : Int) => x206 k k206_1002 (t206_1002 s i)) s := by kernel_rfl
theorem v206 (k : Nat) (s : ByteArray) : runFn ti (envOf env31) 23 h206 (finT ti true Go.Proofs.Try.f206.results.toList [(.bool, false)] (.bool)) k (bodyOf Go.Proofs.Try.f206) (initS 0 [.str s]) = f206 k s := by
  rw [w206]
  have h := q206 k
  unfold f206
  rw [← h]
theorem m206 : Meets Go.Proofs.Try.prog 206 s206 := meets_of_run tiOk env31_ok mo Go.Proofs.Try.func206 (body := bodyOf Go.Proofs.Try.f206) (by kernel_rfl) (N := 23) (by kernel_rfl) (hs := h206) (by
  intro k xs r h
  unfold s206 at h
  dsimp only at h
  split at h
  · exact ⟨Nat.le_of_ble_eq_true rfl, (v206 k _).trans h⟩
  · cases h)
theorem env32_ok : EnvOk Go.Proofs.Try.prog (envOf env32) := envOf_cons m206 Go.Proofs.Try.func206 (by kernel_rfl) (by kernel_rfl) env31_ok

-- spec.dyPower
def f90 (k : Nat) (k_ : Int) : Option (Int) :=
  bif !decide (IntKind.wrap IntKind.u64 k_ < 0) then
    some (IntKind.wrap IntKind.i64 (1 * 2 ^ min (Int.toNat (IntKind.wrap IntKind.u64 k_)) (IntKind.bits IntKind.i64)))
  else
    none
def s90 : Spec := ⟨false, [(.int .i64, false)], true, .int .i64, fun k xs => match xs with | [.int .i64 k_] => f90 k k_ | _ => none⟩
def env33 : List (FuncId × Spec) := (90, s90) :: env32
theorem v90 (k : Nat) (k_ : Int) : runFn ti (envOf env32) 6 [] (finT ti true Go.Proofs.Try.f90.results.toList [(.int .i64, false)] (.int .i64)) k (bodyOf Go.Proofs.Try.f90) (initS 0 [.int .i64 k_]) = f90 k k_ := by kernel_rfl
theorem m90 : Meets Go.Proofs.Try.prog 90 s90 := meets_of_run tiOk env32_ok mo Go.Proofs.Try.func90 (body := bodyOf Go.Proofs.Try.f90) (by kernel_rfl) (N := 6) (by kernel_rfl) (hs := []) (by
  intro k xs r h
  unfold s90 at h
  dsimp only at h
  split at h
  · exact ⟨Nat.le_of_ble_eq_true rfl, (v90 k _).trans h⟩
  · cases h)
theorem env33_ok : EnvOk Go.Proofs.Try.prog (envOf env33) := envOf_cons m90 Go.Proofs.Try.func90 (by kernel_rfl) (by kernel_rfl) env32_ok

-- spec.bxGood
def h155 : Hints := [(1006, .lab [(1, .box 60 [.v, .frz 3 (Ty.int IntKind.i64), .frz 3 (Ty.int IntKind.i64)]), (3, .one (.v)), (4, .one (.v)), (36, .one (.frz 3 (Ty.int IntKind.i64))), (37, .one (.v)), (38, .one (.v))])]
def F155_1006 (k : Nat) (rec1006 : Int → List Int → List Int → Int → Bool → List Int → Int → Int → Option (Bool)) (is_0 : Int) (is_1 : List Int) (is_2 : List Int) (t : Int) (t4 : Bool) (t36 : List Int) (t37 : Int) (t38 : Int) : Option (Bool) :=
  bif decide (t38 < t37) then
    bif boundA t38 (List.length t36) then
      bif boundA t38 (List.length is_2) then
        (f121 k (List.getD t36 (Int.toNat t38) 0) (IntKind.wrap IntKind.i64 (0 - t)) t).bind fun r0 =>
        bif !r0 then
          some false
        else
          (f121 k (List.getD is_2 (Int.toNat t38) 0) (IntKind.wrap IntKind.i64 (0 - t)) t).bind fun r1 =>
          bif !r1 then
            some false
          else
            bif decide (List.getD is_2 (Int.toNat t38) 0 ≤ List.getD t36 (Int.toNat t38) 0) then
              some false
            else
              bif t4 then
                rec1006 is_0 is_1 is_2 t true t36 t37 (IntKind.wrap IntKind.i64 (t38 + 1))
              else
                bif !decide (Int.tmod (List.getD t36 (Int.toNat t38) 0) 2 = 0) then
                  rec1006 is_0 is_1 is_2 t true t36 t37 (IntKind.wrap IntKind.i64 (t38 + 1))
                else
                  rec1006 is_0 is_1 is_2 t (!decide (Int.tmod (List.getD is_2 (Int.toNat t38) 0) 2 = 0)) t36 t37 (IntKind.wrap IntKind.i64 (t38 + 1))
      else
        none
    else
      none
  else
    some t4
def F155 (k : Nat) (rec1006 : Int → List Int → List Int → Int → Bool → List Int → Int → Int → Option (Bool)) (L_K : Int) (L_Low : List (Int)) (L_High : List (Int)) : Option (Bool) :=
  (f121 k L_K 0 8).bind fun r0 =>
  bif !r0 then
    some false
  else
    (f121 k (↑(List.length L_Low) : Int) 1 3).bind fun r1 =>
    bif !r1 then
      some false
    else
      bif !decide ((↑(List.length L_High) : Int) = (↑(List.length L_Low) : Int)) then
        some false
      else
        (f90 k L_K).bind fun r2 =>
        rec1006 L_K L_Low L_High (IntKind.wrap IntKind.i64 (8 * r2)) (decide (L_K = 0)) L_Low ((↑(List.length L_Low) : Int)) (0)
def l155 : Nat → (Int → List Int → List Int → Int → Bool → List Int → Int → Int → Option (Bool))
  | 0 => fun _ _ _ _ _ _ _ _ => none
  | k + 1 => F155_1006 k (l155 k)
def f155 (k : Nat) (L_K : Int) (L_Low : List (Int)) (L_High : List (Int)) : Option (Bool) := F155 k (l155 k) L_K L_Low L_High
def s155 : Spec := ⟨false, [(.bool, false)], true, .bool, fun k xs => match xs with | [.agg [.int .i64 L_K, .slc 3 (.int .i64) L_Low, .slc 3 (.int .i64) L_High]] => f155 k L_K L_Low L_High | _ => none⟩
def env34 : List (FuncId × Spec) := (155, s155) :: env33
noncomputable abbrev x155 := exec ti (envOf env33) 80 h155 (finT ti true Go.Proofs.Try.f155.results.toList [(.bool, false)] (.bool))
noncomputable def k155_1006 : List It := stackAt [.r, .r, .r, .r, .l, .r, .b, .lb none] (bodyOf Go.Proofs.Try.f155) []
def t155_1006 (is_0 : Int) (is_1 : List Int) (is_2 : List Int) (t : Int) (t4 : Bool) (t36 : List Int) (t37 : Int) (t38 : Int) : St := [(2, Cell.val (AVal.ptr 3 0)), (3, Cell.mem true 60 [AVal.int IntKind.i64 is_0, AVal.slc 3 (Ty.int IntKind.i64) is_1, AVal.slc 3 (Ty.int IntKind.i64) is_2]), (6, Cell.val (AVal.int IntKind.i64 t)), (8, Cell.val (AVal.bool t4)), (72, Cell.val (AVal.slc 3 (Ty.int IntKind.i64) t36)), (74, Cell.val (AVal.int IntKind.i64 t37)), (76, Cell.val (AVal.int IntKind.i64 t38))]
theorem e155_1006 (k : Nat) (is_0 : Int) (is_1 : List Int) (is_2 : List Int) (t : Int) (t4 : Bool) (t36 : List Int) (t37 : Int) (t38 : Int) : x155 (k + 1) k155_1006 (t155_1006 is_0 is_1 is_2 t t4 t36 t37 t38) = F155_1006 k (fun (is_0 : Int) (is_1 : List Int) (is_2 : List Int) (t : Int) (t4 : Bool) (t36 : List Int) (t37 : Int) (t38 : Int) => x155 k k155_1006 (t155_1006 is_0 is_1 is_2 t t4 t36 t37 t38)) is_0 is_1 is_2 t t4 t36 t37 t38 := by kernel_rfl
theorem q155 : ∀ k : Nat, (fun (is_0 : Int) (is_1 : List Int) (is_2 : List Int) (t : Int) (t4 : Bool) (t36 : List Int) (t37 : Int) (t38 : Int) => x155 k k155_1006 (t155_1006 is_0 is_1 is_2 t t4 t36 t37 t38)) = l155 k
  | 0 => rfl
  | k + 1 => by
    have h := q155 k
    show _ = F155_1006 k (l155 k)
    rw [← h]
    exact (funext fun is_0 => funext fun is_1 => funext fun is_2 => funext fun t => funext fun t4 => funext fun t36 => funext fun t37 => funext fun t38 => e155_1006 k is_0 is_1 is_2 t t4 t36 t37 t38)
theorem w155 (k : Nat) (L_K : Int) (L_Low : List (Int)) (L_High : List (Int)) : runFn ti (envOf env33) 80 h155 (finT ti true Go.Proofs.Try.f155.results.toList [(.bool, false)] (.bool)) k (bodyOf Go.Proofs.Try.f155) (initS 0 [.agg [.int .i64 L_K, .slc 3 (.int .i64) L_Low, .slc 3 (.int .i64) L_High]]) = F155 k (fun (is_0 : Int) (is_1 : List Int) (is_2 : List Int) (t : Int) (t4 : Bool) (t36 : List Int) (t37 : Int) (t38 : Int) => x155 k k155_1006 (t155_1006 is_0 is_1 is_2 t t4 t36 t37 t38)) L_K L_Low L_High := by kernel_rfl
theorem v155 (k : Nat) (L_K : Int) (L_Low : List (Int)) (L_High : List (Int)) : runFn ti (envOf env33) 80 h155 (finT ti true Go.Proofs.Try.f155.results.toList [(.bool, false)] (.bool)) k (bodyOf Go.Proofs.Try.f155) (initS 0 [.agg [.int .i64 L_K, .slc 3 (.int .i64) L_Low, .slc 3 (.int .i64) L_High]]) = f155 k L_K L_Low L_High := by
  rw [w155]
  have h := q155 k
  unfold f155
  rw [← h]
theorem m155 : Meets Go.Proofs.Try.prog 155 s155 := meets_of_run tiOk env33_ok mo Go.Proofs.Try.func155 (body := bodyOf Go.Proofs.Try.f155) (by kernel_rfl) (N := 80) (by kernel_rfl) (hs := h155) (by
  intro k xs r h
  unfold s155 at h
  dsimp only at h
  split at h
  · exact ⟨Nat.le_of_ble_eq_true rfl, (v155 k _ _ _).trans h⟩
  · cases h)
theorem env34_ok : EnvOk Go.Proofs.Try.prog (envOf env34) := envOf_cons m155 Go.Proofs.Try.func155 (by kernel_rfl) (by kernel_rfl) env33_ok

-- spec.poTerm
def f288 (k : Nat) (t_C : Int) (t_X : Int) (t_Y : Int) (t_Z : Int) : Option (Bool) :=
  (f121 k t_C (-1000) 1000).bind fun r0 =>
  bif r0 then
    (f121 k t_X 0 4).bind fun r1 =>
    bif r1 then
      (f121 k t_Y 0 4).bind fun r2 =>
      bif r2 then
        (f121 k t_Z 0 4).bind fun r3 =>
        bif r3 then
          some (decide (IntKind.wrap IntKind.i64 (IntKind.wrap IntKind.i64 (t_X + t_Y) + t_Z) ≤ 4))
        else
          some false
      else
        some false
    else
      some false
  else
    some false
def s288 : Spec := ⟨false, [(.bool, false)], true, .bool, fun k xs => match xs with | [.agg [.int .i64 t_C, .int .i64 t_X, .int .i64 t_Y, .int .i64 t_Z]] => f288 k t_C t_X t_Y t_Z | _ => none⟩
def env35 : List (FuncId × Spec) := (288, s288) :: env34
theorem v288 (k : Nat) (t_C : Int) (t_X : Int) (t_Y : Int) (t_Z : Int) : runFn ti (envOf env34) 32 [] (finT ti true Go.Proofs.Try.f288.results.toList [(.bool, false)] (.bool)) k (bodyOf Go.Proofs.Try.f288) (initS 0 [.agg [.int .i64 t_C, .int .i64 t_X, .int .i64 t_Y, .int .i64 t_Z]]) = f288 k t_C t_X t_Y t_Z := by kernel_rfl
theorem m288 : Meets Go.Proofs.Try.prog 288 s288 := meets_of_run tiOk env34_ok mo Go.Proofs.Try.func288 (body := bodyOf Go.Proofs.Try.f288) (by kernel_rfl) (N := 32) (by kernel_rfl) (hs := []) (by
  intro k xs r h
  unfold s288 at h
  dsimp only at h
  split at h
  · exact ⟨Nat.le_of_ble_eq_true rfl, (v288 k _ _ _ _).trans h⟩
  · cases h)
theorem env35_ok : EnvOk Go.Proofs.Try.prog (envOf env35) := envOf_cons m288 Go.Proofs.Try.func288 (by kernel_rfl) (by kernel_rfl) env34_ok

-- spec.l1Sign
def f185 (k : Nat) (n : Int) : Option (Int) :=
  bif decide (0 < n) then
    some (1)
  else
    bif decide (n < 0) then
      some (-1)
    else
      some (0)
def s185 : Spec := ⟨false, [(.int .i64, false)], true, .int .i64, fun k xs => match xs with | [.int .i64 n] => f185 k n | _ => none⟩
def env36 : List (FuncId × Spec) := (185, s185) :: env35
theorem v185 (k : Nat) (n : Int) : runFn ti (envOf env35) 9 [] (finT ti true Go.Proofs.Try.f185.results.toList [(.int .i64, false)] (.int .i64)) k (bodyOf Go.Proofs.Try.f185) (initS 0 [.int .i64 n]) = f185 k n := by kernel_rfl
theorem m185 : Meets Go.Proofs.Try.prog 185 s185 := meets_of_run tiOk env35_ok mo Go.Proofs.Try.func185 (body := bodyOf Go.Proofs.Try.f185) (by kernel_rfl) (N := 9) (by kernel_rfl) (hs := []) (by
  intro k xs r h
  unfold s185 at h
  dsimp only at h
  split at h
  · exact ⟨Nat.le_of_ble_eq_true rfl, (v185 k _).trans h⟩
  · cases h)
theorem env36_ok : EnvOk Go.Proofs.Try.prog (envOf env36) := envOf_cons m185 Go.Proofs.Try.func185 (by kernel_rfl) (by kernel_rfl) env35_ok

end Go.Proofs.YtbaeikcfchiiaaaE
