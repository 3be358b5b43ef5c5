/- Functions, by the engine; printed. -/
import Derived.Test.YtbaeikcfchiiaaaCA5
set_option maxRecDepth 100000
set_option maxHeartbeats 4000000
set_option linter.unusedVariables false
namespace Go.Proofs.YtbaeikcfchiiaaaE
-- impl.isCatalogue
def h86 : Hints := [(1002, .lab [(0, .one (.frz 108 (Ty.pair Ty.str (Ty.pair (Ty.slice 152 (Ty.slice 150 (Ty.pair (Ty.int IntKind.i64) (Ty.pair (Ty.int IntKind.i64) (Ty.pair (Ty.int IntKind.i64) (Ty.int IntKind.i64)))))) (Ty.pair (Ty.pair (Ty.int IntKind.i64) (Ty.pair (Ty.slice 3 (Ty.int IntKind.i64)) (Ty.slice 3 (Ty.int IntKind.i64)))) (Ty.pair (Ty.int IntKind.i64) (Ty.pair (Ty.int IntKind.i64) (Ty.int IntKind.i64)))))))), (5, .one (.v)), (6, .one (.v))])]
def F86_1002 (k : Nat) (rec1002 : List (ByteArray × List (List (Int × Int × Int × Int)) × (Int × List Int × List Int) × Int × Int × Int) → Int → Int → Option (Bool)) (l : List (ByteArray × List (List (Int × Int × Int × Int)) × (Int × List Int × List Int) × Int × Int × Int)) (t5 : Int) (t6 : Int) : Option (Bool) :=
  bif decide (t6 < t5) then
    bif boundA t6 (List.length l) then
      (f144 k (List.getD l (Int.toNat t6) (ByteArray.empty, [], (0, [], []), 0, 0, 0))).bind fun r0 =>
      bif !r0 then
        some false
      else
        bif decide (0 < t6) then
          bif boundA (IntKind.wrap IntKind.i64 (t6 - 1)) (List.length l) then
            bif boundA t6 (List.length l) then
              bif !Op.bytesLess (ByteArray.toList (List.getD l (Int.toNat (IntKind.wrap IntKind.i64 (t6 - 1))) (ByteArray.empty, [], (0, [], []), 0, 0, 0)).fst) (ByteArray.toList (List.getD l (Int.toNat t6) (ByteArray.empty, [], (0, [], []), 0, 0, 0)).fst) then
                some false
              else
                rec1002 l t5 (IntKind.wrap IntKind.i64 (t6 + 1))
            else
              none
          else
            none
        else
          rec1002 l t5 (IntKind.wrap IntKind.i64 (t6 + 1))
    else
      none
  else
    some (decide ((↑(List.length l) : Int) ≤ 10))
def F86 (k : Nat) (rec1002 : List (ByteArray × List (List (Int × Int × Int × Int)) × (Int × List Int × List Int) × Int × Int × Int) → Int → Int → Option (Bool)) (l : List (ByteArray × (List (List (Int × Int × Int × Int))) × (Int × (List (Int)) × List (Int)) × Int × Int × Int)) : Option (Bool) :=
  rec1002 l ((↑(List.length l) : Int)) (0)
def l86 : Nat → (List (ByteArray × List (List (Int × Int × Int × Int)) × (Int × List Int × List Int) × Int × Int × Int) → Int → Int → Option (Bool))
  | 0 => fun _ _ _ => none
  | k + 1 => F86_1002 k (l86 k)
def f86 (k : Nat) (l : List (ByteArray × (List (List (Int × Int × Int × Int))) × (Int × (List (Int)) × List (Int)) × Int × Int × Int)) : Option (Bool) := F86 k (l86 k) l
def s86 : Spec := ⟨false, [(.bool, false)], true, .bool, fun k xs => match xs with | [.slc 108 (.pair (.str) (.pair (.slice 152 (.slice 150 (.pair (.int .i64) (.pair (.int .i64) (.pair (.int .i64) (.int .i64)))))) (.pair (.pair (.int .i64) (.pair (.slice 3 (.int .i64)) (.slice 3 (.int .i64)))) (.pair (.int .i64) (.pair (.int .i64) (.int .i64)))))) l] => f86 k l | _ => none⟩
def env61 : List (FuncId × Spec) := (86, s86) :: env60
noncomputable abbrev x86 := exec ti (envOf env60) 36 h86 (finT ti true Go.Proofs.Try.f86.results.toList [(.bool, false)] (.bool))
noncomputable def k86_1002 : List It := stackAt [.r, .l, .r, .b, .lb none] (bodyOf Go.Proofs.Try.f86) []
def t86_1002 (l : List (ByteArray × List (List (Int × Int × Int × Int)) × (Int × List Int × List Int) × Int × Int × Int)) (t5 : Int) (t6 : Int) : St := [(0, Cell.val (AVal.slc 108 (Ty.pair Ty.str (Ty.pair (Ty.slice 152 (Ty.slice 150 (Ty.pair (Ty.int IntKind.i64) (Ty.pair (Ty.int IntKind.i64) (Ty.pair (Ty.int IntKind.i64) (Ty.int IntKind.i64)))))) (Ty.pair (Ty.pair (Ty.int IntKind.i64) (Ty.pair (Ty.slice 3 (Ty.int IntKind.i64)) (Ty.slice 3 (Ty.int IntKind.i64)))) (Ty.pair (Ty.int IntKind.i64) (Ty.pair (Ty.int IntKind.i64) (Ty.int IntKind.i64)))))) l)), (10, Cell.val (AVal.int IntKind.i64 t5)), (12, Cell.val (AVal.int IntKind.i64 t6))]
theorem e86_1002 (k : Nat) (l : List (ByteArray × List (List (Int × Int × Int × Int)) × (Int × List Int × List Int) × Int × Int × Int)) (t5 : Int) (t6 : Int) : x86 (k + 1) k86_1002 (t86_1002 l t5 t6) = F86_1002 k (fun (l : List (ByteArray × List (List (Int × Int × Int × Int)) × (Int × List Int × List Int) × Int × Int × Int)) (t5 : Int) (t6 : Int) => x86 k k86_1002 (t86_1002 l t5 t6)) l t5 t6 := by kernel_rfl
theorem q86 : ∀ k : Nat, (fun (l : List (ByteArray × List (List (Int × Int × Int × Int)) × (Int × List Int × List Int) × Int × Int × Int)) (t5 : Int) (t6 : Int) => x86 k k86_1002 (t86_1002 l t5 t6)) = l86 k
  | 0 => rfl
  | k + 1 => by
    have h := q86 k
    show _ = F86_1002 k (l86 k)
    rw [← h]
    exact (funext fun l => funext fun t5 => funext fun t6 => e86_1002 k l t5 t6)
theorem w86 (k : Nat) (l : List (ByteArray × (List (List (Int × Int × Int × Int))) × (Int × (List (Int)) × List (Int)) × Int × Int × Int)) : runFn ti (envOf env60) 36 h86 (finT ti true Go.Proofs.Try.f86.results.toList [(.bool, false)] (.bool)) k (bodyOf Go.Proofs.Try.f86) (initS 0 [.slc 108 (.pair (.str) (.pair (.slice 152 (.slice 150 (.pair (.int .i64) (.pair (.int .i64) (.pair (.int .i64) (.int .i64)))))) (.pair (.pair (.int .i64) (.pair (.slice 3 (.int .i64)) (.slice 3 (.int .i64)))) (.pair (.int .i64) (.pair (.int .i64) (.int .i64)))))) l]) = F86 k (fun (l : List (ByteArray × List (List (Int × Int × Int × Int)) × (Int × List Int × List Int) × Int × Int × Int)) (t5 : Int) (t6 : Int) => x86 k k86_1002 (t86_1002 l t5 t6)) l := by kernel_rfl
theorem v86 (k : Nat) (l : List (ByteArray × (List (List (Int × Int × Int × Int))) × (Int × (List (Int)) × List (Int)) × Int × Int × Int)) : runFn ti (envOf env60) 36 h86 (finT ti true Go.Proofs.Try.f86.results.toList [(.bool, false)] (.bool)) k (bodyOf Go.Proofs.Try.f86) (initS 0 [.slc 108 (.pair (.str) (.pair (.slice 152 (.slice 150 (.pair (.int .i64) (.pair (.int .i64) (.pair (.int .i64) (.int .i64)))))) (.pair (.pair (.int .i64) (.pair (.slice 3 (.int .i64)) (.slice 3 (.int .i64)))) (.pair (.int .i64) (.pair (.int .i64) (.int .i64)))))) l]) = f86 k l := by
  rw [w86]
  have h := q86 k
  unfold f86
  rw [← h]
theorem m86 : Meets Go.Proofs.Try.prog 86 s86 := meets_of_run tiOk env60_ok mo Go.Proofs.Try.func86 (body := bodyOf Go.Proofs.Try.f86) (by kernel_rfl) (N := 36) (by kernel_rfl) (hs := h86) (by
  intro k xs r h
  unfold s86 at h
  dsimp only at h
  split at h
  · exact ⟨Nat.le_of_ble_eq_true rfl, (v86 k _).trans h⟩
  · cases h)
theorem env61_ok : EnvOk Go.Proofs.Try.prog (envOf env61) := envOf_cons m86 Go.Proofs.Try.func86 (by kernel_rfl) (by kernel_rfl) env60_ok

-- impl.OpenWidth
def h28 : Hints := [(1005, .lab [(4, .one (.v)), (10, .one (.frz 108 (Ty.pair Ty.str (Ty.pair (Ty.slice 152 (Ty.slice 150 (Ty.pair (Ty.int IntKind.i64) (Ty.pair (Ty.int IntKind.i64) (Ty.pair (Ty.int IntKind.i64) (Ty.int IntKind.i64)))))) (Ty.pair (Ty.pair (Ty.int IntKind.i64) (Ty.pair (Ty.slice 3 (Ty.int IntKind.i64)) (Ty.slice 3 (Ty.int IntKind.i64)))) (Ty.pair (Ty.int IntKind.i64) (Ty.pair (Ty.int IntKind.i64) (Ty.int IntKind.i64)))))))), (11, .one (.v)), (12, .one (.v))])]
def F28_1005 (k : Nat) (rec1005 : Int → List (ByteArray × List (List (Int × Int × Int × Int)) × (Int × List Int × List Int) × Int × Int × Int) → Int → Int → Option (Int × Bool)) (sum : Int) (t10 : List (ByteArray × List (List (Int × Int × Int × Int)) × (Int × List Int × List Int) × Int × Int × Int)) (t11 : Int) (t12 : Int) : Option (Int × Bool) :=
  bif decide (t12 < t11) then
    bif boundA t12 (List.length t10) then
      rec1005 (IntKind.wrap IntKind.i64 (sum + IntKind.wrap IntKind.i64 ((List.getD t10 (Int.toNat t12) (ByteArray.empty, [], (0, [], []), 0, 0, 0)).snd.snd.snd.snd.fst - (List.getD t10 (Int.toNat t12) (ByteArray.empty, [], (0, [], []), 0, 0, 0)).snd.snd.snd.fst))) t10 t11 (IntKind.wrap IntKind.i64 (t12 + 1))
    else
      none
  else
    some ((sum, true))
def F28 (k : Nat) (rec1005 : Int → List (ByteArray × List (List (Int × Int × Int × Int)) × (Int × List Int × List Int) × Int × Int × Int) → Int → Int → Option (Int × Bool)) (l : List (ByteArray × (List (List (Int × Int × Int × Int))) × (Int × (List (Int)) × List (Int)) × Int × Int × Int)) : Option (Int × Bool) :=
  (f86 k l).bind fun r0 =>
  bif !r0 then
    some ((0, false))
  else
    rec1005 (0) l ((↑(List.length l) : Int)) (0)
def l28 : Nat → (Int → List (ByteArray × List (List (Int × Int × Int × Int)) × (Int × List Int × List Int) × Int × Int × Int) → Int → Int → Option (Int × Bool))
  | 0 => fun _ _ _ _ => none
  | k + 1 => F28_1005 k (l28 k)
def f28 (k : Nat) (l : List (ByteArray × (List (List (Int × Int × Int × Int))) × (Int × (List (Int)) × List (Int)) × Int × Int × Int)) : Option (Int × Bool) := F28 k (l28 k) l
def s28 : Spec := ⟨false, [(.int .i64, false), (.bool, false)], true, .pair (.int .i64) (.bool), fun k xs => match xs with | [.slc 108 (.pair (.str) (.pair (.slice 152 (.slice 150 (.pair (.int .i64) (.pair (.int .i64) (.pair (.int .i64) (.int .i64)))))) (.pair (.pair (.int .i64) (.pair (.slice 3 (.int .i64)) (.slice 3 (.int .i64)))) (.pair (.int .i64) (.pair (.int .i64) (.int .i64)))))) l] => f28 k l | _ => none⟩
def env62 : List (FuncId × Spec) := (28, s28) :: env61
noncomputable abbrev x28 := exec ti (envOf env61) 25 h28 (finT ti true Go.Proofs.Try.f28.results.toList [(.int .i64, false), (.bool, false)] (.pair (.int .i64) (.bool)))
noncomputable def k28_1005 : List It := stackAt [.r, .r, .r, .l, .r, .b, .lb none] (bodyOf Go.Proofs.Try.f28) []
def t28_1005 (sum : Int) (t10 : List (ByteArray × List (List (Int × Int × Int × Int)) × (Int × List Int × List Int) × Int × Int × Int)) (t11 : Int) (t12 : Int) : St := [(8, Cell.val (AVal.int IntKind.i64 sum)), (20, Cell.val (AVal.slc 108 (Ty.pair Ty.str (Ty.pair (Ty.slice 152 (Ty.slice 150 (Ty.pair (Ty.int IntKind.i64) (Ty.pair (Ty.int IntKind.i64) (Ty.pair (Ty.int IntKind.i64) (Ty.int IntKind.i64)))))) (Ty.pair (Ty.pair (Ty.int IntKind.i64) (Ty.pair (Ty.slice 3 (Ty.int IntKind.i64)) (Ty.slice 3 (Ty.int IntKind.i64)))) (Ty.pair (Ty.int IntKind.i64) (Ty.pair (Ty.int IntKind.i64) (Ty.int IntKind.i64)))))) t10)), (22, Cell.val (AVal.int IntKind.i64 t11)), (24, Cell.val (AVal.int IntKind.i64 t12))]
theorem e28_1005 (k : Nat) (sum : Int) (t10 : List (ByteArray × List (List (Int × Int × Int × Int)) × (Int × List Int × List Int) × Int × Int × Int)) (t11 : Int) (t12 : Int) : x28 (k + 1) k28_1005 (t28_1005 sum t10 t11 t12) = F28_1005 k (fun (sum : Int) (t10 : List (ByteArray × List (List (Int × Int × Int × Int)) × (Int × List Int × List Int) × Int × Int × Int)) (t11 : Int) (t12 : Int) => x28 k k28_1005 (t28_1005 sum t10 t11 t12)) sum t10 t11 t12 := by kernel_rfl
theorem q28 : ∀ k : Nat, (fun (sum : Int) (t10 : List (ByteArray × List (List (Int × Int × Int × Int)) × (Int × List Int × List Int) × Int × Int × Int)) (t11 : Int) (t12 : Int) => x28 k k28_1005 (t28_1005 sum t10 t11 t12)) = l28 k
  | 0 => rfl
  | k + 1 => by
    have h := q28 k
    show _ = F28_1005 k (l28 k)
    rw [← h]
    exact (funext fun sum => funext fun t10 => funext fun t11 => funext fun t12 => e28_1005 k sum t10 t11 t12)
theorem w28 (k : Nat) (l : List (ByteArray × (List (List (Int × Int × Int × Int))) × (Int × (List (Int)) × List (Int)) × Int × Int × Int)) : runFn ti (envOf env61) 25 h28 (finT ti true Go.Proofs.Try.f28.results.toList [(.int .i64, false), (.bool, false)] (.pair (.int .i64) (.bool))) k (bodyOf Go.Proofs.Try.f28) (initS 0 [.slc 108 (.pair (.str) (.pair (.slice 152 (.slice 150 (.pair (.int .i64) (.pair (.int .i64) (.pair (.int .i64) (.int .i64)))))) (.pair (.pair (.int .i64) (.pair (.slice 3 (.int .i64)) (.slice 3 (.int .i64)))) (.pair (.int .i64) (.pair (.int .i64) (.int .i64)))))) l]) = F28 k (fun (sum : Int) (t10 : List (ByteArray × List (List (Int × Int × Int × Int)) × (Int × List Int × List Int) × Int × Int × Int)) (t11 : Int) (t12 : Int) => x28 k k28_1005 (t28_1005 sum t10 t11 t12)) l := by kernel_rfl
theorem v28 (k : Nat) (l : List (ByteArray × (List (List (Int × Int × Int × Int))) × (Int × (List (Int)) × List (Int)) × Int × Int × Int)) : runFn ti (envOf env61) 25 h28 (finT ti true Go.Proofs.Try.f28.results.toList [(.int .i64, false), (.bool, false)] (.pair (.int .i64) (.bool))) k (bodyOf Go.Proofs.Try.f28) (initS 0 [.slc 108 (.pair (.str) (.pair (.slice 152 (.slice 150 (.pair (.int .i64) (.pair (.int .i64) (.pair (.int .i64) (.int .i64)))))) (.pair (.pair (.int .i64) (.pair (.slice 3 (.int .i64)) (.slice 3 (.int .i64)))) (.pair (.int .i64) (.pair (.int .i64) (.int .i64)))))) l]) = f28 k l := by
  rw [w28]
  have h := q28 k
  unfold f28
  rw [← h]
theorem m28 : Meets Go.Proofs.Try.prog 28 s28 := meets_of_run tiOk env61_ok mo Go.Proofs.Try.func28 (body := bodyOf Go.Proofs.Try.f28) (by kernel_rfl) (N := 25) (by kernel_rfl) (hs := h28) (by
  intro k xs r h
  unfold s28 at h
  dsimp only at h
  split at h
  · exact ⟨Nat.le_of_ble_eq_true rfl, (v28 k _).trans h⟩
  · cases h)
theorem env62_ok : EnvOk Go.Proofs.Try.prog (envOf env62) := envOf_cons m28 Go.Proofs.Try.func28 (by kernel_rfl) (by kernel_rfl) env61_ok

-- laws.FnExactOpenWidth
def f6 (k : Nat) (aL : List (ByteArray × (List (List (Int × Int × Int × Int))) × (Int × (List (Int)) × List (Int)) × Int × Int × Int)) : Option (Bool) :=
  (f22 k aL 1000000).bind fun r0 =>
  bif decide (r0 < 0) then
    some true
  else
    (f24 k aL false).bind fun r1 =>
    (f27 k (List.map (fun (x : T (Ty.pair Ty.str (Ty.pair (Ty.vslice 152 (Ty.vslice 150 (Ty.pair (Ty.int IntKind.i64) (Ty.pair (Ty.int IntKind.i64) (Ty.pair (Ty.int IntKind.i64) (Ty.int IntKind.i64)))))) (Ty.pair (Ty.pair (Ty.int IntKind.i64) (Ty.pair (Ty.vslice 3 (Ty.int IntKind.i64)) (Ty.vslice 3 (Ty.int IntKind.i64)))) (Ty.pair (Ty.int IntKind.i64) (Ty.pair (Ty.int IntKind.i64) (Ty.int IntKind.i64))))))) => (x.fst, List.map (fun (x : T (Ty.vslice 150 (Ty.pair (Ty.int IntKind.i64) (Ty.pair (Ty.int IntKind.i64) (Ty.pair (Ty.int IntKind.i64) (Ty.int IntKind.i64)))))) => List.map (fun (x : T (Ty.pair (Ty.int IntKind.i64) (Ty.pair (Ty.int IntKind.i64) (Ty.pair (Ty.int IntKind.i64) (Ty.int IntKind.i64))))) => (x.fst, x.snd.fst, x.snd.snd.fst, x.snd.snd.snd)) (List.take x.snd x.fst)) (List.take x.snd.fst.snd x.snd.fst.fst), (x.snd.snd.fst.fst, List.map (fun (x : T (Ty.int IntKind.i64)) => x) (List.take x.snd.snd.fst.snd.fst.snd x.snd.snd.fst.snd.fst.fst), List.map (fun (x : T (Ty.int IntKind.i64)) => x) (List.take x.snd.snd.fst.snd.snd.snd x.snd.snd.fst.snd.snd.fst)), x.snd.snd.snd.fst, x.snd.snd.snd.snd.fst, x.snd.snd.snd.snd.snd)) (List.take r1.snd r1.fst))).bind fun r2 =>
    (f24 k aL false).bind fun r3 =>
    (f28 k (List.map (fun (x : T (Ty.pair Ty.str (Ty.pair (Ty.vslice 152 (Ty.vslice 150 (Ty.pair (Ty.int IntKind.i64) (Ty.pair (Ty.int IntKind.i64) (Ty.pair (Ty.int IntKind.i64) (Ty.int IntKind.i64)))))) (Ty.pair (Ty.pair (Ty.int IntKind.i64) (Ty.pair (Ty.vslice 3 (Ty.int IntKind.i64)) (Ty.vslice 3 (Ty.int IntKind.i64)))) (Ty.pair (Ty.int IntKind.i64) (Ty.pair (Ty.int IntKind.i64) (Ty.int IntKind.i64))))))) => (x.fst, List.map (fun (x : T (Ty.vslice 150 (Ty.pair (Ty.int IntKind.i64) (Ty.pair (Ty.int IntKind.i64) (Ty.pair (Ty.int IntKind.i64) (Ty.int IntKind.i64)))))) => List.map (fun (x : T (Ty.pair (Ty.int IntKind.i64) (Ty.pair (Ty.int IntKind.i64) (Ty.pair (Ty.int IntKind.i64) (Ty.int IntKind.i64))))) => (x.fst, x.snd.fst, x.snd.snd.fst, x.snd.snd.snd)) (List.take x.snd x.fst)) (List.take x.snd.fst.snd x.snd.fst.fst), (x.snd.snd.fst.fst, List.map (fun (x : T (Ty.int IntKind.i64)) => x) (List.take x.snd.snd.fst.snd.fst.snd x.snd.snd.fst.snd.fst.fst), List.map (fun (x : T (Ty.int IntKind.i64)) => x) (List.take x.snd.snd.fst.snd.snd.snd x.snd.snd.fst.snd.snd.fst)), x.snd.snd.snd.fst, x.snd.snd.snd.snd.fst, x.snd.snd.snd.snd.snd)) (List.take r3.snd r3.fst))).bind fun r4 =>
    bif !decide (r4.fst = r2.fst) then
      some false
    else
      bif !r4.snd == r2.snd then
        some false
      else
        (f24 k aL false).bind fun r5 =>
        (f26 k r3.fst r3.snd r5.fst r5.snd).bind fun r6 =>
        bif !r6 then
          some false
        else
          (f24 k aL true).bind fun r7 =>
          (f28 k (List.map (fun (x : T (Ty.pair Ty.str (Ty.pair (Ty.vslice 152 (Ty.vslice 150 (Ty.pair (Ty.int IntKind.i64) (Ty.pair (Ty.int IntKind.i64) (Ty.pair (Ty.int IntKind.i64) (Ty.int IntKind.i64)))))) (Ty.pair (Ty.pair (Ty.int IntKind.i64) (Ty.pair (Ty.vslice 3 (Ty.int IntKind.i64)) (Ty.vslice 3 (Ty.int IntKind.i64)))) (Ty.pair (Ty.int IntKind.i64) (Ty.pair (Ty.int IntKind.i64) (Ty.int IntKind.i64))))))) => (x.fst, List.map (fun (x : T (Ty.vslice 150 (Ty.pair (Ty.int IntKind.i64) (Ty.pair (Ty.int IntKind.i64) (Ty.pair (Ty.int IntKind.i64) (Ty.int IntKind.i64)))))) => List.map (fun (x : T (Ty.pair (Ty.int IntKind.i64) (Ty.pair (Ty.int IntKind.i64) (Ty.pair (Ty.int IntKind.i64) (Ty.int IntKind.i64))))) => (x.fst, x.snd.fst, x.snd.snd.fst, x.snd.snd.snd)) (List.take x.snd x.fst)) (List.take x.snd.fst.snd x.snd.fst.fst), (x.snd.snd.fst.fst, List.map (fun (x : T (Ty.int IntKind.i64)) => x) (List.take x.snd.snd.fst.snd.fst.snd x.snd.snd.fst.snd.fst.fst), List.map (fun (x : T (Ty.int IntKind.i64)) => x) (List.take x.snd.snd.fst.snd.snd.snd x.snd.snd.fst.snd.snd.fst)), x.snd.snd.snd.fst, x.snd.snd.snd.snd.fst, x.snd.snd.snd.snd.snd)) (List.take r7.snd r7.fst))).bind fun r8 =>
          bif !decide (r8.fst = r2.fst) then
            some false
          else
            bif !r8.snd == r2.snd then
              some false
            else
              some true
def s6 : Spec := ⟨false, [(.bool, false)], true, .bool, fun k xs => match xs with | [.slc 105 (.pair (.str) (.pair (.slice 202 (.slice 233 (.pair (.int .i64) (.pair (.int .i64) (.pair (.int .i64) (.int .i64)))))) (.pair (.pair (.int .i64) (.pair (.slice 3 (.int .i64)) (.slice 3 (.int .i64)))) (.pair (.int .i64) (.pair (.int .i64) (.int .i64)))))) aL] => f6 k aL | _ => none⟩
def env63 : List (FuncId × Spec) := (6, s6) :: env62
theorem v6 (k : Nat) (aL : List (ByteArray × (List (List (Int × Int × Int × Int))) × (Int × (List (Int)) × List (Int)) × Int × Int × Int)) : runFn tiV (envOf env62) 56 [] (finT tiV true Go.Proofs.Try.f6.results.toList [(.bool, false)] (.bool)) k (bodyOf Go.Proofs.Try.f6) (initS 0 [.slc 105 (.pair (.str) (.pair (.slice 202 (.slice 233 (.pair (.int .i64) (.pair (.int .i64) (.pair (.int .i64) (.int .i64)))))) (.pair (.pair (.int .i64) (.pair (.slice 3 (.int .i64)) (.slice 3 (.int .i64)))) (.pair (.int .i64) (.pair (.int .i64) (.int .i64)))))) aL]) = f6 k aL := by kernel_rfl
theorem m6 : Meets Go.Proofs.Try.prog 6 s6 := meets_of_run tiVOk env62_ok mo Go.Proofs.Try.func6 (body := bodyOf Go.Proofs.Try.f6) (by kernel_rfl) (N := 56) (by kernel_rfl) (hs := []) (by
  intro k xs r h
  unfold s6 at h
  dsimp only at h
  split at h
  · exact ⟨Nat.le_of_ble_eq_true rfl, (v6 k _).trans h⟩
  · cases h)
theorem env63_ok : EnvOk Go.Proofs.Try.prog (envOf env63) := envOf_cons m6 Go.Proofs.Try.func6 (by kernel_rfl) (by kernel_rfl) env62_ok

-- spec.IsCatalogue
def f23 (k : Nat) (l : List (ByteArray × (List (List (Int × Int × Int × Int))) × (Int × (List (Int)) × List (Int)) × Int × Int × Int)) : Option (Bool) :=
  (f83 k l).bind fun r0 =>
  some r0
def s23 : Spec := ⟨false, [(.bool, false)], true, .bool, fun k xs => match xs with | [.slc 108 (.pair (.str) (.pair (.slice 152 (.slice 150 (.pair (.int .i64) (.pair (.int .i64) (.pair (.int .i64) (.int .i64)))))) (.pair (.pair (.int .i64) (.pair (.slice 3 (.int .i64)) (.slice 3 (.int .i64)))) (.pair (.int .i64) (.pair (.int .i64) (.int .i64)))))) l] => f23 k l | _ => none⟩
def env64 : List (FuncId × Spec) := (23, s23) :: env63
theorem v23 (k : Nat) (l : List (ByteArray × (List (List (Int × Int × Int × Int))) × (Int × (List (Int)) × List (Int)) × Int × Int × Int)) : runFn ti (envOf env63) 5 [] (finT ti true Go.Proofs.Try.f23.results.toList [(.bool, false)] (.bool)) k (bodyOf Go.Proofs.Try.f23) (initS 0 [.slc 108 (.pair (.str) (.pair (.slice 152 (.slice 150 (.pair (.int .i64) (.pair (.int .i64) (.pair (.int .i64) (.int .i64)))))) (.pair (.pair (.int .i64) (.pair (.slice 3 (.int .i64)) (.slice 3 (.int .i64)))) (.pair (.int .i64) (.pair (.int .i64) (.int .i64)))))) l]) = f23 k l := by kernel_rfl
theorem m23 : Meets Go.Proofs.Try.prog 23 s23 := meets_of_run tiOk env63_ok mo Go.Proofs.Try.func23 (body := bodyOf Go.Proofs.Try.f23) (by kernel_rfl) (N := 5) (by kernel_rfl) (hs := []) (by
  intro k xs r h
  unfold s23 at h
  dsimp only at h
  split at h
  · exact ⟨Nat.le_of_ble_eq_true rfl, (v23 k _).trans h⟩
  · cases h)
theorem env64_ok : EnvOk Go.Proofs.Try.prog (envOf env64) := envOf_cons m23 Go.Proofs.Try.func23 (by kernel_rfl) (by kernel_rfl) env63_ok

-- impl.IsCatalogue
def f25 (k : Nat) (l : List (ByteArray × (List (List (Int × Int × Int × Int))) × (Int × (List (Int)) × List (Int)) × Int × Int × Int)) : Option (Bool) :=
  (f86 k l).bind fun r0 =>
  some r0
def s25 : Spec := ⟨false, [(.bool, false)], true, .bool, fun k xs => match xs with | [.slc 108 (.pair (.str) (.pair (.slice 152 (.slice 150 (.pair (.int .i64) (.pair (.int .i64) (.pair (.int .i64) (.int .i64)))))) (.pair (.pair (.int .i64) (.pair (.slice 3 (.int .i64)) (.slice 3 (.int .i64)))) (.pair (.int .i64) (.pair (.int .i64) (.int .i64)))))) l] => f25 k l | _ => none⟩
def env65 : List (FuncId × Spec) := (25, s25) :: env64
theorem v25 (k : Nat) (l : List (ByteArray × (List (List (Int × Int × Int × Int))) × (Int × (List (Int)) × List (Int)) × Int × Int × Int)) : runFn ti (envOf env64) 5 [] (finT ti true Go.Proofs.Try.f25.results.toList [(.bool, false)] (.bool)) k (bodyOf Go.Proofs.Try.f25) (initS 0 [.slc 108 (.pair (.str) (.pair (.slice 152 (.slice 150 (.pair (.int .i64) (.pair (.int .i64) (.pair (.int .i64) (.int .i64)))))) (.pair (.pair (.int .i64) (.pair (.slice 3 (.int .i64)) (.slice 3 (.int .i64)))) (.pair (.int .i64) (.pair (.int .i64) (.int .i64)))))) l]) = f25 k l := by kernel_rfl
theorem m25 : Meets Go.Proofs.Try.prog 25 s25 := meets_of_run tiOk env64_ok mo Go.Proofs.Try.func25 (body := bodyOf Go.Proofs.Try.f25) (by kernel_rfl) (N := 5) (by kernel_rfl) (hs := []) (by
  intro k xs r h
  unfold s25 at h
  dsimp only at h
  split at h
  · exact ⟨Nat.le_of_ble_eq_true rfl, (v25 k _).trans h⟩
  · cases h)
theorem env65_ok : EnvOk Go.Proofs.Try.prog (envOf env65) := envOf_cons m25 Go.Proofs.Try.func25 (by kernel_rfl) (by kernel_rfl) env64_ok

-- laws.FnExactIsCatalogue
def f5 (k : Nat) (aL : List (ByteArray × (List (List (Int × Int × Int × Int))) × (Int × (List (Int)) × List (Int)) × Int × Int × Int)) : Option (Bool) :=
  (f22 k aL 1000000).bind fun r0 =>
  bif decide (r0 < 0) then
    some true
  else
    (f24 k aL false).bind fun r1 =>
    (f23 k (List.map (fun (x : T (Ty.pair Ty.str (Ty.pair (Ty.vslice 152 (Ty.vslice 150 (Ty.pair (Ty.int IntKind.i64) (Ty.pair (Ty.int IntKind.i64) (Ty.pair (Ty.int IntKind.i64) (Ty.int IntKind.i64)))))) (Ty.pair (Ty.pair (Ty.int IntKind.i64) (Ty.pair (Ty.vslice 3 (Ty.int IntKind.i64)) (Ty.vslice 3 (Ty.int IntKind.i64)))) (Ty.pair (Ty.int IntKind.i64) (Ty.pair (Ty.int IntKind.i64) (Ty.int IntKind.i64))))))) => (x.fst, List.map (fun (x : T (Ty.vslice 150 (Ty.pair (Ty.int IntKind.i64) (Ty.pair (Ty.int IntKind.i64) (Ty.pair (Ty.int IntKind.i64) (Ty.int IntKind.i64)))))) => List.map (fun (x : T (Ty.pair (Ty.int IntKind.i64) (Ty.pair (Ty.int IntKind.i64) (Ty.pair (Ty.int IntKind.i64) (Ty.int IntKind.i64))))) => (x.fst, x.snd.fst, x.snd.snd.fst, x.snd.snd.snd)) (List.take x.snd x.fst)) (List.take x.snd.fst.snd x.snd.fst.fst), (x.snd.snd.fst.fst, List.map (fun (x : T (Ty.int IntKind.i64)) => x) (List.take x.snd.snd.fst.snd.fst.snd x.snd.snd.fst.snd.fst.fst), List.map (fun (x : T (Ty.int IntKind.i64)) => x) (List.take x.snd.snd.fst.snd.snd.snd x.snd.snd.fst.snd.snd.fst)), x.snd.snd.snd.fst, x.snd.snd.snd.snd.fst, x.snd.snd.snd.snd.snd)) (List.take r1.snd r1.fst))).bind fun r2 =>
    (f24 k aL false).bind fun r3 =>
    (f25 k (List.map (fun (x : T (Ty.pair Ty.str (Ty.pair (Ty.vslice 152 (Ty.vslice 150 (Ty.pair (Ty.int IntKind.i64) (Ty.pair (Ty.int IntKind.i64) (Ty.pair (Ty.int IntKind.i64) (Ty.int IntKind.i64)))))) (Ty.pair (Ty.pair (Ty.int IntKind.i64) (Ty.pair (Ty.vslice 3 (Ty.int IntKind.i64)) (Ty.vslice 3 (Ty.int IntKind.i64)))) (Ty.pair (Ty.int IntKind.i64) (Ty.pair (Ty.int IntKind.i64) (Ty.int IntKind.i64))))))) => (x.fst, List.map (fun (x : T (Ty.vslice 150 (Ty.pair (Ty.int IntKind.i64) (Ty.pair (Ty.int IntKind.i64) (Ty.pair (Ty.int IntKind.i64) (Ty.int IntKind.i64)))))) => List.map (fun (x : T (Ty.pair (Ty.int IntKind.i64) (Ty.pair (Ty.int IntKind.i64) (Ty.pair (Ty.int IntKind.i64) (Ty.int IntKind.i64))))) => (x.fst, x.snd.fst, x.snd.snd.fst, x.snd.snd.snd)) (List.take x.snd x.fst)) (List.take x.snd.fst.snd x.snd.fst.fst), (x.snd.snd.fst.fst, List.map (fun (x : T (Ty.int IntKind.i64)) => x) (List.take x.snd.snd.fst.snd.fst.snd x.snd.snd.fst.snd.fst.fst), List.map (fun (x : T (Ty.int IntKind.i64)) => x) (List.take x.snd.snd.fst.snd.snd.snd x.snd.snd.fst.snd.snd.fst)), x.snd.snd.snd.fst, x.snd.snd.snd.snd.fst, x.snd.snd.snd.snd.snd)) (List.take r3.snd r3.fst))).bind fun r4 =>
    bif !r4 == r2 then
      some false
    else
      (f24 k aL false).bind fun r5 =>
      (f26 k r3.fst r3.snd r5.fst r5.snd).bind fun r6 =>
      bif !r6 then
        some false
      else
        (f24 k aL true).bind fun r7 =>
        (f25 k (List.map (fun (x : T (Ty.pair Ty.str (Ty.pair (Ty.vslice 152 (Ty.vslice 150 (Ty.pair (Ty.int IntKind.i64) (Ty.pair (Ty.int IntKind.i64) (Ty.pair (Ty.int IntKind.i64) (Ty.int IntKind.i64)))))) (Ty.pair (Ty.pair (Ty.int IntKind.i64) (Ty.pair (Ty.vslice 3 (Ty.int IntKind.i64)) (Ty.vslice 3 (Ty.int IntKind.i64)))) (Ty.pair (Ty.int IntKind.i64) (Ty.pair (Ty.int IntKind.i64) (Ty.int IntKind.i64))))))) => (x.fst, List.map (fun (x : T (Ty.vslice 150 (Ty.pair (Ty.int IntKind.i64) (Ty.pair (Ty.int IntKind.i64) (Ty.pair (Ty.int IntKind.i64) (Ty.int IntKind.i64)))))) => List.map (fun (x : T (Ty.pair (Ty.int IntKind.i64) (Ty.pair (Ty.int IntKind.i64) (Ty.pair (Ty.int IntKind.i64) (Ty.int IntKind.i64))))) => (x.fst, x.snd.fst, x.snd.snd.fst, x.snd.snd.snd)) (List.take x.snd x.fst)) (List.take x.snd.fst.snd x.snd.fst.fst), (x.snd.snd.fst.fst, List.map (fun (x : T (Ty.int IntKind.i64)) => x) (List.take x.snd.snd.fst.snd.fst.snd x.snd.snd.fst.snd.fst.fst), List.map (fun (x : T (Ty.int IntKind.i64)) => x) (List.take x.snd.snd.fst.snd.snd.snd x.snd.snd.fst.snd.snd.fst)), x.snd.snd.snd.fst, x.snd.snd.snd.snd.fst, x.snd.snd.snd.snd.snd)) (List.take r7.snd r7.fst))).bind fun r8 =>
        bif !r8 == r2 then
          some false
        else
          some true
def s5 : Spec := ⟨false, [(.bool, false)], true, .bool, fun k xs => match xs with | [.slc 105 (.pair (.str) (.pair (.slice 202 (.slice 233 (.pair (.int .i64) (.pair (.int .i64) (.pair (.int .i64) (.int .i64)))))) (.pair (.pair (.int .i64) (.pair (.slice 3 (.int .i64)) (.slice 3 (.int .i64)))) (.pair (.int .i64) (.pair (.int .i64) (.int .i64)))))) aL] => f5 k aL | _ => none⟩
def env66 : List (FuncId × Spec) := (5, s5) :: env65
theorem v5 (k : Nat) (aL : List (ByteArray × (List (List (Int × Int × Int × Int))) × (Int × (List (Int)) × List (Int)) × Int × Int × Int)) : runFn tiV (envOf env65) 34 [] (finT tiV true Go.Proofs.Try.f5.results.toList [(.bool, false)] (.bool)) k (bodyOf Go.Proofs.Try.f5) (initS 0 [.slc 105 (.pair (.str) (.pair (.slice 202 (.slice 233 (.pair (.int .i64) (.pair (.int .i64) (.pair (.int .i64) (.int .i64)))))) (.pair (.pair (.int .i64) (.pair (.slice 3 (.int .i64)) (.slice 3 (.int .i64)))) (.pair (.int .i64) (.pair (.int .i64) (.int .i64)))))) aL]) = f5 k aL := by kernel_rfl
theorem m5 : Meets Go.Proofs.Try.prog 5 s5 := meets_of_run tiVOk env65_ok mo Go.Proofs.Try.func5 (body := bodyOf Go.Proofs.Try.f5) (by kernel_rfl) (N := 34) (by kernel_rfl) (hs := []) (by
  intro k xs r h
  unfold s5 at h
  dsimp only at h
  split at h
  · exact ⟨Nat.le_of_ble_eq_true rfl, (v5 k _).trans h⟩
  · cases h)
theorem env66_ok : EnvOk Go.Proofs.Try.prog (envOf env66) := envOf_cons m5 Go.Proofs.Try.func5 (by kernel_rfl) (by kernel_rfl) env65_ok

end Go.Proofs.YtbaeikcfchiiaaaE
