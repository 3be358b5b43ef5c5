/- Functions, by the engine; printed. -/
import Derived.Test.YtchdegcfohegfaaBL1
set_option maxRecDepth 100000
set_option maxHeartbeats 4000000
set_option linter.unusedVariables false
namespace Go.Proofs.YtchdegcfohegfaaE
-- laws.eqNode
noncomputable def f71 (k : Nat) (a_Kind : Int) (a_Number : Int) (b_Kind : Int) (b_Number : Int) : Option (Bool) :=
  bif !decide (a_Kind = b_Kind) then
    some false
  else
    bif !decide (a_Number = b_Number) then
      some false
    else
      some true
noncomputable def s71 : Spec := ⟨false, [(.bool, false)], true, .bool, fun k xs => match xs with | [.agg [.int .i64 a_Kind, .int .i64 a_Number], .agg [.int .i64 b_Kind, .int .i64 b_Number]] => f71 k a_Kind a_Number b_Kind b_Number | _ => none, false, none, false⟩
noncomputable def env13 : List (FuncId × Spec) := (71, s71) :: env12
theorem v71 (k : Nat) (a_Kind : Int) (a_Number : Int) (b_Kind : Int) (b_Number : Int) : runFn ti (envOf env12) 15 [] (finT ti true Go.Proofs.Try.f71.results.toList [(.bool, false)] (.bool)) k (bodyOf Go.Proofs.Try.f71) (initS 0 [.agg [.int .i64 a_Kind, .int .i64 a_Number], .agg [.int .i64 b_Kind, .int .i64 b_Number]]) = f71 k a_Kind a_Number b_Kind b_Number := by kernel_rfl
theorem m71 : Meets Go.Proofs.Try.prog 71 s71 := meets_of_run tiOk env12_ok mo Go.Proofs.Try.func71 (body := bodyOf Go.Proofs.Try.f71) (by kernel_rfl) (N := 15) (by kernel_rfl) (hs := []) (by
  intro k xs r h
  unfold s71 at h
  dsimp only at h
  split at h
  · exact ⟨Nat.le_of_ble_eq_true rfl, (v71 k _ _ _ _).trans h⟩
  · cases h)
theorem env13_ok : EnvOk Go.Proofs.Try.prog (envOf env13) := envOf_cons m71 Go.Proofs.Try.func71 (by kernel_rfl) (by kernel_rfl) env12_ok

-- laws.eqNodeS
def h43 : Hints := [(1004, .lab [(0, .one (.frz 57 (Ty.pair (Ty.int IntKind.i64) (Ty.int IntKind.i64)))), (1, .one (.frz 57 (Ty.pair (Ty.int IntKind.i64) (Ty.int IntKind.i64)))), (5, .one (.v))])]
noncomputable def F43_1004 (k : Nat) (rec1004 : List (Int × Int) → List (Int × Int) → Int → Option (Bool)) (a : List (Int × Int)) (b : List (Int × Int)) (i : Int) : Option (Bool) :=
  bif decide (i < (↑(List.length a) : Int)) then
    bif boundA i (List.length a) then
      bif boundA i (List.length b) then
        (f71 k (List.getD a (Int.toNat i) (0, 0)).fst (List.getD a (Int.toNat i) (0, 0)).snd (List.getD b (Int.toNat i) (0, 0)).fst (List.getD b (Int.toNat i) (0, 0)).snd).bind fun r0 =>
        bif !r0 then
          some false
        else
          rec1004 a b (IntKind.wrap IntKind.i64 (i + 1))
      else
        none
    else
      none
  else
    some true
noncomputable def F43 (k : Nat) (rec1004 : List (Int × Int) → List (Int × Int) → Int → Option (Bool)) (a : List (Int × Int)) (b : List (Int × Int)) : Option (Bool) :=
  bif !decide ((↑(List.length a) : Int) = (↑(List.length b) : Int)) then
    some false
  else
    rec1004 a b (0)
noncomputable def l43 : Nat → (List (Int × Int) → List (Int × Int) → Int → Option (Bool))
  | 0 => fun _ _ _ => none
  | k + 1 => F43_1004 k (l43 k)
noncomputable def f43 (k : Nat) (a : List (Int × Int)) (b : List (Int × Int)) : Option (Bool) := F43 k (l43 k) a b
noncomputable def s43 : Spec := ⟨false, [(.bool, false)], true, .bool, fun k xs => match xs with | [.slc 57 (.pair (.int .i64) (.int .i64)) a, .slc 57 (.pair (.int .i64) (.int .i64)) b] => f43 k a b | _ => none, false, none, false⟩
noncomputable def env14 : List (FuncId × Spec) := (43, s43) :: env13
noncomputable abbrev x43 := exec ti (envOf env13) 27 h43 (finT ti true Go.Proofs.Try.f43.results.toList [(.bool, false)] (.bool))
noncomputable def k43_1004 : List It := stackAt [.r, .r, .l, .r, .b, .lb none] (bodyOf Go.Proofs.Try.f43) []
def t43_1004 (a : List (Int × Int)) (b : List (Int × Int)) (i : Int) : St := [(0, Cell.val (AVal.slc 57 (Ty.pair (Ty.int IntKind.i64) (Ty.int IntKind.i64)) a)), (2, Cell.val (AVal.slc 57 (Ty.pair (Ty.int IntKind.i64) (Ty.int IntKind.i64)) b)), (10, Cell.val (AVal.int IntKind.i64 i))]
theorem e43_1004 (k : Nat) (a : List (Int × Int)) (b : List (Int × Int)) (i : Int) : x43 (k + 1) k43_1004 (t43_1004 a b i) = F43_1004 k (fun (a : List (Int × Int)) (b : List (Int × Int)) (i : Int) => x43 k k43_1004 (t43_1004 a b i)) a b i := by kernel_rfl
theorem q43 : ∀ k : Nat, (fun (a : List (Int × Int)) (b : List (Int × Int)) (i : Int) => x43 k k43_1004 (t43_1004 a b i)) = l43 k
  | 0 => rfl
  | k + 1 => by
    have h := q43 k
    show _ = F43_1004 k (l43 k)
    rw [← h]
    exact (funext fun a => funext fun b => funext fun i => e43_1004 k a b i)
theorem w43 (k : Nat) (a : List (Int × Int)) (b : List (Int × Int)) : runFn ti (envOf env13) 27 h43 (finT ti true Go.Proofs.Try.f43.results.toList [(.bool, false)] (.bool)) k (bodyOf Go.Proofs.Try.f43) (initS 0 [.slc 57 (.pair (.int .i64) (.int .i64)) a, .slc 57 (.pair (.int .i64) (.int .i64)) b]) = F43 k (fun (a : List (Int × Int)) (b : List (Int × Int)) (i : Int) => x43 k k43_1004 (t43_1004 a b i)) a b := by kernel_rfl
theorem v43 (k : Nat) (a : List (Int × Int)) (b : List (Int × Int)) : runFn ti (envOf env13) 27 h43 (finT ti true Go.Proofs.Try.f43.results.toList [(.bool, false)] (.bool)) k (bodyOf Go.Proofs.Try.f43) (initS 0 [.slc 57 (.pair (.int .i64) (.int .i64)) a, .slc 57 (.pair (.int .i64) (.int .i64)) b]) = f43 k a b := by
  rw [w43]
  have h := q43 k
  unfold f43
  rw [← h]
theorem m43 : Meets Go.Proofs.Try.prog 43 s43 := meets_of_run tiOk env13_ok mo Go.Proofs.Try.func43 (body := bodyOf Go.Proofs.Try.f43) (by kernel_rfl) (N := 27) (by kernel_rfl) (hs := h43) (by
  intro k xs r h
  unfold s43 at h
  dsimp only at h
  split at h
  · exact ⟨Nat.le_of_ble_eq_true rfl, (v43 k _ _).trans h⟩
  · cases h)
theorem env14_ok : EnvOk Go.Proofs.Try.prog (envOf env14) := envOf_cons m43 Go.Proofs.Try.func43 (by kernel_rfl) (by kernel_rfl) env13_ok

-- laws.intactNodeS
noncomputable def f15 (k : Nat) (x : List (Int × Int)) (x_n : Nat) (y : List (Int × Int)) (y_n : Nat) : Option (Bool) :=
  (f36 k (↑y_n : Int)).bind fun r0 =>
  bif decide ((↑x_n : Int) = (↑y_n : Int)) then
    bif boundE (IntKind.wrap IntKind.i64 ((↑y_n : Int) + r0)) (List.length x) then
      bif decide (0 ≤ 0) && decide (0 ≤ IntKind.wrap IntKind.i64 ((↑y_n : Int) + r0)) then
        bif boundE (IntKind.wrap IntKind.i64 ((↑y_n : Int) + r0)) (List.length y) then
          bif decide (0 ≤ 0) && decide (0 ≤ IntKind.wrap IntKind.i64 ((↑y_n : Int) + r0)) then
            (f43 k (List.drop (Int.toNat 0) (List.take (Int.toNat (IntKind.wrap IntKind.i64 ((↑y_n : Int) + r0))) x)) (List.drop (Int.toNat 0) (List.take (Int.toNat (IntKind.wrap IntKind.i64 ((↑y_n : Int) + r0))) y))).bind fun r1 =>
            some r1
          else
            none
        else
          none
      else
        none
    else
      none
  else
    some false
noncomputable def s15 : Spec := ⟨true, [(.bool, false)], true, .bool, fun k xs => match xs with | [.vslc 57 (.pair (.int .i64) (.int .i64)) x x_n, .vslc 57 (.pair (.int .i64) (.int .i64)) y y_n] => f15 k x x_n y y_n | _ => none, false, none, false⟩
noncomputable def env15 : List (FuncId × Spec) := (15, s15) :: env14
theorem v15 (k : Nat) (x : List (Int × Int)) (x_n : Nat) (y : List (Int × Int)) (y_n : Nat) : runFn tiV (envOf env14) 26 [] (finT tiV true Go.Proofs.Try.f15.results.toList [(.bool, false)] (.bool)) k (bodyOf Go.Proofs.Try.f15) (initS 0 [.vslc 57 (.pair (.int .i64) (.int .i64)) x x_n, .vslc 57 (.pair (.int .i64) (.int .i64)) y y_n]) = f15 k x x_n y y_n := by kernel_rfl
theorem m15 : Meets Go.Proofs.Try.prog 15 s15 := meets_of_run tiVOk env14_ok mo Go.Proofs.Try.func15 (body := bodyOf Go.Proofs.Try.f15) (by kernel_rfl) (N := 26) (by kernel_rfl) (hs := []) (by
  intro k xs r h
  unfold s15 at h
  dsimp only at h
  split at h
  · exact ⟨Nat.le_of_ble_eq_true rfl, (v15 k _ _ _ _).trans h⟩
  · cases h)
theorem env15_ok : EnvOk Go.Proofs.Try.prog (envOf env15) := envOf_cons m15 Go.Proofs.Try.func15 (by kernel_rfl) (by kernel_rfl) env14_ok

def o44 (q : T (.slice 3 (.int .i64))) : St := [(3, .row true 3 (.int .i64) (q))]
def p44 (x : St × T (.int .i64)) : Option (T (.slice 3 (.int .i64)) × T (.int .i64)) := match x with | ([(3, .row true 3 (.int .i64) a)], r) => some (a, r) | _ => none
-- laws.markIntS
def h44 : Hints := [(1002, .lab [(0, .one (.view 3 (Ty.int IntKind.i64))), (1, .one (.v)), (5, .one (.v))])]
noncomputable def F44_1002 (k : Nat) (rec1002 : Nat → Int → Int → List Int → Option (((List (Int))) × Int)) (a_n : Nat) (k_ : Int) (i : Int) (p3 : List Int) : Option (((List (Int))) × Int) :=
  bif decide (i < (↑a_n : Int)) then
    bif boundA i a_n then
      bif Nat.ble a_n (List.length p3) then
        bif Nat.blt (Int.toNat i) (List.length p3) then
          rec1002 a_n (IntKind.wrap IntKind.i64 (k_ + 1)) (IntKind.wrap IntKind.i64 (i + 1)) (List.set p3 (Int.toNat i) k_)
        else
          none
      else
        none
    else
      none
  else
    some ((p3, k_))
noncomputable def F44 (k : Nat) (rec1002 : Nat → Int → Int → List Int → Option (((List (Int))) × Int)) (a : List (Int)) (a_n : Nat) (k_ : Int) : Option (((List (Int))) × Int) :=
  rec1002 a_n k_ (0) a
noncomputable def l44 : Nat → (Nat → Int → Int → List Int → Option (((List (Int))) × Int))
  | 0 => fun _ _ _ _ => none
  | k + 1 => F44_1002 k (l44 k)
noncomputable def f44 (k : Nat) (a : List (Int)) (a_n : Nat) (k_ : Int) : Option (((List (Int))) × Int) := F44 k (l44 k) a a_n k_
-- laws.markIntS
def h44_0 : Hints := [(1002, .lab [(0, .one (.own 3 (Ty.int IntKind.i64))), (1, .one (.v)), (5, .one (.v))])]
noncomputable def F44_0_1002 (k : Nat) (rec1002 : Int → Int → List Int → Option (((List (Int))) × Int)) (k_ : Int) (i : Int) (p3 : List Int) : Option (((List (Int))) × Int) :=
  bif decide (i < (↑(List.length p3) : Int)) then
    bif boundA i (List.length p3) then
      bif Nat.blt (Int.toNat i) (List.length p3) then
        rec1002 (IntKind.wrap IntKind.i64 (k_ + 1)) (IntKind.wrap IntKind.i64 (i + 1)) (List.set p3 (Int.toNat i) k_)
      else
        none
    else
      none
  else
    some ((p3, k_))
noncomputable def F44_0 (k : Nat) (rec1002 : Int → Int → List Int → Option (((List (Int))) × Int)) (a : List (Int)) (k_ : Int) : Option (((List (Int))) × Int) :=
  rec1002 k_ (0) a
noncomputable def l44_0 : Nat → (Int → Int → List Int → Option (((List (Int))) × Int))
  | 0 => fun _ _ _ => none
  | k + 1 => F44_0_1002 k (l44_0 k)
noncomputable def f44_0 (k : Nat) (a : List (Int)) (k_ : Int) : Option (((List (Int))) × Int) := F44_0 k (l44_0 k) a k_
noncomputable def g44 (k : Nat) (os : St) (xs : List AVal) : Option (T (.slice 3 (.int .i64)) × T (.int .i64)) := match os, xs with | [(3, .row true 3 (.int .i64) a)], [.ref 3 (some a_n), .int .i64 k_] => f44 k a a_n k_ | [(3, .row true 3 (.int .i64) a)], [.ref 3 none, .int .i64 k_] => f44_0 k a k_ | _, _ => none
noncomputable def s44 : Spec := ⟨false, [(.int .i64, false)], true, .int .i64, fun _ _ => none, false, some ⟨.slice 3 (.int .i64), g44, o44⟩, false⟩
noncomputable def env16 : List (FuncId × Spec) := (44, s44) :: env15
noncomputable abbrev x44 := exec ti (envOf env15) 19 h44 (finJ ti Go.Proofs.Try.f44.results.toList [(.int .i64, false)] (.int .i64) [3] p44)
noncomputable def k44_1002 : List It := stackAt [.r, .l, .r, .b, .lb none] (bodyOf Go.Proofs.Try.f44) []
def t44_1002 (a_n : Nat) (k_ : Int) (i : Int) (p3 : List Int) : St := [(0, Cell.val (AVal.ref 3 (some a_n))), (2, Cell.val (AVal.int IntKind.i64 k_)), (10, Cell.val (AVal.int IntKind.i64 i)), (3, Cell.row true 3 (Ty.int IntKind.i64) p3)]
theorem e44_1002 (k : Nat) (a_n : Nat) (k_ : Int) (i : Int) (p3 : List Int) : x44 (k + 1) k44_1002 (t44_1002 a_n k_ i p3) = F44_1002 k (fun (a_n : Nat) (k_ : Int) (i : Int) (p3 : List Int) => x44 k k44_1002 (t44_1002 a_n k_ i p3)) a_n k_ i p3 := by kernel_rfl
theorem q44 : ∀ k : Nat, (fun (a_n : Nat) (k_ : Int) (i : Int) (p3 : List Int) => x44 k k44_1002 (t44_1002 a_n k_ i p3)) = l44 k
  | 0 => rfl
  | k + 1 => by
    have h := q44 k
    show _ = F44_1002 k (l44 k)
    rw [← h]
    exact (funext fun a_n => funext fun k_ => funext fun i => funext fun p3 => e44_1002 k a_n k_ i p3)
theorem w44 (k : Nat) (a : List (Int)) (a_n : Nat) (k_ : Int) : runFn ti (envOf env15) 19 h44 (finJ ti Go.Proofs.Try.f44.results.toList [(.int .i64, false)] (.int .i64) [3] p44) k (bodyOf Go.Proofs.Try.f44) ([(3, .row true 3 (.int .i64) a)] ++ initS 0 [.ref 3 (some a_n), .int .i64 k_]) = F44 k (fun (a_n : Nat) (k_ : Int) (i : Int) (p3 : List Int) => x44 k k44_1002 (t44_1002 a_n k_ i p3)) a a_n k_ := by kernel_rfl
theorem v44 (k : Nat) (a : List (Int)) (a_n : Nat) (k_ : Int) : runFn ti (envOf env15) 19 h44 (finJ ti Go.Proofs.Try.f44.results.toList [(.int .i64, false)] (.int .i64) [3] p44) k (bodyOf Go.Proofs.Try.f44) ([(3, .row true 3 (.int .i64) a)] ++ initS 0 [.ref 3 (some a_n), .int .i64 k_]) = f44 k a a_n k_ := by
  rw [w44]
  have h := q44 k
  unfold f44
  rw [← h]
noncomputable abbrev x44_0 := exec ti (envOf env15) 19 h44_0 (finJ ti Go.Proofs.Try.f44.results.toList [(.int .i64, false)] (.int .i64) [3] p44)
noncomputable def k44_0_1002 : List It := stackAt [.r, .l, .r, .b, .lb none] (bodyOf Go.Proofs.Try.f44) []
def t44_0_1002 (k_ : Int) (i : Int) (p3 : List Int) : St := [(0, Cell.val (AVal.ref 3 none)), (2, Cell.val (AVal.int IntKind.i64 k_)), (10, Cell.val (AVal.int IntKind.i64 i)), (3, Cell.row true 3 (Ty.int IntKind.i64) p3)]
theorem e44_0_1002 (k : Nat) (k_ : Int) (i : Int) (p3 : List Int) : x44_0 (k + 1) k44_0_1002 (t44_0_1002 k_ i p3) = F44_0_1002 k (fun (k_ : Int) (i : Int) (p3 : List Int) => x44_0 k k44_0_1002 (t44_0_1002 k_ i p3)) k_ i p3 := by kernel_rfl
theorem q44_0 : ∀ k : Nat, (fun (k_ : Int) (i : Int) (p3 : List Int) => x44_0 k k44_0_1002 (t44_0_1002 k_ i p3)) = l44_0 k
  | 0 => rfl
  | k + 1 => by
    have h := q44_0 k
    show _ = F44_0_1002 k (l44_0 k)
    rw [← h]
    exact (funext fun k_ => funext fun i => funext fun p3 => e44_0_1002 k k_ i p3)
theorem w44_0 (k : Nat) (a : List (Int)) (k_ : Int) : runFn ti (envOf env15) 19 h44_0 (finJ ti Go.Proofs.Try.f44.results.toList [(.int .i64, false)] (.int .i64) [3] p44) k (bodyOf Go.Proofs.Try.f44) ([(3, .row true 3 (.int .i64) a)] ++ initS 0 [.ref 3 none, .int .i64 k_]) = F44_0 k (fun (k_ : Int) (i : Int) (p3 : List Int) => x44_0 k k44_0_1002 (t44_0_1002 k_ i p3)) a k_ := by kernel_rfl
theorem v44_0 (k : Nat) (a : List (Int)) (k_ : Int) : runFn ti (envOf env15) 19 h44_0 (finJ ti Go.Proofs.Try.f44.results.toList [(.int .i64, false)] (.int .i64) [3] p44) k (bodyOf Go.Proofs.Try.f44) ([(3, .row true 3 (.int .i64) a)] ++ initS 0 [.ref 3 none, .int .i64 k_]) = f44_0 k a k_ := by
  rw [w44_0]
  have h := q44_0 k
  unfold f44_0
  rw [← h]
theorem hp44 : ∀ x q, p44 x = some q → (o44 q.1, q.2) = x := by
  intro x q h
  unfold p44 at h
  split at h
  · cases h
    rfl
  · cases h
theorem m44 : MeetsIO Go.Proofs.Try.prog 44 [(.int .i64, false)] (.int .i64) (IO.G ⟨.slice 3 (.int .i64), g44, o44⟩) := meets_io_of_run tiOk env15_ok mo Go.Proofs.Try.func44 (body := bodyOf Go.Proofs.Try.f44) (by kernel_rfl) (N := 19) (by kernel_rfl) (pick := p44) (by kernel_rfl) hp44 (by
  intro k os xs r h
  have h : g44 k os xs = some r := h
  unfold g44 at h
  split at h
  · exact ⟨Nat.le_of_ble_eq_true rfl, by kernel_rfl, h44, (v44 k _ _ _).trans h⟩
  · exact ⟨Nat.le_of_ble_eq_true rfl, by kernel_rfl, h44_0, (v44_0 k _ _).trans h⟩
  · cases h)
theorem env16_ok : EnvOk Go.Proofs.Try.prog (envOf env16) := envOf_io rfl m44 Go.Proofs.Try.func44 (by kernel_rfl) (by kernel_rfl) env15_ok

def o16 (q : T (.pair (.slice 3 (.int .i64)) (.slice 3 (.int .i64)))) : St := [(3, .row true 3 (.int .i64) (q.1)), (5, .row true 3 (.int .i64) (q.2))]
def p16 (x : St × T (.int .i64)) : Option (T (.pair (.slice 3 (.int .i64)) (.slice 3 (.int .i64))) × T (.int .i64)) := match x with | ([(3, .row true 3 (.int .i64) a_Low), (5, .row true 3 (.int .i64) a_High)], r) => some ((a_Low, a_High), r) | _ => none
-- laws.markBox
noncomputable def f16 (k : Nat) (a_Low : List (Int)) (a_High : List (Int)) (a_K : Int) (a_Low_n : Nat) (a_High_n : Nat) (k_ : Int) : Option (((List (Int)) × (List (Int))) × Int) :=
  (f44 k a_Low a_Low_n k_).bind fun r0 =>
  (f44 k a_High a_High_n r0.snd).bind fun r1 =>
  some (((r0.fst, r1.fst), r1.snd))
-- laws.markBox
noncomputable def f16_0 (k : Nat) (a_Low : List (Int)) (a_High : List (Int)) (a_K : Int) (k_ : Int) : Option (((List (Int)) × (List (Int))) × Int) :=
  (f44_0 k a_Low k_).bind fun r0 =>
  (f44_0 k a_High r0.snd).bind fun r1 =>
  some (((r0.fst, r1.fst), r1.snd))
noncomputable def g16 (k : Nat) (os : St) (xs : List AVal) : Option (T (.pair (.slice 3 (.int .i64)) (.slice 3 (.int .i64))) × T (.int .i64)) := match os, xs with | [(3, .row true 3 (.int .i64) a_Low), (5, .row true 3 (.int .i64) a_High)], [.agg [.int .i64 a_K, .ref 3 (some a_Low_n), .ref 5 (some a_High_n)], .int .i64 k_] => f16 k a_Low a_High a_K a_Low_n a_High_n k_ | [(3, .row true 3 (.int .i64) a_Low), (5, .row true 3 (.int .i64) a_High)], [.agg [.int .i64 a_K, .ref 3 none, .ref 5 none], .int .i64 k_] => f16_0 k a_Low a_High a_K k_ | _, _ => none
noncomputable def s16 : Spec := ⟨false, [(.int .i64, false)], true, .int .i64, fun _ _ => none, false, some ⟨.pair (.slice 3 (.int .i64)) (.slice 3 (.int .i64)), g16, o16⟩, false⟩
noncomputable def env17 : List (FuncId × Spec) := (16, s16) :: env16
theorem v16 (k : Nat) (a_Low : List (Int)) (a_High : List (Int)) (a_K : Int) (a_Low_n : Nat) (a_High_n : Nat) (k_ : Int) : runFn ti (envOf env16) 14 [] (finJ ti Go.Proofs.Try.f16.results.toList [(.int .i64, false)] (.int .i64) [3, 5] p16) k (bodyOf Go.Proofs.Try.f16) ([(3, .row true 3 (.int .i64) a_Low), (5, .row true 3 (.int .i64) a_High)] ++ initS 0 [.agg [.int .i64 a_K, .ref 3 (some a_Low_n), .ref 5 (some a_High_n)], .int .i64 k_]) = f16 k a_Low a_High a_K a_Low_n a_High_n k_ := by kernel_rfl
theorem v16_0 (k : Nat) (a_Low : List (Int)) (a_High : List (Int)) (a_K : Int) (k_ : Int) : runFn ti (envOf env16) 14 [] (finJ ti Go.Proofs.Try.f16.results.toList [(.int .i64, false)] (.int .i64) [3, 5] p16) k (bodyOf Go.Proofs.Try.f16) ([(3, .row true 3 (.int .i64) a_Low), (5, .row true 3 (.int .i64) a_High)] ++ initS 0 [.agg [.int .i64 a_K, .ref 3 none, .ref 5 none], .int .i64 k_]) = f16_0 k a_Low a_High a_K k_ := by kernel_rfl
theorem hp16 : ∀ x q, p16 x = some q → (o16 q.1, q.2) = x := by
  intro x q h
  unfold p16 at h
  split at h
  · cases h
    rfl
  · cases h
theorem m16 : MeetsIO Go.Proofs.Try.prog 16 [(.int .i64, false)] (.int .i64) (IO.G ⟨.pair (.slice 3 (.int .i64)) (.slice 3 (.int .i64)), g16, o16⟩) := meets_io_of_run tiOk env16_ok mo Go.Proofs.Try.func16 (body := bodyOf Go.Proofs.Try.f16) (by kernel_rfl) (N := 14) (by kernel_rfl) (pick := p16) (by kernel_rfl) hp16 (by
  intro k os xs r h
  have h : g16 k os xs = some r := h
  unfold g16 at h
  split at h
  · exact ⟨Nat.le_of_ble_eq_true rfl, by kernel_rfl, [], (v16 k _ _ _ _ _ _).trans h⟩
  · exact ⟨Nat.le_of_ble_eq_true rfl, by kernel_rfl, [], (v16_0 k _ _ _ _).trans h⟩
  · cases h)
theorem env17_ok : EnvOk Go.Proofs.Try.prog (envOf env17) := envOf_io rfl m16 Go.Proofs.Try.func16 (by kernel_rfl) (by kernel_rfl) env16_ok

def o17 (q : T (.slice 57 (.pair (.int .i64) (.int .i64)))) : St := [(3, .row true 57 (.pair (.int .i64) (.int .i64)) (q))]
def p17 (x : St × T (.int .i64)) : Option (T (.slice 57 (.pair (.int .i64) (.int .i64))) × T (.int .i64)) := match x with | ([(3, .row true 57 (.pair (.int .i64) (.int .i64)) a)], r) => some (a, r) | _ => none
-- laws.markNodeS
def h17 : Hints := [(1002, .lab [(0, .one (.view 57 (Ty.pair (Ty.int IntKind.i64) (Ty.int IntKind.i64)))), (1, .one (.v)), (5, .one (.v))])]
noncomputable def F17_1002 (k : Nat) (rec1002 : Nat → Int → Int → List (Int × Int) → Option (((List (Int × Int))) × Int)) (a_n : Nat) (k_ : Int) (i : Int) (p3 : List (Int × Int)) : Option (((List (Int × Int))) × Int) :=
  bif decide (i < (↑a_n : Int)) then
    bif boundA i a_n then
      bif Nat.ble a_n (List.length p3) then
        bif Nat.blt (Int.toNat i) (List.length p3) then
          bif boundA i a_n then
            bif Nat.ble a_n (List.length (List.set p3 (Int.toNat i) (k_, (List.getD p3 (Int.toNat i) (0, 0)).snd))) then
              bif Nat.blt (Int.toNat i) (List.length (List.set p3 (Int.toNat i) (k_, (List.getD p3 (Int.toNat i) (0, 0)).snd))) then
                rec1002 a_n (IntKind.wrap IntKind.i64 (IntKind.wrap IntKind.i64 (k_ + 1) + 1)) (IntKind.wrap IntKind.i64 (i + 1)) (List.set (List.set p3 (Int.toNat i) (k_, (List.getD p3 (Int.toNat i) (0, 0)).snd)) (Int.toNat i) ((List.getD (List.set p3 (Int.toNat i) (k_, (List.getD p3 (Int.toNat i) (0, 0)).snd)) (Int.toNat i) (0, 0)).fst, IntKind.wrap IntKind.i64 (k_ + 1)))
              else
                none
            else
              none
          else
            none
        else
          none
      else
        none
    else
      none
  else
    some ((p3, k_))
noncomputable def F17 (k : Nat) (rec1002 : Nat → Int → Int → List (Int × Int) → Option (((List (Int × Int))) × Int)) (a : List (Int × Int)) (a_n : Nat) (k_ : Int) : Option (((List (Int × Int))) × Int) :=
  rec1002 a_n k_ (0) a
noncomputable def l17 : Nat → (Nat → Int → Int → List (Int × Int) → Option (((List (Int × Int))) × Int))
  | 0 => fun _ _ _ _ => none
  | k + 1 => F17_1002 k (l17 k)
noncomputable def f17 (k : Nat) (a : List (Int × Int)) (a_n : Nat) (k_ : Int) : Option (((List (Int × Int))) × Int) := F17 k (l17 k) a a_n k_
-- laws.markNodeS
def h17_0 : Hints := [(1002, .lab [(0, .one (.own 57 (Ty.pair (Ty.int IntKind.i64) (Ty.int IntKind.i64)))), (1, .one (.v)), (5, .one (.v))])]
noncomputable def F17_0_1002 (k : Nat) (rec1002 : Int → Int → List (Int × Int) → Option (((List (Int × Int))) × Int)) (k_ : Int) (i : Int) (p3 : List (Int × Int)) : Option (((List (Int × Int))) × Int) :=
  bif decide (i < (↑(List.length p3) : Int)) then
    bif boundA i (List.length p3) then
      bif Nat.blt (Int.toNat i) (List.length p3) then
        bif boundA i (List.length (List.set p3 (Int.toNat i) (k_, (List.getD p3 (Int.toNat i) (0, 0)).snd))) then
          bif Nat.blt (Int.toNat i) (List.length (List.set p3 (Int.toNat i) (k_, (List.getD p3 (Int.toNat i) (0, 0)).snd))) then
            rec1002 (IntKind.wrap IntKind.i64 (IntKind.wrap IntKind.i64 (k_ + 1) + 1)) (IntKind.wrap IntKind.i64 (i + 1)) (List.set (List.set p3 (Int.toNat i) (k_, (List.getD p3 (Int.toNat i) (0, 0)).snd)) (Int.toNat i) ((List.getD (List.set p3 (Int.toNat i) (k_, (List.getD p3 (Int.toNat i) (0, 0)).snd)) (Int.toNat i) (0, 0)).fst, IntKind.wrap IntKind.i64 (k_ + 1)))
          else
            none
        else
          none
      else
        none
    else
      none
  else
    some ((p3, k_))
noncomputable def F17_0 (k : Nat) (rec1002 : Int → Int → List (Int × Int) → Option (((List (Int × Int))) × Int)) (a : List (Int × Int)) (k_ : Int) : Option (((List (Int × Int))) × Int) :=
  rec1002 k_ (0) a
noncomputable def l17_0 : Nat → (Int → Int → List (Int × Int) → Option (((List (Int × Int))) × Int))
  | 0 => fun _ _ _ => none
  | k + 1 => F17_0_1002 k (l17_0 k)
noncomputable def f17_0 (k : Nat) (a : List (Int × Int)) (k_ : Int) : Option (((List (Int × Int))) × Int) := F17_0 k (l17_0 k) a k_
noncomputable def g17 (k : Nat) (os : St) (xs : List AVal) : Option (T (.slice 57 (.pair (.int .i64) (.int .i64))) × T (.int .i64)) := match os, xs with | [(3, .row true 57 (.pair (.int .i64) (.int .i64)) a)], [.ref 3 (some a_n), .int .i64 k_] => f17 k a a_n k_ | [(3, .row true 57 (.pair (.int .i64) (.int .i64)) a)], [.ref 3 none, .int .i64 k_] => f17_0 k a k_ | _, _ => none
noncomputable def s17 : Spec := ⟨false, [(.int .i64, false)], true, .int .i64, fun _ _ => none, false, some ⟨.slice 57 (.pair (.int .i64) (.int .i64)), g17, o17⟩, false⟩
noncomputable def env18 : List (FuncId × Spec) := (17, s17) :: env17
noncomputable abbrev x17 := exec ti (envOf env17) 27 h17 (finJ ti Go.Proofs.Try.f17.results.toList [(.int .i64, false)] (.int .i64) [3] p17)
noncomputable def k17_1002 : List It := stackAt [.r, .l, .r, .b, .lb none] (bodyOf Go.Proofs.Try.f17) []
def t17_1002 (a_n : Nat) (k_ : Int) (i : Int) (p3 : List (Int × Int)) : St := [(0, Cell.val (AVal.ref 3 (some a_n))), (2, Cell.val (AVal.int IntKind.i64 k_)), (10, Cell.val (AVal.int IntKind.i64 i)), (3, Cell.row true 57 (Ty.pair (Ty.int IntKind.i64) (Ty.int IntKind.i64)) p3)]
theorem e17_1002 (k : Nat) (a_n : Nat) (k_ : Int) (i : Int) (p3 : List (Int × Int)) : x17 (k + 1) k17_1002 (t17_1002 a_n k_ i p3) = F17_1002 k (fun (a_n : Nat) (k_ : Int) (i : Int) (p3 : List (Int × Int)) => x17 k k17_1002 (t17_1002 a_n k_ i p3)) a_n k_ i p3 := by kernel_rfl
theorem q17 : ∀ k : Nat, (fun (a_n : Nat) (k_ : Int) (i : Int) (p3 : List (Int × Int)) => x17 k k17_1002 (t17_1002 a_n k_ i p3)) = l17 k
  | 0 => rfl
  | k + 1 => by
    have h := q17 k
    show _ = F17_1002 k (l17 k)
    rw [← h]
    exact (funext fun a_n => funext fun k_ => funext fun i => funext fun p3 => e17_1002 k a_n k_ i p3)
theorem w17 (k : Nat) (a : List (Int × Int)) (a_n : Nat) (k_ : Int) : runFn ti (envOf env17) 27 h17 (finJ ti Go.Proofs.Try.f17.results.toList [(.int .i64, false)] (.int .i64) [3] p17) k (bodyOf Go.Proofs.Try.f17) ([(3, .row true 57 (.pair (.int .i64) (.int .i64)) a)] ++ initS 0 [.ref 3 (some a_n), .int .i64 k_]) = F17 k (fun (a_n : Nat) (k_ : Int) (i : Int) (p3 : List (Int × Int)) => x17 k k17_1002 (t17_1002 a_n k_ i p3)) a a_n k_ := by kernel_rfl
theorem v17 (k : Nat) (a : List (Int × Int)) (a_n : Nat) (k_ : Int) : runFn ti (envOf env17) 27 h17 (finJ ti Go.Proofs.Try.f17.results.toList [(.int .i64, false)] (.int .i64) [3] p17) k (bodyOf Go.Proofs.Try.f17) ([(3, .row true 57 (.pair (.int .i64) (.int .i64)) a)] ++ initS 0 [.ref 3 (some a_n), .int .i64 k_]) = f17 k a a_n k_ := by
  rw [w17]
  have h := q17 k
  unfold f17
  rw [← h]
noncomputable abbrev x17_0 := exec ti (envOf env17) 27 h17_0 (finJ ti Go.Proofs.Try.f17.results.toList [(.int .i64, false)] (.int .i64) [3] p17)
noncomputable def k17_0_1002 : List It := stackAt [.r, .l, .r, .b, .lb none] (bodyOf Go.Proofs.Try.f17) []
def t17_0_1002 (k_ : Int) (i : Int) (p3 : List (Int × Int)) : St := [(0, Cell.val (AVal.ref 3 none)), (2, Cell.val (AVal.int IntKind.i64 k_)), (10, Cell.val (AVal.int IntKind.i64 i)), (3, Cell.row true 57 (Ty.pair (Ty.int IntKind.i64) (Ty.int IntKind.i64)) p3)]
theorem e17_0_1002 (k : Nat) (k_ : Int) (i : Int) (p3 : List (Int × Int)) : x17_0 (k + 1) k17_0_1002 (t17_0_1002 k_ i p3) = F17_0_1002 k (fun (k_ : Int) (i : Int) (p3 : List (Int × Int)) => x17_0 k k17_0_1002 (t17_0_1002 k_ i p3)) k_ i p3 := by kernel_rfl
theorem q17_0 : ∀ k : Nat, (fun (k_ : Int) (i : Int) (p3 : List (Int × Int)) => x17_0 k k17_0_1002 (t17_0_1002 k_ i p3)) = l17_0 k
  | 0 => rfl
  | k + 1 => by
    have h := q17_0 k
    show _ = F17_0_1002 k (l17_0 k)
    rw [← h]
    exact (funext fun k_ => funext fun i => funext fun p3 => e17_0_1002 k k_ i p3)
theorem w17_0 (k : Nat) (a : List (Int × Int)) (k_ : Int) : runFn ti (envOf env17) 27 h17_0 (finJ ti Go.Proofs.Try.f17.results.toList [(.int .i64, false)] (.int .i64) [3] p17) k (bodyOf Go.Proofs.Try.f17) ([(3, .row true 57 (.pair (.int .i64) (.int .i64)) a)] ++ initS 0 [.ref 3 none, .int .i64 k_]) = F17_0 k (fun (k_ : Int) (i : Int) (p3 : List (Int × Int)) => x17_0 k k17_0_1002 (t17_0_1002 k_ i p3)) a k_ := by kernel_rfl
theorem v17_0 (k : Nat) (a : List (Int × Int)) (k_ : Int) : runFn ti (envOf env17) 27 h17_0 (finJ ti Go.Proofs.Try.f17.results.toList [(.int .i64, false)] (.int .i64) [3] p17) k (bodyOf Go.Proofs.Try.f17) ([(3, .row true 57 (.pair (.int .i64) (.int .i64)) a)] ++ initS 0 [.ref 3 none, .int .i64 k_]) = f17_0 k a k_ := by
  rw [w17_0]
  have h := q17_0 k
  unfold f17_0
  rw [← h]
theorem hp17 : ∀ x q, p17 x = some q → (o17 q.1, q.2) = x := by
  intro x q h
  unfold p17 at h
  split at h
  · cases h
    rfl
  · cases h
theorem m17 : MeetsIO Go.Proofs.Try.prog 17 [(.int .i64, false)] (.int .i64) (IO.G ⟨.slice 57 (.pair (.int .i64) (.int .i64)), g17, o17⟩) := meets_io_of_run tiOk env17_ok mo Go.Proofs.Try.func17 (body := bodyOf Go.Proofs.Try.f17) (by kernel_rfl) (N := 27) (by kernel_rfl) (pick := p17) (by kernel_rfl) hp17 (by
  intro k os xs r h
  have h : g17 k os xs = some r := h
  unfold g17 at h
  split at h
  · exact ⟨Nat.le_of_ble_eq_true rfl, by kernel_rfl, h17, (v17 k _ _ _).trans h⟩
  · exact ⟨Nat.le_of_ble_eq_true rfl, by kernel_rfl, h17_0, (v17_0 k _ _).trans h⟩
  · cases h)
theorem env18_ok : EnvOk Go.Proofs.Try.prog (envOf env18) := envOf_io rfl m17 Go.Proofs.Try.func17 (by kernel_rfl) (by kernel_rfl) env17_ok

-- spec.l1In
noncomputable def f60 (k : Nat) (n : Int) (lo : Int) (hi : Int) : Option (Bool) :=
  bif decide (lo ≤ n) then
    some (decide (n ≤ hi))
  else
    some false
noncomputable def s60 : Spec := ⟨false, [(.bool, false)], true, .bool, fun k xs => match xs with | [.int .i64 n, .int .i64 lo, .int .i64 hi] => f60 k n lo hi | _ => none, false, none, false⟩
noncomputable def env19 : List (FuncId × Spec) := (60, s60) :: env18
theorem v60 (k : Nat) (n : Int) (lo : Int) (hi : Int) : runFn ti (envOf env18) 15 [] (finT ti true Go.Proofs.Try.f60.results.toList [(.bool, false)] (.bool)) k (bodyOf Go.Proofs.Try.f60) (initS 0 [.int .i64 n, .int .i64 lo, .int .i64 hi]) = f60 k n lo hi := by kernel_rfl
theorem m60 : Meets Go.Proofs.Try.prog 60 s60 := meets_of_run tiOk env18_ok mo Go.Proofs.Try.func60 (body := bodyOf Go.Proofs.Try.f60) (by kernel_rfl) (N := 15) (by kernel_rfl) (hs := []) (by
  intro k xs r h
  unfold s60 at h
  dsimp only at h
  split at h
  · exact ⟨Nat.le_of_ble_eq_true rfl, (v60 k _ _ _).trans h⟩
  · cases h)
theorem env19_ok : EnvOk Go.Proofs.Try.prog (envOf env19) := envOf_cons m60 Go.Proofs.Try.func60 (by kernel_rfl) (by kernel_rfl) env18_ok

-- spec.dyPower
noncomputable def f61 (k : Nat) (k_ : Int) : Option (Int) :=
  bif !decide (IntKind.wrap IntKind.u64 k_ < 0) then
    some (IntKind.wrap IntKind.i64 (1 * 2 ^ min (Int.toNat (IntKind.wrap IntKind.u64 k_)) (IntKind.bits IntKind.i64)))
  else
    none
noncomputable def s61 : Spec := ⟨false, [(.int .i64, false)], true, .int .i64, fun k xs => match xs with | [.int .i64 k_] => f61 k k_ | _ => none, false, none, false⟩
noncomputable def env20 : List (FuncId × Spec) := (61, s61) :: env19
theorem v61 (k : Nat) (k_ : Int) : runFn ti (envOf env19) 6 [] (finT ti true Go.Proofs.Try.f61.results.toList [(.int .i64, false)] (.int .i64)) k (bodyOf Go.Proofs.Try.f61) (initS 0 [.int .i64 k_]) = f61 k k_ := by kernel_rfl
theorem m61 : Meets Go.Proofs.Try.prog 61 s61 := meets_of_run tiOk env19_ok mo Go.Proofs.Try.func61 (body := bodyOf Go.Proofs.Try.f61) (by kernel_rfl) (N := 6) (by kernel_rfl) (hs := []) (by
  intro k xs r h
  unfold s61 at h
  dsimp only at h
  split at h
  · exact ⟨Nat.le_of_ble_eq_true rfl, (v61 k _).trans h⟩
  · cases h)
theorem env20_ok : EnvOk Go.Proofs.Try.prog (envOf env20) := envOf_cons m61 Go.Proofs.Try.func61 (by kernel_rfl) (by kernel_rfl) env19_ok

-- spec.bxGood
def h32 : Hints := [(1006, .lab [(1, .box 31 [.v, .frz 3 (Ty.int IntKind.i64), .frz 3 (Ty.int IntKind.i64)]), (3, .one (.v)), (4, .one (.v)), (36, .one (.frz 3 (Ty.int IntKind.i64))), (37, .one (.v)), (38, .one (.v))])]
noncomputable def F32_1006 (k : Nat) (rec1006 : Int → List Int → List Int → Int → Bool → List Int → Int → Int → Option (Bool)) (is_0 : Int) (is_1 : List Int) (is_2 : List Int) (t : Int) (t4 : Bool) (t36 : List Int) (t37 : Int) (t38 : Int) : Option (Bool) :=
  bif decide (t38 < t37) then
    bif boundA t38 (List.length t36) then
      bif boundA t38 (List.length is_2) then
        (f60 k (List.getD t36 (Int.toNat t38) 0) (IntKind.wrap IntKind.i64 (0 - t)) t).bind fun r0 =>
        bif !r0 then
          some false
        else
          (f60 k (List.getD is_2 (Int.toNat t38) 0) (IntKind.wrap IntKind.i64 (0 - t)) t).bind fun r1 =>
          bif !r1 then
            some false
          else
            bif decide (List.getD is_2 (Int.toNat t38) 0 ≤ List.getD t36 (Int.toNat t38) 0) then
              some false
            else
              bif t4 then
                rec1006 is_0 is_1 is_2 t true t36 t37 (IntKind.wrap IntKind.i64 (t38 + 1))
              else
                bif !decide (Int.tmod (List.getD t36 (Int.toNat t38) 0) 2 = 0) then
                  rec1006 is_0 is_1 is_2 t true t36 t37 (IntKind.wrap IntKind.i64 (t38 + 1))
                else
                  rec1006 is_0 is_1 is_2 t (!decide (Int.tmod (List.getD is_2 (Int.toNat t38) 0) 2 = 0)) t36 t37 (IntKind.wrap IntKind.i64 (t38 + 1))
      else
        none
    else
      none
  else
    some t4
noncomputable def F32 (k : Nat) (rec1006 : Int → List Int → List Int → Int → Bool → List Int → Int → Int → Option (Bool)) (L_K : Int) (L_Low : List (Int)) (L_High : List (Int)) : Option (Bool) :=
  (f60 k L_K 0 8).bind fun r0 =>
  bif !r0 then
    some false
  else
    (f60 k (↑(List.length L_Low) : Int) 1 3).bind fun r1 =>
    bif !r1 then
      some false
    else
      bif !decide ((↑(List.length L_High) : Int) = (↑(List.length L_Low) : Int)) then
        some false
      else
        (f61 k L_K).bind fun r2 =>
        rec1006 L_K L_Low L_High (IntKind.wrap IntKind.i64 (8 * r2)) (decide (L_K = 0)) L_Low ((↑(List.length L_Low) : Int)) (0)
noncomputable def l32 : Nat → (Int → List Int → List Int → Int → Bool → List Int → Int → Int → Option (Bool))
  | 0 => fun _ _ _ _ _ _ _ _ => none
  | k + 1 => F32_1006 k (l32 k)
noncomputable def f32 (k : Nat) (L_K : Int) (L_Low : List (Int)) (L_High : List (Int)) : Option (Bool) := F32 k (l32 k) L_K L_Low L_High
noncomputable def s32 : Spec := ⟨false, [(.bool, false)], true, .bool, fun k xs => match xs with | [.agg [.int .i64 L_K, .slc 3 (.int .i64) L_Low, .slc 3 (.int .i64) L_High]] => f32 k L_K L_Low L_High | _ => none, false, none, false⟩
noncomputable def env21 : List (FuncId × Spec) := (32, s32) :: env20
noncomputable abbrev x32 := exec ti (envOf env20) 80 h32 (finT ti true Go.Proofs.Try.f32.results.toList [(.bool, false)] (.bool))
noncomputable def k32_1006 : List It := stackAt [.r, .r, .r, .r, .l, .r, .b, .lb none] (bodyOf Go.Proofs.Try.f32) []
def t32_1006 (is_0 : Int) (is_1 : List Int) (is_2 : List Int) (t : Int) (t4 : Bool) (t36 : List Int) (t37 : Int) (t38 : Int) : St := [(2, Cell.val (AVal.ptr 33 0)), (33, Cell.mem true 31 [AVal.int IntKind.i64 is_0, AVal.slc 3 (Ty.int IntKind.i64) is_1, AVal.slc 3 (Ty.int IntKind.i64) is_2]), (6, Cell.val (AVal.int IntKind.i64 t)), (8, Cell.val (AVal.bool t4)), (72, Cell.val (AVal.slc 3 (Ty.int IntKind.i64) t36)), (74, Cell.val (AVal.int IntKind.i64 t37)), (76, Cell.val (AVal.int IntKind.i64 t38))]
theorem e32_1006 (k : Nat) (is_0 : Int) (is_1 : List Int) (is_2 : List Int) (t : Int) (t4 : Bool) (t36 : List Int) (t37 : Int) (t38 : Int) : x32 (k + 1) k32_1006 (t32_1006 is_0 is_1 is_2 t t4 t36 t37 t38) = F32_1006 k (fun (is_0 : Int) (is_1 : List Int) (is_2 : List Int) (t : Int) (t4 : Bool) (t36 : List Int) (t37 : Int) (t38 : Int) => x32 k k32_1006 (t32_1006 is_0 is_1 is_2 t t4 t36 t37 t38)) is_0 is_1 is_2 t t4 t36 t37 t38 := by kernel_rfl
theorem q32 : ∀ k : Nat, (fun (is_0 : Int) (is_1 : List Int) (is_2 : List Int) (t : Int) (t4 : Bool) (t36 : List Int) (t37 : Int) (t38 : Int) => x32 k k32_1006 (t32_1006 is_0 is_1 is_2 t t4 t36 t37 t38)) = l32 k
  | 0 => rfl
  | k + 1 => by
    have h := q32 k
    show _ = F32_1006 k (l32 k)
    rw [← h]
    exact (funext fun is_0 => funext fun is_1 => funext fun is_2 => funext fun t => funext fun t4 => funext fun t36 => funext fun t37 => funext fun t38 => e32_1006 k is_0 is_1 is_2 t t4 t36 t37 t38)
theorem w32 (k : Nat) (L_K : Int) (L_Low : List (Int)) (L_High : List (Int)) : runFn ti (envOf env20) 80 h32 (finT ti true Go.Proofs.Try.f32.results.toList [(.bool, false)] (.bool)) k (bodyOf Go.Proofs.Try.f32) (initS 0 [.agg [.int .i64 L_K, .slc 3 (.int .i64) L_Low, .slc 3 (.int .i64) L_High]]) = F32 k (fun (is_0 : Int) (is_1 : List Int) (is_2 : List Int) (t : Int) (t4 : Bool) (t36 : List Int) (t37 : Int) (t38 : Int) => x32 k k32_1006 (t32_1006 is_0 is_1 is_2 t t4 t36 t37 t38)) L_K L_Low L_High := by kernel_rfl
theorem v32 (k : Nat) (L_K : Int) (L_Low : List (Int)) (L_High : List (Int)) : runFn ti (envOf env20) 80 h32 (finT ti true Go.Proofs.Try.f32.results.toList [(.bool, false)] (.bool)) k (bodyOf Go.Proofs.Try.f32) (initS 0 [.agg [.int .i64 L_K, .slc 3 (.int .i64) L_Low, .slc 3 (.int .i64) L_High]]) = f32 k L_K L_Low L_High := by
  rw [w32]
  have h := q32 k
  unfold f32
  rw [← h]
theorem m32 : Meets Go.Proofs.Try.prog 32 s32 := meets_of_run tiOk env20_ok mo Go.Proofs.Try.func32 (body := bodyOf Go.Proofs.Try.f32) (by kernel_rfl) (N := 80) (by kernel_rfl) (hs := h32) (by
  intro k xs r h
  unfold s32 at h
  dsimp only at h
  split at h
  · exact ⟨Nat.le_of_ble_eq_true rfl, (v32 k _ _ _).trans h⟩
  · cases h)
theorem env21_ok : EnvOk Go.Proofs.Try.prog (envOf env21) := envOf_cons m32 Go.Proofs.Try.func32 (by kernel_rfl) (by kernel_rfl) env20_ok

-- spec.trEnd
noncomputable def F62_0 (k : Nat) (rec0 : List (Int × Int) → Int → Int → Int → Option (Int)) (l : List (Int × Int)) (sides : Int) (at_ : Int) (depth : Int) : Option (Int) :=
  bif decide ((↑(List.length l) : Int) ≤ at_) then
    some (-1)
  else
    bif decide (20 < depth) then
      some (-1)
    else
      bif boundA at_ (List.length l) then
        bif decide ((List.getD l (Int.toNat at_) (0, 0)).fst = 0) then
          (f60 k (List.getD l (Int.toNat at_) (0, 0)).snd 0 (IntKind.wrap IntKind.i64 (sides - 1))).bind fun r0 =>
          bif !r0 then
            some (-1)
          else
            (rec0 l sides (IntKind.wrap IntKind.i64 (at_ + 1)) (IntKind.wrap IntKind.i64 (depth + 1))).bind fun r1 =>
            bif decide (r1 < 0) then
              some (-1)
            else
              (rec0 l sides r1 (IntKind.wrap IntKind.i64 (depth + 1))).bind fun r2 =>
              some r2
        else
          bif decide ((List.getD l (Int.toNat at_) (0, 0)).fst = 1) then
            bif decide ((List.getD l (Int.toNat at_) (0, 0)).fst = 1) then
              (f60 k (List.getD l (Int.toNat at_) (0, 0)).snd 0 99).bind fun r3 =>
              bif !r3 then
                some (-1)
              else
                some (IntKind.wrap IntKind.i64 (at_ + 1))
            else
              bif decide ((List.getD l (Int.toNat at_) (0, 0)).fst = 3) then
                bif !decide ((List.getD l (Int.toNat at_) (0, 0)).snd = 0) then
                  some (-1)
                else
                  some (IntKind.wrap IntKind.i64 (at_ + 1))
              else
                some (-1)
          else
            bif decide ((List.getD l (Int.toNat at_) (0, 0)).fst = 2) then
              (f60 k (List.getD l (Int.toNat at_) (0, 0)).snd 0 99).bind fun r4 =>
              bif !r4 then
                some (-1)
              else
                some (IntKind.wrap IntKind.i64 (at_ + 1))
            else
              bif decide ((List.getD l (Int.toNat at_) (0, 0)).fst = 3) then
                bif !decide ((List.getD l (Int.toNat at_) (0, 0)).snd = 0) then
                  some (-1)
                else
                  some (IntKind.wrap IntKind.i64 (at_ + 1))
              else
                some (-1)
      else
        none
noncomputable def F62 (k : Nat) (rec0 : List (Int × Int) → Int → Int → Int → Option (Int)) (l : List (Int × Int)) (sides : Int) (at_ : Int) (depth : Int) : Option (Int) :=
  rec0 l sides at_ depth
noncomputable def l62 : Nat → (List (Int × Int) → Int → Int → Int → Option (Int))
  | 0 => fun _ _ _ _ => none
  | k + 1 => F62_0 k (l62 k)
noncomputable def f62 (k : Nat) (l : List (Int × Int)) (sides : Int) (at_ : Int) (depth : Int) : Option (Int) := F62 k (l62 k) l sides at_ depth
noncomputable def g62 (k : Nat) (xs : List AVal) : Option (T (.int .i64)) := match xs with | [.slc 57 (.pair (.int .i64) (.int .i64)) l, .int .i64 sides, .int .i64 at_, .int .i64 depth] => f62 k l sides at_ depth | _ => none
noncomputable def s62 : Spec := ⟨false, [(.int .i64, false)], true, .int .i64, g62, false, none, false⟩
noncomputable def env22 : List (FuncId × Spec) := (62, s62) :: env21
theorem v62 (j : Nat) (l : List (Int × Int)) (sides : Int) (at_ : Int) (depth : Int) : runFn ti (envOf ((62, ⟨false, [(.int .i64, false)], true, .int .i64, fun _ xs => g62 j xs, false, none, false⟩) :: env21)) 64 [] (finT ti true Go.Proofs.Try.f62.results.toList [(.int .i64, false)] (.int .i64)) j (bodyOf Go.Proofs.Try.f62) (initS 0 [.slc 57 (.pair (.int .i64) (.int .i64)) l, .int .i64 sides, .int .i64 at_, .int .i64 depth]) = f62 (j + 1) l sides at_ depth := by kernel_rfl
theorem m62 : Meets Go.Proofs.Try.prog 62 s62 := meets_rec (fun xs => by unfold g62; split <;> rfl) fun j hj => meets_of_run tiOk (envOf_cons hj Go.Proofs.Try.func62 (by kernel_rfl) (by kernel_rfl) env21_ok) mo Go.Proofs.Try.func62 (body := bodyOf Go.Proofs.Try.f62) (by kernel_rfl) (N := 64) (by kernel_rfl) (hs := []) (by
  intro k xs r h
  dsimp only at h
  cases hk : Nat.beq k j with
  | false => rw [hk] at h; cases h
  | true =>
    rw [hk] at h
    obtain rfl := Nat.eq_of_beq_eq_true hk
    have h : g62 (k + 1) xs = some r := h
    unfold g62 at h
    split at h
    · exact ⟨Nat.le_of_ble_eq_true rfl, (v62 k _ _ _ _).trans h⟩
    · cases h)
theorem env22_ok : EnvOk Go.Proofs.Try.prog (envOf env22) := envOf_cons m62 Go.Proofs.Try.func62 (by kernel_rfl) (by kernel_rfl) env21_ok

-- spec.trGood
noncomputable def f33 (k : Nat) (l : List (Int × Int)) (sides : Int) : Option (Bool) :=
  (f60 k sides 1 3).bind fun r0 =>
  bif r0 then
    (f60 k (↑(List.length l) : Int) 1 200).bind fun r1 =>
    bif r1 then
      (f62 k l sides 0 0).bind fun r2 =>
      some (decide (r2 = (↑(List.length l) : Int)))
    else
      some false
  else
    some false
noncomputable def s33 : Spec := ⟨false, [(.bool, false)], true, .bool, fun k xs => match xs with | [.slc 57 (.pair (.int .i64) (.int .i64)) l, .int .i64 sides] => f33 k l sides | _ => none, false, none, false⟩
noncomputable def env23 : List (FuncId × Spec) := (33, s33) :: env22
theorem v33 (k : Nat) (l : List (Int × Int)) (sides : Int) : runFn ti (envOf env22) 20 [] (finT ti true Go.Proofs.Try.f33.results.toList [(.bool, false)] (.bool)) k (bodyOf Go.Proofs.Try.f33) (initS 0 [.slc 57 (.pair (.int .i64) (.int .i64)) l, .int .i64 sides]) = f33 k l sides := by kernel_rfl
theorem m33 : Meets Go.Proofs.Try.prog 33 s33 := meets_of_run tiOk env22_ok mo Go.Proofs.Try.func33 (body := bodyOf Go.Proofs.Try.f33) (by kernel_rfl) (N := 20) (by kernel_rfl) (hs := []) (by
  intro k xs r h
  unfold s33 at h
  dsimp only at h
  split at h
  · exact ⟨Nat.le_of_ble_eq_true rfl, (v33 k _ _).trans h⟩
  · cases h)
theorem env23_ok : EnvOk Go.Proofs.Try.prog (envOf env23) := envOf_cons m33 Go.Proofs.Try.func33 (by kernel_rfl) (by kernel_rfl) env22_ok

-- spec.l1Own
noncomputable def f63 (k : Nat) (l : List (Int)) : Option (List (Int)) :=
  bif decide (((0 : Nat) + List.length l) * 8 ≤ 140737488355328) then
    some ([] ++ l)
  else
    none
noncomputable def s63 : Spec := ⟨false, [(.slice 3 (.int .i64), false)], true, .slice 3 (.int .i64), fun k xs => match xs with | [.slc 3 (.int .i64) l] => f63 k l | _ => none, false, none, false⟩
noncomputable def env24 : List (FuncId × Spec) := (63, s63) :: env23
theorem v63 (k : Nat) (l : List (Int)) : runFn ti (envOf env23) 6 [] (finT ti true Go.Proofs.Try.f63.results.toList [(.slice 3 (.int .i64), false)] (.slice 3 (.int .i64))) k (bodyOf Go.Proofs.Try.f63) (initS 0 [.slc 3 (.int .i64) l]) = f63 k l := by kernel_rfl
theorem m63 : Meets Go.Proofs.Try.prog 63 s63 := meets_of_run tiOk env23_ok mo Go.Proofs.Try.func63 (body := bodyOf Go.Proofs.Try.f63) (by kernel_rfl) (N := 6) (by kernel_rfl) (hs := []) (by
  intro k xs r h
  unfold s63 at h
  dsimp only at h
  split at h
  · exact ⟨Nat.le_of_ble_eq_true rfl, (v63 k _).trans h⟩
  · cases h)
theorem env24_ok : EnvOk Go.Proofs.Try.prog (envOf env24) := envOf_cons m63 Go.Proofs.Try.func63 (by kernel_rfl) (by kernel_rfl) env23_ok

end Go.Proofs.YtchdegcfohegfaaE
