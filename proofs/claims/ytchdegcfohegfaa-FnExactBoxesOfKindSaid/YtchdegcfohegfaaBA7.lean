/- Functions, by the engine; printed. -/
import Derived.Test.YtchdegcfohegfaaBA6
set_option maxRecDepth 100000
set_option maxHeartbeats 4000000
set_option linter.unusedVariables false
namespace Go.Proofs.YtchdegcfohegfaaE
-- laws.eqIntSS
def h28 : Hints := [(1004, .lab [(0, .one (.frz 22 (Ty.slice 3 (Ty.int IntKind.i64)))), (1, .one (.frz 22 (Ty.slice 3 (Ty.int IntKind.i64)))), (5, .one (.v))])]
noncomputable def F28_1004 (k : Nat) (rec1004 : List (List Int) → List (List Int) → Int → Option (Bool)) (a : List (List Int)) (b : List (List Int)) (i : Int) : Option (Bool) :=
  bif decide (i < (↑(List.length a) : Int)) then
    bif boundA i (List.length a) then
      bif boundA i (List.length b) then
        (f56 k (List.getD a (Int.toNat i) []) (List.getD b (Int.toNat i) [])).bind fun r0 =>
        bif !r0 then
          some false
        else
          rec1004 a b (IntKind.wrap IntKind.i64 (i + 1))
      else
        none
    else
      none
  else
    some true
noncomputable def F28 (k : Nat) (rec1004 : List (List Int) → List (List Int) → Int → Option (Bool)) (a : List (List (Int))) (b : List (List (Int))) : Option (Bool) :=
  bif !decide ((↑(List.length a) : Int) = (↑(List.length b) : Int)) then
    some false
  else
    rec1004 a b (0)
noncomputable def l28 : Nat → (List (List Int) → List (List Int) → Int → Option (Bool))
  | 0 => fun _ _ _ => none
  | k + 1 => F28_1004 k (l28 k)
noncomputable def f28 (k : Nat) (a : List (List (Int))) (b : List (List (Int))) : Option (Bool) := F28 k (l28 k) a b
noncomputable def s28 : Spec := ⟨false, [(.bool, false)], true, .bool, fun k xs => match xs with | [.slc 22 (.slice 3 (.int .i64)) a, .slc 22 (.slice 3 (.int .i64)) b] => f28 k a b | _ => none, false, none, false⟩
noncomputable def env73 : List (FuncId × Spec) := (28, s28) :: env72
noncomputable abbrev x28 := exec ti (envOf env72) 27 h28 (finT ti true Go.Proofs.Try.f28.results.toList [(.bool, false)] (.bool))
noncomputable def k28_1004 : List It := stackAt [.r, .r, .l, .r, .b, .lb none] (bodyOf Go.Proofs.Try.f28) []
def t28_1004 (a : List (List Int)) (b : List (List Int)) (i : Int) : St := [(0, Cell.val (AVal.slc 22 (Ty.slice 3 (Ty.int IntKind.i64)) a)), (2, Cell.val (AVal.slc 22 (Ty.slice 3 (Ty.int IntKind.i64)) b)), (10, Cell.val (AVal.int IntKind.i64 i))]
theorem e28_1004 (k : Nat) (a : List (List Int)) (b : List (List Int)) (i : Int) : x28 (k + 1) k28_1004 (t28_1004 a b i) = F28_1004 k (fun (a : List (List Int)) (b : List (List Int)) (i : Int) => x28 k k28_1004 (t28_1004 a b i)) a b i := by kernel_rfl
theorem q28 : ∀ k : Nat, (fun (a : List (List Int)) (b : List (List Int)) (i : Int) => x28 k k28_1004 (t28_1004 a b i)) = l28 k
  | 0 => rfl
  | k + 1 => by
    have h := q28 k
    show _ = F28_1004 k (l28 k)
    rw [← h]
    exact (funext fun a => funext fun b => funext fun i => e28_1004 k a b i)
theorem w28 (k : Nat) (a : List (List (Int))) (b : List (List (Int))) : runFn ti (envOf env72) 27 h28 (finT ti true Go.Proofs.Try.f28.results.toList [(.bool, false)] (.bool)) k (bodyOf Go.Proofs.Try.f28) (initS 0 [.slc 22 (.slice 3 (.int .i64)) a, .slc 22 (.slice 3 (.int .i64)) b]) = F28 k (fun (a : List (List Int)) (b : List (List Int)) (i : Int) => x28 k k28_1004 (t28_1004 a b i)) a b := by kernel_rfl
theorem v28 (k : Nat) (a : List (List (Int))) (b : List (List (Int))) : runFn ti (envOf env72) 27 h28 (finT ti true Go.Proofs.Try.f28.results.toList [(.bool, false)] (.bool)) k (bodyOf Go.Proofs.Try.f28) (initS 0 [.slc 22 (.slice 3 (.int .i64)) a, .slc 22 (.slice 3 (.int .i64)) b]) = f28 k a b := by
  rw [w28]
  have h := q28 k
  unfold f28
  rw [← h]
theorem m28 : Meets Go.Proofs.Try.prog 28 s28 := meets_of_run tiOk env72_ok mo Go.Proofs.Try.func28 (body := bodyOf Go.Proofs.Try.f28) (by kernel_rfl) (N := 27) (by kernel_rfl) (hs := h28) (by
  intro k xs r h
  unfold s28 at h
  dsimp only at h
  split at h
  · exact ⟨Nat.le_of_ble_eq_true rfl, (v28 k _ _).trans h⟩
  · cases h)
theorem env73_ok : EnvOk Go.Proofs.Try.prog (envOf env73) := envOf_cons m28 Go.Proofs.Try.func28 (by kernel_rfl) (by kernel_rfl) env72_ok

def o29 (q : T (.slice 22 (.slice 3 (.int .i64)))) : St := [(3, .deep 22 (.slice 3 (.int .i64)) 0 (q) none)]
def p29 (x : St × T (.int .i64)) : Option (T (.slice 22 (.slice 3 (.int .i64))) × T (.int .i64)) := match x with | ([(3, .deep 22 (.slice 3 (.int .i64)) 0 a none)], r) => some (a, r) | _ => none
-- laws.markIntSS
def h29 : Hints := [(1002, .lab [(0, .one (.deep false 22 (Ty.slice 3 (Ty.int IntKind.i64)))), (1, .one (.v)), (5, .one (.v))])]
noncomputable def F29_1002 (k : Nat) (rec1002 : Int → Int → List (List Int) → Option (((List (List (Int)))) × Int)) (k_ : Int) (i : Int) (p3 : List (List Int)) : Option (((List (List (Int)))) × Int) :=
  bif decide (i < (↑(List.length p3) : Int)) then
    bif boundA i (List.length p3) then
      bif Nat.blt (Int.toNat i) (List.length p3) then
        (f44_0 k (List.getD p3 (Int.toNat i) []) k_).bind fun r0 =>
        rec1002 (r0.snd) (IntKind.wrap IntKind.i64 (i + 1)) (List.set p3 (Int.toNat i) r0.fst)
      else
        none
    else
      none
  else
    some ((p3, k_))
noncomputable def F29 (k : Nat) (rec1002 : Int → Int → List (List Int) → Option (((List (List (Int)))) × Int)) (a : List (List (Int))) (k_ : Int) : Option (((List (List (Int)))) × Int) :=
  rec1002 k_ (0) a
noncomputable def l29 : Nat → (Int → Int → List (List Int) → Option (((List (List (Int)))) × Int))
  | 0 => fun _ _ _ => none
  | k + 1 => F29_1002 k (l29 k)
noncomputable def f29 (k : Nat) (a : List (List (Int))) (k_ : Int) : Option (((List (List (Int)))) × Int) := F29 k (l29 k) a k_
noncomputable def g29 (k : Nat) (os : St) (xs : List AVal) : Option (T (.slice 22 (.slice 3 (.int .i64))) × T (.int .i64)) := match os, xs with | [(3, .deep 22 (.slice 3 (.int .i64)) 0 a none)], [.ref 3 none, .int .i64 k_] => f29 k a k_ | _, _ => none
noncomputable def s29 : Spec := ⟨false, [(.int .i64, false)], true, .int .i64, fun _ _ => none, false, some ⟨.slice 22 (.slice 3 (.int .i64)), g29, o29⟩, false⟩
noncomputable def env74 : List (FuncId × Spec) := (29, s29) :: env73
noncomputable abbrev x29 := exec ti (envOf env73) 19 h29 (finJ ti Go.Proofs.Try.f29.results.toList [(.int .i64, false)] (.int .i64) [3] p29)
noncomputable def k29_1002 : List It := stackAt [.r, .l, .r, .b, .lb none] (bodyOf Go.Proofs.Try.f29) []
def t29_1002 (k_ : Int) (i : Int) (p3 : List (List Int)) : St := [(0, Cell.val (AVal.ref 3 none)), (2, Cell.val (AVal.int IntKind.i64 k_)), (10, Cell.val (AVal.int IntKind.i64 i)), (3, Cell.deep 22 (Ty.slice 3 (Ty.int IntKind.i64)) 0 p3 none)]
theorem e29_1002 (k : Nat) (k_ : Int) (i : Int) (p3 : List (List Int)) : x29 (k + 1) k29_1002 (t29_1002 k_ i p3) = F29_1002 k (fun (k_ : Int) (i : Int) (p3 : List (List Int)) => x29 k k29_1002 (t29_1002 k_ i p3)) k_ i p3 := by kernel_rfl
theorem q29 : ∀ k : Nat, (fun (k_ : Int) (i : Int) (p3 : List (List Int)) => x29 k k29_1002 (t29_1002 k_ i p3)) = l29 k
  | 0 => rfl
  | k + 1 => by
    have h := q29 k
    show _ = F29_1002 k (l29 k)
    rw [← h]
    exact (funext fun k_ => funext fun i => funext fun p3 => e29_1002 k k_ i p3)
theorem w29 (k : Nat) (a : List (List (Int))) (k_ : Int) : runFn ti (envOf env73) 19 h29 (finJ ti Go.Proofs.Try.f29.results.toList [(.int .i64, false)] (.int .i64) [3] p29) k (bodyOf Go.Proofs.Try.f29) ([(3, .deep 22 (.slice 3 (.int .i64)) 0 a none)] ++ initS 0 [.ref 3 none, .int .i64 k_]) = F29 k (fun (k_ : Int) (i : Int) (p3 : List (List Int)) => x29 k k29_1002 (t29_1002 k_ i p3)) a k_ := by kernel_rfl
theorem v29 (k : Nat) (a : List (List (Int))) (k_ : Int) : runFn ti (envOf env73) 19 h29 (finJ ti Go.Proofs.Try.f29.results.toList [(.int .i64, false)] (.int .i64) [3] p29) k (bodyOf Go.Proofs.Try.f29) ([(3, .deep 22 (.slice 3 (.int .i64)) 0 a none)] ++ initS 0 [.ref 3 none, .int .i64 k_]) = f29 k a k_ := by
  rw [w29]
  have h := q29 k
  unfold f29
  rw [← h]
theorem hp29 : ∀ x q, p29 x = some q → (o29 q.1, q.2) = x := by
  intro x q h
  unfold p29 at h
  split at h
  · cases h
    rfl
  · cases h
theorem m29 : MeetsIO Go.Proofs.Try.prog 29 [(.int .i64, false)] (.int .i64) (IO.G ⟨.slice 22 (.slice 3 (.int .i64)), g29, o29⟩) := meets_io_of_run tiOk env73_ok mo Go.Proofs.Try.func29 (body := bodyOf Go.Proofs.Try.f29) (by kernel_rfl) (N := 19) (by kernel_rfl) (pick := p29) (by kernel_rfl) hp29 (by
  intro k os xs r h
  have h : g29 k os xs = some r := h
  unfold g29 at h
  split at h
  · exact ⟨Nat.le_of_ble_eq_true rfl, by kernel_rfl, h29, (v29 k _ _).trans h⟩
  · cases h)
theorem env74_ok : EnvOk Go.Proofs.Try.prog (envOf env74) := envOf_io rfl m29 Go.Proofs.Try.func29 (by kernel_rfl) (by kernel_rfl) env73_ok

-- laws.heldIntSS
def h30 : Hints := [(1002, .lab [(0, .one (.frz 22 (Ty.slice 3 (Ty.int IntKind.i64)))), (1, .one (.v)), (5, .one (.v))])]
noncomputable def F30_1002 (k : Nat) (rec1002 : List (List Int) → Int → Int → Option (Int)) (a : List (List Int)) (k_ : Int) (i : Int) : Option (Int) :=
  bif decide (i < (↑(List.length a) : Int)) then
    bif boundA i (List.length a) then
      (f45 k (List.getD a (Int.toNat i) []) (List.length (List.getD a (Int.toNat i) [])) k_).bind fun r0 =>
      bif decide (r0 < 0) then
        some (-1)
      else
        rec1002 a r0 (IntKind.wrap IntKind.i64 (i + 1))
    else
      none
  else
    some k_
noncomputable def F30 (k : Nat) (rec1002 : List (List Int) → Int → Int → Option (Int)) (a : List (List (Int))) (k_ : Int) : Option (Int) :=
  rec1002 a k_ (0)
noncomputable def l30 : Nat → (List (List Int) → Int → Int → Option (Int))
  | 0 => fun _ _ _ => none
  | k + 1 => F30_1002 k (l30 k)
noncomputable def f30 (k : Nat) (a : List (List (Int))) (k_ : Int) : Option (Int) := F30 k (l30 k) a k_
noncomputable def s30 : Spec := ⟨false, [(.int .i64, false)], true, .int .i64, fun k xs => match xs with | [.slc 22 (.slice 3 (.int .i64)) a, .int .i64 k_] => f30 k a k_ | _ => none, false, none, false⟩
noncomputable def env75 : List (FuncId × Spec) := (30, s30) :: env74
noncomputable abbrev x30 := exec ti (envOf env74) 21 h30 (finT ti true Go.Proofs.Try.f30.results.toList [(.int .i64, false)] (.int .i64))
noncomputable def k30_1002 : List It := stackAt [.r, .l, .r, .b, .lb none] (bodyOf Go.Proofs.Try.f30) []
def t30_1002 (a : List (List Int)) (k_ : Int) (i : Int) : St := [(0, Cell.val (AVal.slc 22 (Ty.slice 3 (Ty.int IntKind.i64)) a)), (2, Cell.val (AVal.int IntKind.i64 k_)), (10, Cell.val (AVal.int IntKind.i64 i))]
theorem e30_1002 (k : Nat) (a : List (List Int)) (k_ : Int) (i : Int) : x30 (k + 1) k30_1002 (t30_1002 a k_ i) = F30_1002 k (fun (a : List (List Int)) (k_ : Int) (i : Int) => x30 k k30_1002 (t30_1002 a k_ i)) a k_ i := by kernel_rfl
theorem q30 : ∀ k : Nat, (fun (a : List (List Int)) (k_ : Int) (i : Int) => x30 k k30_1002 (t30_1002 a k_ i)) = l30 k
  | 0 => rfl
  | k + 1 => by
    have h := q30 k
    show _ = F30_1002 k (l30 k)
    rw [← h]
    exact (funext fun a => funext fun k_ => funext fun i => e30_1002 k a k_ i)
theorem w30 (k : Nat) (a : List (List (Int))) (k_ : Int) : runFn ti (envOf env74) 21 h30 (finT ti true Go.Proofs.Try.f30.results.toList [(.int .i64, false)] (.int .i64)) k (bodyOf Go.Proofs.Try.f30) (initS 0 [.slc 22 (.slice 3 (.int .i64)) a, .int .i64 k_]) = F30 k (fun (a : List (List Int)) (k_ : Int) (i : Int) => x30 k k30_1002 (t30_1002 a k_ i)) a k_ := by kernel_rfl
theorem v30 (k : Nat) (a : List (List (Int))) (k_ : Int) : runFn ti (envOf env74) 21 h30 (finT ti true Go.Proofs.Try.f30.results.toList [(.int .i64, false)] (.int .i64)) k (bodyOf Go.Proofs.Try.f30) (initS 0 [.slc 22 (.slice 3 (.int .i64)) a, .int .i64 k_]) = f30 k a k_ := by
  rw [w30]
  have h := q30 k
  unfold f30
  rw [← h]
theorem m30 : Meets Go.Proofs.Try.prog 30 s30 := meets_of_run tiOk env74_ok mo Go.Proofs.Try.func30 (body := bodyOf Go.Proofs.Try.f30) (by kernel_rfl) (N := 21) (by kernel_rfl) (hs := h30) (by
  intro k xs r h
  unfold s30 at h
  dsimp only at h
  split at h
  · exact ⟨Nat.le_of_ble_eq_true rfl, (v30 k _ _).trans h⟩
  · cases h)
theorem env75_ok : EnvOk Go.Proofs.Try.prog (envOf env75) := envOf_cons m30 Go.Proofs.Try.func30 (by kernel_rfl) (by kernel_rfl) env74_ok

-- laws.FnExactTouchingHolds
noncomputable def f6 (k : Nat) (L_K : Int) (L_Low : List (Int)) (L_High : List (Int)) (i : List (Int × Int)) : Option (Bool) :=
  (f7 k L_K L_Low L_High 1000000).bind fun r0 =>
  bif decide (r0 < 0) then
    some true
  else
    (f8 k i r0).bind fun r1 =>
    bif decide (r1 < 0) then
      some true
    else
      (f10 k L_K L_Low L_High false).bind fun r2 =>
      (f11 k i false).bind fun r3 =>
      (f26 k r2.fst (List.take r2.snd.fst.snd r2.snd.fst.fst) (List.take r2.snd.snd.snd r2.snd.snd.fst) (List.take r3.snd r3.fst)).bind fun r4 =>
      (f10 k L_K L_Low L_High false).bind fun r5 =>
      (f11 k i false).bind fun r6 =>
      (f27 k r5.fst (List.take r5.snd.fst.snd r5.snd.fst.fst) (List.take r5.snd.snd.snd r5.snd.snd.fst) (List.take r6.snd r6.fst)).bind fun r7 =>
      (f28 k r7.fst r4.fst).bind fun r8 =>
      bif !r8 then
        some false
      else
        bif !r7.snd == r4.snd then
          some false
        else
          (f10 k L_K L_Low L_High false).bind fun r9 =>
          (f14 k r5.fst r5.snd.fst.fst r5.snd.fst.snd r5.snd.snd.fst r5.snd.snd.snd r9.fst r9.snd.fst.fst r9.snd.fst.snd r9.snd.snd.fst r9.snd.snd.snd).bind fun r10 =>
          bif !r10 then
            some false
          else
            (f11 k i false).bind fun r11 =>
            (f15 k r6.fst r6.snd r11.fst r11.snd).bind fun r12 =>
            bif !r12 then
              some false
            else
              (f16 k r5.snd.fst.fst r5.snd.snd.fst r5.fst r5.snd.fst.snd r5.snd.snd.snd 101).bind fun r13 =>
              (f17 k r6.fst r6.snd r13.snd).bind fun r14 =>
              bif decide (r14.snd < 0) then
                some false
              else
                (f28 k r7.fst r4.fst).bind fun r15 =>
                bif !r15 then
                  some false
                else
                  bif !r7.snd == r4.snd then
                    some false
                  else
                    (f29 k r7.fst 101).bind fun r16 =>
                    (f30 k r16.fst 101).bind fun r17 =>
                    bif decide (r17 < 0) then
                      some false
                    else
                      bif !decide (r17 = r16.snd) then
                        some false
                      else
                        (f10 k L_K L_Low L_High true).bind fun r18 =>
                        (f11 k i true).bind fun r19 =>
                        (f27 k r18.fst (List.take r18.snd.fst.snd r18.snd.fst.fst) (List.take r18.snd.snd.snd r18.snd.snd.fst) (List.take r19.snd r19.fst)).bind fun r20 =>
                        (f28 k r20.fst r4.fst).bind fun r21 =>
                        bif !r21 then
                          some false
                        else
                          bif !r20.snd == r4.snd then
                            some false
                          else
                            (f30 k r16.fst 101).bind fun r22 =>
                            bif decide (r22 < 0) then
                              some false
                            else
                              bif !decide (r22 = r16.snd) then
                                some false
                              else
                                some true
noncomputable def s6 : Spec := ⟨false, [(.bool, false)], true, .bool, fun k xs => match xs with | [.agg [.int .i64 L_K, .slc 3 (.int .i64) L_Low, .slc 3 (.int .i64) L_High], .slc 59 (.pair (.int .i64) (.int .i64)) i] => f6 k L_K L_Low L_High i | _ => none, false, none, false⟩
noncomputable def env76 : List (FuncId × Spec) := (6, s6) :: env75
theorem v6 (k : Nat) (L_K : Int) (L_Low : List (Int)) (L_High : List (Int)) (i : List (Int × Int)) : runFn tiV (envOf env75) 119 [] (finT tiV true Go.Proofs.Try.f6.results.toList [(.bool, false)] (.bool)) k (bodyOf Go.Proofs.Try.f6) (initS 0 [.agg [.int .i64 L_K, .slc 3 (.int .i64) L_Low, .slc 3 (.int .i64) L_High], .slc 59 (.pair (.int .i64) (.int .i64)) i]) = f6 k L_K L_Low L_High i := by kernel_rfl
theorem m6 : Meets Go.Proofs.Try.prog 6 s6 := meets_of_run tiVOk env75_ok mo Go.Proofs.Try.func6 (body := bodyOf Go.Proofs.Try.f6) (by kernel_rfl) (N := 119) (by kernel_rfl) (hs := []) (by
  intro k xs r h
  unfold s6 at h
  dsimp only at h
  split at h
  · exact ⟨Nat.le_of_ble_eq_true rfl, (v6 k _ _ _ _).trans h⟩
  · cases h)
theorem env76_ok : EnvOk Go.Proofs.Try.prog (envOf env76) := envOf_cons m6 Go.Proofs.Try.func6 (by kernel_rfl) (by kernel_rfl) env75_ok

end Go.Proofs.YtchdegcfohegfaaE
