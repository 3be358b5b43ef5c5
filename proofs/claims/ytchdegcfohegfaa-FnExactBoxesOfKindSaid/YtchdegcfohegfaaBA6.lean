/- Functions, by the engine; printed. -/
import Derived.Test.YtchdegcfohegfaaBA5
set_option maxRecDepth 100000
set_option maxHeartbeats 4000000
set_option linter.unusedVariables false
namespace Go.Proofs.YtchdegcfohegfaaE
-- impl.leafPlaces
def h58 : Hints := [(1003, .lab [(3, .one (.own 3 (Ty.int IntKind.i64))), (6, .one (.frz 57 (Ty.pair (Ty.int IntKind.i64) (Ty.int IntKind.i64)))), (7, .one (.v)), (8, .one (.v))])]
noncomputable def F58_1003 (k : Nat) (rec1003 : List Int → List (Int × Int) → Int → Int → Option (List (Int))) (outs : List Int) (t6 : List (Int × Int)) (t7 : Int) (t8 : Int) : Option (List (Int)) :=
  bif decide (t8 < t7) then
    bif boundA t8 (List.length t6) then
      bif !decide ((List.getD t6 (Int.toNat t8) (0, 0)).fst = 0) then
        bif decide ((List.length outs + List.length [t8]) * 8 ≤ 140737488355328) then
          rec1003 (outs ++ [t8]) t6 t7 (IntKind.wrap IntKind.i64 (t8 + 1))
        else
          none
      else
        rec1003 outs t6 t7 (IntKind.wrap IntKind.i64 (t8 + 1))
    else
      none
  else
    some outs
noncomputable def F58 (k : Nat) (rec1003 : List Int → List (Int × Int) → Int → Int → Option (List (Int))) (l : List (Int × Int)) : Option (List (Int)) :=
  rec1003 ([]) l ((↑(List.length l) : Int)) (0)
noncomputable def l58 : Nat → (List Int → List (Int × Int) → Int → Int → Option (List (Int)))
  | 0 => fun _ _ _ _ => none
  | k + 1 => F58_1003 k (l58 k)
noncomputable def f58 (k : Nat) (l : List (Int × Int)) : Option (List (Int)) := F58 k (l58 k) l
noncomputable def s58 : Spec := ⟨false, [(.slice 3 (.int .i64), false)], true, .slice 3 (.int .i64), fun k xs => match xs with | [.slc 57 (.pair (.int .i64) (.int .i64)) l] => f58 k l | _ => none, false, none, false⟩
noncomputable def env61 : List (FuncId × Spec) := (58, s58) :: env60
noncomputable abbrev x58 := exec ti (envOf env60) 22 h58 (finT ti true Go.Proofs.Try.f58.results.toList [(.slice 3 (.int .i64), false)] (.slice 3 (.int .i64)))
noncomputable def k58_1003 : List It := stackAt [.r, .r, .l, .r, .b, .lb none] (bodyOf Go.Proofs.Try.f58) []
def t58_1003 (outs : List Int) (t6 : List (Int × Int)) (t7 : Int) (t8 : Int) : St := [(6, Cell.val (AVal.ref 33 none)), (33, Cell.row true 3 (Ty.int IntKind.i64) outs), (12, Cell.val (AVal.slc 57 (Ty.pair (Ty.int IntKind.i64) (Ty.int IntKind.i64)) t6)), (14, Cell.val (AVal.int IntKind.i64 t7)), (16, Cell.val (AVal.int IntKind.i64 t8))]
theorem e58_1003 (k : Nat) (outs : List Int) (t6 : List (Int × Int)) (t7 : Int) (t8 : Int) : x58 (k + 1) k58_1003 (t58_1003 outs t6 t7 t8) = F58_1003 k (fun (outs : List Int) (t6 : List (Int × Int)) (t7 : Int) (t8 : Int) => x58 k k58_1003 (t58_1003 outs t6 t7 t8)) outs t6 t7 t8 := by kernel_rfl
theorem q58 : ∀ k : Nat, (fun (outs : List Int) (t6 : List (Int × Int)) (t7 : Int) (t8 : Int) => x58 k k58_1003 (t58_1003 outs t6 t7 t8)) = l58 k
  | 0 => rfl
  | k + 1 => by
    have h := q58 k
    show _ = F58_1003 k (l58 k)
    rw [← h]
    exact (funext fun outs => funext fun t6 => funext fun t7 => funext fun t8 => e58_1003 k outs t6 t7 t8)
theorem w58 (k : Nat) (l : List (Int × Int)) : runFn ti (envOf env60) 22 h58 (finT ti true Go.Proofs.Try.f58.results.toList [(.slice 3 (.int .i64), false)] (.slice 3 (.int .i64))) k (bodyOf Go.Proofs.Try.f58) (initS 0 [.slc 57 (.pair (.int .i64) (.int .i64)) l]) = F58 k (fun (outs : List Int) (t6 : List (Int × Int)) (t7 : Int) (t8 : Int) => x58 k k58_1003 (t58_1003 outs t6 t7 t8)) l := by kernel_rfl
theorem v58 (k : Nat) (l : List (Int × Int)) : runFn ti (envOf env60) 22 h58 (finT ti true Go.Proofs.Try.f58.results.toList [(.slice 3 (.int .i64), false)] (.slice 3 (.int .i64))) k (bodyOf Go.Proofs.Try.f58) (initS 0 [.slc 57 (.pair (.int .i64) (.int .i64)) l]) = f58 k l := by
  rw [w58]
  have h := q58 k
  unfold f58
  rw [← h]
theorem m58 : Meets Go.Proofs.Try.prog 58 s58 := meets_of_run tiOk env60_ok mo Go.Proofs.Try.func58 (body := bodyOf Go.Proofs.Try.f58) (by kernel_rfl) (N := 22) (by kernel_rfl) (hs := h58) (by
  intro k xs r h
  unfold s58 at h
  dsimp only at h
  split at h
  · exact ⟨Nat.le_of_ble_eq_true rfl, (v58 k _).trans h⟩
  · cases h)
theorem env61_ok : EnvOk Go.Proofs.Try.prog (envOf env61) := envOf_cons m58 Go.Proofs.Try.func58 (by kernel_rfl) (by kernel_rfl) env60_ok

-- impl.boxesOfKind
def h51 : Hints := [(1004, .lab [(1, .one (.frz 57 (Ty.pair (Ty.int IntKind.i64) (Ty.int IntKind.i64)))), (2, .one (.v)), (7, .one (.deep true 31 (Ty.pair (Ty.int IntKind.i64) (Ty.pair (Ty.slice 3 (Ty.int IntKind.i64)) (Ty.slice 3 (Ty.int IntKind.i64)))))), (9, .one (.deep false 31 (Ty.pair (Ty.int IntKind.i64) (Ty.pair (Ty.slice 3 (Ty.int IntKind.i64)) (Ty.slice 3 (Ty.int IntKind.i64)))))), (19, .one (.own 3 (Ty.int IntKind.i64))), (20, .one (.v)), (21, .one (.v))])]
noncomputable def F51_1004 (k : Nat) (rec1004 : List (Int × Int) → Int → Nat → List (Int × List Int × List Int) → List (Int × List Int × List Int) → List Int → Int → Int → Option (List (Int × (List (Int)) × List (Int)))) (l : List (Int × Int)) (kind : Int) (boxess_k : Nat) (boxess : List (Int × List Int × List Int)) (outs : List (Int × List Int × List Int)) (t19s : List Int) (t20 : Int) (t21 : Int) : Option (List (Int × (List (Int)) × List (Int))) :=
  bif decide (t21 < t20) then
    bif boundA t21 (List.length t19s) then
      bif Nat.blt (Int.toNat t21) (List.length t19s) then
        bif boundA (List.getD t19s (Int.toNat t21) 0) (List.length l) then
          bif decide ((List.getD l (Int.toNat (List.getD t19s (Int.toNat t21) 0)) (0, 0)).fst = kind) then
            bif boundA t21 (List.length boxess) then
              bif Nat.blt (Int.toNat t21) (List.length boxess) then
                bif leK boxess_k (Int.toNat t21) then
                  bif decide ((List.length outs + List.length [((List.getD boxess (Int.toNat t21) (0, [], [])).fst, (List.getD boxess (Int.toNat t21) (0, [], [])).snd.fst, (List.getD boxess (Int.toNat t21) (0, [], [])).snd.snd)]) * 56 ≤ 140737488355328) then
                    rec1004 l kind (Int.toNat t21 + 1) boxess (outs ++ [((List.getD boxess (Int.toNat t21) (0, [], [])).fst, (List.getD boxess (Int.toNat t21) (0, [], [])).snd.fst, (List.getD boxess (Int.toNat t21) (0, [], [])).snd.snd)]) t19s t20 (IntKind.wrap IntKind.i64 (t21 + 1))
                  else
                    none
                else
                  none
              else
                none
            else
              none
          else
            rec1004 l kind boxess_k boxess outs t19s t20 (IntKind.wrap IntKind.i64 (t21 + 1))
        else
          none
      else
        none
    else
      none
  else
    some outs
noncomputable def F51 (k : Nat) (rec1004 : List (Int × Int) → Int → Nat → List (Int × List Int × List Int) → List (Int × List Int × List Int) → List Int → Int → Int → Option (List (Int × (List (Int)) × List (Int)))) (b : Int × (List (Int)) × List (Int)) (l : List (Int × Int)) (kind : Int) : Option (List (Int × (List (Int)) × List (Int))) :=
  (f41 k b l).bind fun r0 =>
  (f58 k l).bind fun r1 =>
  rec1004 l kind (0) (r0.fst) ([]) r1 ((↑(List.length r1) : Int)) (0)
noncomputable def l51 : Nat → (List (Int × Int) → Int → Nat → List (Int × List Int × List Int) → List (Int × List Int × List Int) → List Int → Int → Int → Option (List (Int × (List (Int)) × List (Int))))
  | 0 => fun _ _ _ _ _ _ _ _ => none
  | k + 1 => F51_1004 k (l51 k)
noncomputable def f51 (k : Nat) (b : Int × (List (Int)) × List (Int)) (l : List (Int × Int)) (kind : Int) : Option (List (Int × (List (Int)) × List (Int))) := F51 k (l51 k) b l kind
noncomputable def s51 : Spec := ⟨false, [(.slice 31 (.pair (.int .i64) (.pair (.slice 3 (.int .i64)) (.slice 3 (.int .i64)))), false)], true, .slice 31 (.pair (.int .i64) (.pair (.slice 3 (.int .i64)) (.slice 3 (.int .i64)))), fun k xs => match xs with | [.fptr (.pair (.int .i64) (.pair (.slice 3 (.int .i64)) (.slice 3 (.int .i64)))) b, .slc 57 (.pair (.int .i64) (.int .i64)) l, .int .i64 kind] => f51 k b l kind | _ => none, false, none, true⟩
noncomputable def env62 : List (FuncId × Spec) := (51, s51) :: env61
noncomputable abbrev x51 := exec ti (envOf env61) 42 h51 (finD ti Go.Proofs.Try.f51.results.toList [(.slice 31 (.pair (.int .i64) (.pair (.slice 3 (.int .i64)) (.slice 3 (.int .i64)))), false)] (.slice 31 (.pair (.int .i64) (.pair (.slice 3 (.int .i64)) (.slice 3 (.int .i64))))))
noncomputable def k51_1004 : List It := stackAt [.r, .r, .r, .l, .r, .b, .lb none] (bodyOf Go.Proofs.Try.f51) []
def t51_1004 (l : List (Int × Int)) (kind : Int) (boxess_k : Nat) (boxess : List (Int × List Int × List Int)) (outs : List (Int × List Int × List Int)) (t19s : List Int) (t20 : Int) (t21 : Int) : St := [(2, Cell.val (AVal.slc 57 (Ty.pair (Ty.int IntKind.i64) (Ty.int IntKind.i64)) l)), (4, Cell.val (AVal.int IntKind.i64 kind)), (14, Cell.val (AVal.ref 33 none)), (33, Cell.deep 31 (Ty.pair (Ty.int IntKind.i64) (Ty.pair (Ty.slice 3 (Ty.int IntKind.i64)) (Ty.slice 3 (Ty.int IntKind.i64)))) boxess_k boxess none), (18, Cell.val (AVal.ref 35 none)), (35, Cell.deep 31 (Ty.pair (Ty.int IntKind.i64) (Ty.pair (Ty.slice 3 (Ty.int IntKind.i64)) (Ty.slice 3 (Ty.int IntKind.i64)))) 0 outs none), (38, Cell.val (AVal.ref 37 none)), (37, Cell.row true 3 (Ty.int IntKind.i64) t19s), (40, Cell.val (AVal.int IntKind.i64 t20)), (42, Cell.val (AVal.int IntKind.i64 t21))]
theorem e51_1004 (k : Nat) (l : List (Int × Int)) (kind : Int) (boxess_k : Nat) (boxess : List (Int × List Int × List Int)) (outs : List (Int × List Int × List Int)) (t19s : List Int) (t20 : Int) (t21 : Int) : x51 (k + 1) k51_1004 (t51_1004 l kind boxess_k boxess outs t19s t20 t21) = F51_1004 k (fun (l : List (Int × Int)) (kind : Int) (boxess_k : Nat) (boxess : List (Int × List Int × List Int)) (outs : List (Int × List Int × List Int)) (t19s : List Int) (t20 : Int) (t21 : Int) => x51 k k51_1004 (t51_1004 l kind boxess_k boxess outs t19s t20 t21)) l kind boxess_k boxess outs t19s t20 t21 := by kernel_rfl
theorem q51 : ∀ k : Nat, (fun (l : List (Int × Int)) (kind : Int) (boxess_k : Nat) (boxess : List (Int × List Int × List Int)) (outs : List (Int × List Int × List Int)) (t19s : List Int) (t20 : Int) (t21 : Int) => x51 k k51_1004 (t51_1004 l kind boxess_k boxess outs t19s t20 t21)) = l51 k
  | 0 => rfl
  | k + 1 => by
    have h := q51 k
    show _ = F51_1004 k (l51 k)
    rw [← h]
    exact (funext fun l => funext fun kind => funext fun boxess_k => funext fun boxess => funext fun outs => funext fun t19s => funext fun t20 => funext fun t21 => e51_1004 k l kind boxess_k boxess outs t19s t20 t21)
theorem w51 (k : Nat) (b : Int × (List (Int)) × List (Int)) (l : List (Int × Int)) (kind : Int) : runFn ti (envOf env61) 42 h51 (finD ti Go.Proofs.Try.f51.results.toList [(.slice 31 (.pair (.int .i64) (.pair (.slice 3 (.int .i64)) (.slice 3 (.int .i64)))), false)] (.slice 31 (.pair (.int .i64) (.pair (.slice 3 (.int .i64)) (.slice 3 (.int .i64)))))) k (bodyOf Go.Proofs.Try.f51) (initS 0 [.fptr (.pair (.int .i64) (.pair (.slice 3 (.int .i64)) (.slice 3 (.int .i64)))) b, .slc 57 (.pair (.int .i64) (.int .i64)) l, .int .i64 kind]) = F51 k (fun (l : List (Int × Int)) (kind : Int) (boxess_k : Nat) (boxess : List (Int × List Int × List Int)) (outs : List (Int × List Int × List Int)) (t19s : List Int) (t20 : Int) (t21 : Int) => x51 k k51_1004 (t51_1004 l kind boxess_k boxess outs t19s t20 t21)) b l kind := by kernel_rfl
theorem v51 (k : Nat) (b : Int × (List (Int)) × List (Int)) (l : List (Int × Int)) (kind : Int) : runFn ti (envOf env61) 42 h51 (finD ti Go.Proofs.Try.f51.results.toList [(.slice 31 (.pair (.int .i64) (.pair (.slice 3 (.int .i64)) (.slice 3 (.int .i64)))), false)] (.slice 31 (.pair (.int .i64) (.pair (.slice 3 (.int .i64)) (.slice 3 (.int .i64)))))) k (bodyOf Go.Proofs.Try.f51) (initS 0 [.fptr (.pair (.int .i64) (.pair (.slice 3 (.int .i64)) (.slice 3 (.int .i64)))) b, .slc 57 (.pair (.int .i64) (.int .i64)) l, .int .i64 kind]) = f51 k b l kind := by
  rw [w51]
  have h := q51 k
  unfold f51
  rw [← h]
theorem m51 : Meets Go.Proofs.Try.prog 51 s51 := meets_deep_of_run tiOk env61_ok mo Go.Proofs.Try.func51 (body := bodyOf Go.Proofs.Try.f51) (by kernel_rfl) (N := 42) (by kernel_rfl) (hs := h51) (by
  intro k xs r h
  unfold s51 at h
  dsimp only at h
  split at h
  · exact ⟨Nat.le_of_ble_eq_true rfl, (v51 k _ _ _).trans h⟩
  · cases h)
theorem env62_ok : EnvOk Go.Proofs.Try.prog (envOf env62) := envOf_cons m51 Go.Proofs.Try.func51 (by kernel_rfl) (by kernel_rfl) env61_ok

-- impl.BoxesOfKind
noncomputable def f21 (k : Nat) (b_K : Int) (b_Low : List (Int)) (b_High : List (Int)) (l : List (Int × Int)) (kind : Int) : Option ((List (Int × (List (Int)) × List (Int))) × Bool) :=
  (f49 k (b_K, b_Low, b_High) l).bind fun r0 =>
  bif !r0 then
    some (([], false))
  else
    (f50 k kind).bind fun r1 =>
    bif !r1 then
      some (([], false))
    else
      (f51 k (b_K, b_Low, b_High) l kind).bind fun r2 =>
      some ((r2, true))
noncomputable def s21 : Spec := ⟨false, [(.slice 31 (.pair (.int .i64) (.pair (.slice 3 (.int .i64)) (.slice 3 (.int .i64)))), false), (.bool, false)], true, .pair (.slice 31 (.pair (.int .i64) (.pair (.slice 3 (.int .i64)) (.slice 3 (.int .i64))))) (.bool), fun k xs => match xs with | [.agg [.int .i64 b_K, .slc 3 (.int .i64) b_Low, .slc 3 (.int .i64) b_High], .slc 57 (.pair (.int .i64) (.int .i64)) l, .int .i64 kind] => f21 k b_K b_Low b_High l kind | _ => none, false, none, true⟩
noncomputable def env63 : List (FuncId × Spec) := (21, s21) :: env62
theorem v21 (k : Nat) (b_K : Int) (b_Low : List (Int)) (b_High : List (Int)) (l : List (Int × Int)) (kind : Int) : runFn ti (envOf env62) 19 [] (finD ti Go.Proofs.Try.f21.results.toList [(.slice 31 (.pair (.int .i64) (.pair (.slice 3 (.int .i64)) (.slice 3 (.int .i64)))), false), (.bool, false)] (.pair (.slice 31 (.pair (.int .i64) (.pair (.slice 3 (.int .i64)) (.slice 3 (.int .i64))))) (.bool))) k (bodyOf Go.Proofs.Try.f21) (initS 0 [.agg [.int .i64 b_K, .slc 3 (.int .i64) b_Low, .slc 3 (.int .i64) b_High], .slc 57 (.pair (.int .i64) (.int .i64)) l, .int .i64 kind]) = f21 k b_K b_Low b_High l kind := by kernel_rfl
theorem m21 : Meets Go.Proofs.Try.prog 21 s21 := meets_deep_of_run tiOk env62_ok mo Go.Proofs.Try.func21 (body := bodyOf Go.Proofs.Try.f21) (by kernel_rfl) (N := 19) (by kernel_rfl) (hs := []) (by
  intro k xs r h
  unfold s21 at h
  dsimp only at h
  split at h
  · exact ⟨Nat.le_of_ble_eq_true rfl, (v21 k _ _ _ _ _).trans h⟩
  · cases h)
theorem env63_ok : EnvOk Go.Proofs.Try.prog (envOf env63) := envOf_cons m21 Go.Proofs.Try.func21 (by kernel_rfl) (by kernel_rfl) env62_ok

-- laws.FnExactBoxesOfKind
noncomputable def f4 (k : Nat) (L_K : Int) (L_Low : List (Int)) (L_High : List (Int)) (i : List (Int × Int)) (s : Int) : Option (Bool) :=
  (f7 k L_K L_Low L_High 1000000).bind fun r0 =>
  bif decide (r0 < 0) then
    some true
  else
    (f8 k i r0).bind fun r1 =>
    bif decide (r1 < 0) then
      some true
    else
      (f10 k L_K L_Low L_High false).bind fun r2 =>
      (f11 k i false).bind fun r3 =>
      (f20 k r2.fst (List.take r2.snd.fst.snd r2.snd.fst.fst) (List.take r2.snd.snd.snd r2.snd.snd.fst) (List.take r3.snd r3.fst) s).bind fun r4 =>
      (f10 k L_K L_Low L_High false).bind fun r5 =>
      (f11 k i false).bind fun r6 =>
      (f21 k r5.fst (List.take r5.snd.fst.snd r5.snd.fst.fst) (List.take r5.snd.snd.snd r5.snd.snd.fst) (List.take r6.snd r6.fst) s).bind fun r7 =>
      (f13 k r7.fst r4.fst).bind fun r8 =>
      bif !r8 then
        some false
      else
        bif !r7.snd == r4.snd then
          some false
        else
          (f10 k L_K L_Low L_High false).bind fun r9 =>
          (f14 k r5.fst r5.snd.fst.fst r5.snd.fst.snd r5.snd.snd.fst r5.snd.snd.snd r9.fst r9.snd.fst.fst r9.snd.fst.snd r9.snd.snd.fst r9.snd.snd.snd).bind fun r10 =>
          bif !r10 then
            some false
          else
            (f11 k i false).bind fun r11 =>
            (f15 k r6.fst r6.snd r11.fst r11.snd).bind fun r12 =>
            bif !r12 then
              some false
            else
              (f16 k r5.snd.fst.fst r5.snd.snd.fst r5.fst r5.snd.fst.snd r5.snd.snd.snd 101).bind fun r13 =>
              (f17 k r6.fst r6.snd r13.snd).bind fun r14 =>
              bif decide (r14.snd < 0) then
                some false
              else
                (f13 k r7.fst r4.fst).bind fun r15 =>
                bif !r15 then
                  some false
                else
                  bif !r7.snd == r4.snd then
                    some false
                  else
                    (f18 k r7.fst 101).bind fun r16 =>
                    (f19 k r16.fst 101).bind fun r17 =>
                    bif decide (r17 < 0) then
                      some false
                    else
                      bif !decide (r17 = r16.snd) then
                        some false
                      else
                        (f10 k L_K L_Low L_High true).bind fun r18 =>
                        (f11 k i true).bind fun r19 =>
                        (f21 k r18.fst (List.take r18.snd.fst.snd r18.snd.fst.fst) (List.take r18.snd.snd.snd r18.snd.snd.fst) (List.take r19.snd r19.fst) s).bind fun r20 =>
                        (f13 k r20.fst r4.fst).bind fun r21 =>
                        bif !r21 then
                          some false
                        else
                          bif !r20.snd == r4.snd then
                            some false
                          else
                            (f19 k r16.fst 101).bind fun r22 =>
                            bif decide (r22 < 0) then
                              some false
                            else
                              bif !decide (r22 = r16.snd) then
                                some false
                              else
                                some true
noncomputable def s4 : Spec := ⟨false, [(.bool, false)], true, .bool, fun k xs => match xs with | [.agg [.int .i64 L_K, .slc 3 (.int .i64) L_Low, .slc 3 (.int .i64) L_High], .slc 59 (.pair (.int .i64) (.int .i64)) i, .int .i64 s] => f4 k L_K L_Low L_High i s | _ => none, false, none, false⟩
noncomputable def env64 : List (FuncId × Spec) := (4, s4) :: env63
theorem v4 (k : Nat) (L_K : Int) (L_Low : List (Int)) (L_High : List (Int)) (i : List (Int × Int)) (s : Int) : runFn tiV (envOf env63) 124 [] (finT tiV true Go.Proofs.Try.f4.results.toList [(.bool, false)] (.bool)) k (bodyOf Go.Proofs.Try.f4) (initS 0 [.agg [.int .i64 L_K, .slc 3 (.int .i64) L_Low, .slc 3 (.int .i64) L_High], .slc 59 (.pair (.int .i64) (.int .i64)) i, .int .i64 s]) = f4 k L_K L_Low L_High i s := by kernel_rfl
theorem m4 : Meets Go.Proofs.Try.prog 4 s4 := meets_of_run tiVOk env63_ok mo Go.Proofs.Try.func4 (body := bodyOf Go.Proofs.Try.f4) (by kernel_rfl) (N := 124) (by kernel_rfl) (hs := []) (by
  intro k xs r h
  unfold s4 at h
  dsimp only at h
  split at h
  · exact ⟨Nat.le_of_ble_eq_true rfl, (v4 k _ _ _ _ _).trans h⟩
  · cases h)
theorem env64_ok : EnvOk Go.Proofs.Try.prog (envOf env64) := envOf_cons m4 Go.Proofs.Try.func4 (by kernel_rfl) (by kernel_rfl) env63_ok

-- spec.bxAt
def h81 : Hints := [(1004, .lab [(1, .box 31 [.v, .frz 3 (Ty.int IntKind.i64), .frz 3 (Ty.int IntKind.i64)]), (4, .one (.own 3 (Ty.int IntKind.i64))), (5, .one (.own 3 (Ty.int IntKind.i64))), (6, .one (.v)), (14, .one (.frz 3 (Ty.int IntKind.i64))), (15, .one (.v)), (16, .one (.v))])]
noncomputable def F81_1004 (k : Nat) (rec1004 : Int → List Int → List Int → List Int → List Int → Int → List Int → Int → Int → Option ((List (Int)) × List (Int))) (bs_0 : Int) (bs_1 : List Int) (bs_2 : List Int) (lows : List Int) (highs : List Int) (step : Int) (t14 : List Int) (t15 : Int) (t16 : Int) : Option ((List (Int)) × List (Int)) :=
  bif decide (t16 < t15) then
    bif boundA t16 (List.length t14) then
      bif decide ((List.length lows + List.length [IntKind.wrap IntKind.i64 (List.getD t14 (Int.toNat t16) 0 * step)]) * 8 ≤ 140737488355328) then
        bif boundA t16 (List.length bs_2) then
          bif decide ((List.length highs + List.length [IntKind.wrap IntKind.i64 (List.getD bs_2 (Int.toNat t16) 0 * step)]) * 8 ≤ 140737488355328) then
            rec1004 bs_0 bs_1 bs_2 (lows ++ [IntKind.wrap IntKind.i64 (List.getD t14 (Int.toNat t16) 0 * step)]) (highs ++ [IntKind.wrap IntKind.i64 (List.getD bs_2 (Int.toNat t16) 0 * step)]) step t14 t15 (IntKind.wrap IntKind.i64 (t16 + 1))
          else
            none
        else
          none
      else
        none
    else
      none
  else
    some ((lows, highs))
noncomputable def F81 (k : Nat) (rec1004 : Int → List Int → List Int → List Int → List Int → Int → List Int → Int → Int → Option ((List (Int)) × List (Int))) (b_K : Int) (b_Low : List (Int)) (b_High : List (Int)) : Option ((List (Int)) × List (Int)) :=
  (f61 k (IntKind.wrap IntKind.i64 (8 - b_K))).bind fun r0 =>
  rec1004 b_K b_Low b_High ([]) ([]) r0 b_Low ((↑(List.length b_Low) : Int)) (0)
noncomputable def l81 : Nat → (Int → List Int → List Int → List Int → List Int → Int → List Int → Int → Int → Option ((List (Int)) × List (Int)))
  | 0 => fun _ _ _ _ _ _ _ _ _ => none
  | k + 1 => F81_1004 k (l81 k)
noncomputable def f81 (k : Nat) (b_K : Int) (b_Low : List (Int)) (b_High : List (Int)) : Option ((List (Int)) × List (Int)) := F81 k (l81 k) b_K b_Low b_High
noncomputable def s81 : Spec := ⟨false, [(.slice 3 (.int .i64), false), (.slice 3 (.int .i64), false)], true, .pair (.slice 3 (.int .i64)) (.slice 3 (.int .i64)), fun k xs => match xs with | [.agg [.int .i64 b_K, .slc 3 (.int .i64) b_Low, .slc 3 (.int .i64) b_High]] => f81 k b_K b_Low b_High | _ => none, false, none, false⟩
noncomputable def env65 : List (FuncId × Spec) := (81, s81) :: env64
noncomputable abbrev x81 := exec ti (envOf env64) 40 h81 (finT ti true Go.Proofs.Try.f81.results.toList [(.slice 3 (.int .i64), false), (.slice 3 (.int .i64), false)] (.pair (.slice 3 (.int .i64)) (.slice 3 (.int .i64))))
noncomputable def k81_1004 : List It := stackAt [.r, .r, .r, .l, .r, .b, .lb none] (bodyOf Go.Proofs.Try.f81) []
def t81_1004 (bs_0 : Int) (bs_1 : List Int) (bs_2 : List Int) (lows : List Int) (highs : List Int) (step : Int) (t14 : List Int) (t15 : Int) (t16 : Int) : St := [(2, Cell.val (AVal.ptr 33 0)), (33, Cell.mem true 31 [AVal.int IntKind.i64 bs_0, AVal.slc 3 (Ty.int IntKind.i64) bs_1, AVal.slc 3 (Ty.int IntKind.i64) bs_2]), (8, Cell.val (AVal.ref 35 none)), (35, Cell.row true 3 (Ty.int IntKind.i64) lows), (10, Cell.val (AVal.ref 37 none)), (37, Cell.row true 3 (Ty.int IntKind.i64) highs), (12, Cell.val (AVal.int IntKind.i64 step)), (28, Cell.val (AVal.slc 3 (Ty.int IntKind.i64) t14)), (30, Cell.val (AVal.int IntKind.i64 t15)), (32, Cell.val (AVal.int IntKind.i64 t16))]
theorem e81_1004 (k : Nat) (bs_0 : Int) (bs_1 : List Int) (bs_2 : List Int) (lows : List Int) (highs : List Int) (step : Int) (t14 : List Int) (t15 : Int) (t16 : Int) : x81 (k + 1) k81_1004 (t81_1004 bs_0 bs_1 bs_2 lows highs step t14 t15 t16) = F81_1004 k (fun (bs_0 : Int) (bs_1 : List Int) (bs_2 : List Int) (lows : List Int) (highs : List Int) (step : Int) (t14 : List Int) (t15 : Int) (t16 : Int) => x81 k k81_1004 (t81_1004 bs_0 bs_1 bs_2 lows highs step t14 t15 t16)) bs_0 bs_1 bs_2 lows highs step t14 t15 t16 := by kernel_rfl
theorem q81 : ∀ k : Nat, (fun (bs_0 : Int) (bs_1 : List Int) (bs_2 : List Int) (lows : List Int) (highs : List Int) (step : Int) (t14 : List Int) (t15 : Int) (t16 : Int) => x81 k k81_1004 (t81_1004 bs_0 bs_1 bs_2 lows highs step t14 t15 t16)) = l81 k
  | 0 => rfl
  | k + 1 => by
    have h := q81 k
    show _ = F81_1004 k (l81 k)
    rw [← h]
    exact (funext fun bs_0 => funext fun bs_1 => funext fun bs_2 => funext fun lows => funext fun highs => funext fun step => funext fun t14 => funext fun t15 => funext fun t16 => e81_1004 k bs_0 bs_1 bs_2 lows highs step t14 t15 t16)
theorem w81 (k : Nat) (b_K : Int) (b_Low : List (Int)) (b_High : List (Int)) : runFn ti (envOf env64) 40 h81 (finT ti true Go.Proofs.Try.f81.results.toList [(.slice 3 (.int .i64), false), (.slice 3 (.int .i64), false)] (.pair (.slice 3 (.int .i64)) (.slice 3 (.int .i64)))) k (bodyOf Go.Proofs.Try.f81) (initS 0 [.agg [.int .i64 b_K, .slc 3 (.int .i64) b_Low, .slc 3 (.int .i64) b_High]]) = F81 k (fun (bs_0 : Int) (bs_1 : List Int) (bs_2 : List Int) (lows : List Int) (highs : List Int) (step : Int) (t14 : List Int) (t15 : Int) (t16 : Int) => x81 k k81_1004 (t81_1004 bs_0 bs_1 bs_2 lows highs step t14 t15 t16)) b_K b_Low b_High := by kernel_rfl
theorem v81 (k : Nat) (b_K : Int) (b_Low : List (Int)) (b_High : List (Int)) : runFn ti (envOf env64) 40 h81 (finT ti true Go.Proofs.Try.f81.results.toList [(.slice 3 (.int .i64), false), (.slice 3 (.int .i64), false)] (.pair (.slice 3 (.int .i64)) (.slice 3 (.int .i64)))) k (bodyOf Go.Proofs.Try.f81) (initS 0 [.agg [.int .i64 b_K, .slc 3 (.int .i64) b_Low, .slc 3 (.int .i64) b_High]]) = f81 k b_K b_Low b_High := by
  rw [w81]
  have h := q81 k
  unfold f81
  rw [← h]
theorem m81 : Meets Go.Proofs.Try.prog 81 s81 := meets_of_run tiOk env64_ok mo Go.Proofs.Try.func81 (body := bodyOf Go.Proofs.Try.f81) (by kernel_rfl) (N := 40) (by kernel_rfl) (hs := h81) (by
  intro k xs r h
  unfold s81 at h
  dsimp only at h
  split at h
  · exact ⟨Nat.le_of_ble_eq_true rfl, (v81 k _ _ _).trans h⟩
  · cases h)
theorem env65_ok : EnvOk Go.Proofs.Try.prog (envOf env65) := envOf_cons m81 Go.Proofs.Try.func81 (by kernel_rfl) (by kernel_rfl) env64_ok

-- spec.l1Most
noncomputable def f82 (k : Nat) (a : Int) (b : Int) : Option (Int) :=
  bif decide (b < a) then
    some a
  else
    some b
noncomputable def s82 : Spec := ⟨false, [(.int .i64, false)], true, .int .i64, fun k xs => match xs with | [.int .i64 a, .int .i64 b] => f82 k a b | _ => none, false, none, false⟩
noncomputable def env66 : List (FuncId × Spec) := (82, s82) :: env65
theorem v82 (k : Nat) (a : Int) (b : Int) : runFn ti (envOf env65) 10 [] (finT ti true Go.Proofs.Try.f82.results.toList [(.int .i64, false)] (.int .i64)) k (bodyOf Go.Proofs.Try.f82) (initS 0 [.int .i64 a, .int .i64 b]) = f82 k a b := by kernel_rfl
theorem m82 : Meets Go.Proofs.Try.prog 82 s82 := meets_of_run tiOk env65_ok mo Go.Proofs.Try.func82 (body := bodyOf Go.Proofs.Try.f82) (by kernel_rfl) (N := 10) (by kernel_rfl) (hs := []) (by
  intro k xs r h
  unfold s82 at h
  dsimp only at h
  split at h
  · exact ⟨Nat.le_of_ble_eq_true rfl, (v82 k _ _).trans h⟩
  · cases h)
theorem env66_ok : EnvOk Go.Proofs.Try.prog (envOf env66) := envOf_cons m82 Go.Proofs.Try.func82 (by kernel_rfl) (by kernel_rfl) env65_ok

-- spec.l1Least
noncomputable def f83 (k : Nat) (a : Int) (b : Int) : Option (Int) :=
  bif decide (a < b) then
    some a
  else
    some b
noncomputable def s83 : Spec := ⟨false, [(.int .i64, false)], true, .int .i64, fun k xs => match xs with | [.int .i64 a, .int .i64 b] => f83 k a b | _ => none, false, none, false⟩
noncomputable def env67 : List (FuncId × Spec) := (83, s83) :: env66
theorem v83 (k : Nat) (a : Int) (b : Int) : runFn ti (envOf env66) 10 [] (finT ti true Go.Proofs.Try.f83.results.toList [(.int .i64, false)] (.int .i64)) k (bodyOf Go.Proofs.Try.f83) (initS 0 [.int .i64 a, .int .i64 b]) = f83 k a b := by kernel_rfl
theorem m83 : Meets Go.Proofs.Try.prog 83 s83 := meets_of_run tiOk env66_ok mo Go.Proofs.Try.func83 (body := bodyOf Go.Proofs.Try.f83) (by kernel_rfl) (N := 10) (by kernel_rfl) (hs := []) (by
  intro k xs r h
  unfold s83 at h
  dsimp only at h
  split at h
  · exact ⟨Nat.le_of_ble_eq_true rfl, (v83 k _ _).trans h⟩
  · cases h)
theorem env67_ok : EnvOk Go.Proofs.Try.prog (envOf env67) := envOf_cons m83 Go.Proofs.Try.func83 (by kernel_rfl) (by kernel_rfl) env66_ok

-- spec.rpTouch
def h57 : Hints := [(1004, .lab [(6, .one (.own 3 (Ty.int IntKind.i64))), (7, .one (.own 3 (Ty.int IntKind.i64))), (8, .one (.own 3 (Ty.int IntKind.i64))), (21, .one (.own 3 (Ty.int IntKind.i64))), (22, .one (.v)), (23, .one (.v))])]
noncomputable def F57_1004 (k : Nat) (rec1004 : List Int → List Int → List Int → List Int → Int → Int → Option (Bool)) (highs : List Int) (leasts : List Int) (mosts : List Int) (t21s : List Int) (t22 : Int) (t23 : Int) : Option (Bool) :=
  bif decide (t23 < t22) then
    bif boundA t23 (List.length t21s) then
      bif Nat.blt (Int.toNat t23) (List.length t21s) then
        bif boundA t23 (List.length leasts) then
          bif Nat.blt (Int.toNat t23) (List.length leasts) then
            (f82 k (List.getD t21s (Int.toNat t23) 0) (List.getD leasts (Int.toNat t23) 0)).bind fun r0 =>
            bif boundA t23 (List.length highs) then
              bif Nat.blt (Int.toNat t23) (List.length highs) then
                bif boundA t23 (List.length mosts) then
                  bif Nat.blt (Int.toNat t23) (List.length mosts) then
                    (f83 k (List.getD highs (Int.toNat t23) 0) (List.getD mosts (Int.toNat t23) 0)).bind fun r1 =>
                    bif decide (r1 < r0) then
                      some false
                    else
                      rec1004 highs leasts mosts t21s t22 (IntKind.wrap IntKind.i64 (t23 + 1))
                  else
                    none
                else
                  none
              else
                none
            else
              none
          else
            none
        else
          none
      else
        none
    else
      none
  else
    some true
noncomputable def F57 (k : Nat) (rec1004 : List Int → List Int → List Int → List Int → Int → Int → Option (Bool)) (a_K : Int) (a_Low : List (Int)) (a_High : List (Int)) (b_K : Int) (b_Low : List (Int)) (b_High : List (Int)) : Option (Bool) :=
  (f81 k a_K a_Low a_High).bind fun r0 =>
  (f81 k b_K b_Low b_High).bind fun r1 =>
  rec1004 (r0.snd) (r1.fst) (r1.snd) (r0.fst) ((↑(List.length r0.fst) : Int)) (0)
noncomputable def l57 : Nat → (List Int → List Int → List Int → List Int → Int → Int → Option (Bool))
  | 0 => fun _ _ _ _ _ _ => none
  | k + 1 => F57_1004 k (l57 k)
noncomputable def f57 (k : Nat) (a_K : Int) (a_Low : List (Int)) (a_High : List (Int)) (b_K : Int) (b_Low : List (Int)) (b_High : List (Int)) : Option (Bool) := F57 k (l57 k) a_K a_Low a_High b_K b_Low b_High
noncomputable def s57 : Spec := ⟨false, [(.bool, false)], true, .bool, fun k xs => match xs with | [.agg [.int .i64 a_K, .slc 3 (.int .i64) a_Low, .slc 3 (.int .i64) a_High], .agg [.int .i64 b_K, .slc 3 (.int .i64) b_Low, .slc 3 (.int .i64) b_High]] => f57 k a_K a_Low a_High b_K b_Low b_High | _ => none, false, none, false⟩
noncomputable def env68 : List (FuncId × Spec) := (57, s57) :: env67
noncomputable abbrev x57 := exec ti (envOf env67) 45 h57 (finT ti true Go.Proofs.Try.f57.results.toList [(.bool, false)] (.bool))
noncomputable def k57_1004 : List It := stackAt [.r, .r, .r, .l, .r, .b, .lb none] (bodyOf Go.Proofs.Try.f57) []
def t57_1004 (highs : List Int) (leasts : List Int) (mosts : List Int) (t21s : List Int) (t22 : Int) (t23 : Int) : St := [(12, Cell.val (AVal.ref 33 none)), (33, Cell.row true 3 (Ty.int IntKind.i64) highs), (14, Cell.val (AVal.ref 35 none)), (35, Cell.row true 3 (Ty.int IntKind.i64) leasts), (16, Cell.val (AVal.ref 37 none)), (37, Cell.row true 3 (Ty.int IntKind.i64) mosts), (42, Cell.val (AVal.ref 39 none)), (39, Cell.row true 3 (Ty.int IntKind.i64) t21s), (44, Cell.val (AVal.int IntKind.i64 t22)), (46, Cell.val (AVal.int IntKind.i64 t23))]
theorem e57_1004 (k : Nat) (highs : List Int) (leasts : List Int) (mosts : List Int) (t21s : List Int) (t22 : Int) (t23 : Int) : x57 (k + 1) k57_1004 (t57_1004 highs leasts mosts t21s t22 t23) = F57_1004 k (fun (highs : List Int) (leasts : List Int) (mosts : List Int) (t21s : List Int) (t22 : Int) (t23 : Int) => x57 k k57_1004 (t57_1004 highs leasts mosts t21s t22 t23)) highs leasts mosts t21s t22 t23 := by kernel_rfl
theorem q57 : ∀ k : Nat, (fun (highs : List Int) (leasts : List Int) (mosts : List Int) (t21s : List Int) (t22 : Int) (t23 : Int) => x57 k k57_1004 (t57_1004 highs leasts mosts t21s t22 t23)) = l57 k
  | 0 => rfl
  | k + 1 => by
    have h := q57 k
    show _ = F57_1004 k (l57 k)
    rw [← h]
    exact (funext fun highs => funext fun leasts => funext fun mosts => funext fun t21s => funext fun t22 => funext fun t23 => e57_1004 k highs leasts mosts t21s t22 t23)
theorem w57 (k : Nat) (a_K : Int) (a_Low : List (Int)) (a_High : List (Int)) (b_K : Int) (b_Low : List (Int)) (b_High : List (Int)) : runFn ti (envOf env67) 45 h57 (finT ti true Go.Proofs.Try.f57.results.toList [(.bool, false)] (.bool)) k (bodyOf Go.Proofs.Try.f57) (initS 0 [.agg [.int .i64 a_K, .slc 3 (.int .i64) a_Low, .slc 3 (.int .i64) a_High], .agg [.int .i64 b_K, .slc 3 (.int .i64) b_Low, .slc 3 (.int .i64) b_High]]) = F57 k (fun (highs : List Int) (leasts : List Int) (mosts : List Int) (t21s : List Int) (t22 : Int) (t23 : Int) => x57 k k57_1004 (t57_1004 highs leasts mosts t21s t22 t23)) a_K a_Low a_High b_K b_Low b_High := by kernel_rfl
theorem v57 (k : Nat) (a_K : Int) (a_Low : List (Int)) (a_High : List (Int)) (b_K : Int) (b_Low : List (Int)) (b_High : List (Int)) : runFn ti (envOf env67) 45 h57 (finT ti true Go.Proofs.Try.f57.results.toList [(.bool, false)] (.bool)) k (bodyOf Go.Proofs.Try.f57) (initS 0 [.agg [.int .i64 a_K, .slc 3 (.int .i64) a_Low, .slc 3 (.int .i64) a_High], .agg [.int .i64 b_K, .slc 3 (.int .i64) b_Low, .slc 3 (.int .i64) b_High]]) = f57 k a_K a_Low a_High b_K b_Low b_High := by
  rw [w57]
  have h := q57 k
  unfold f57
  rw [← h]
theorem m57 : Meets Go.Proofs.Try.prog 57 s57 := meets_of_run tiOk env67_ok mo Go.Proofs.Try.func57 (body := bodyOf Go.Proofs.Try.f57) (by kernel_rfl) (N := 45) (by kernel_rfl) (hs := h57) (by
  intro k xs r h
  unfold s57 at h
  dsimp only at h
  split at h
  · exact ⟨Nat.le_of_ble_eq_true rfl, (v57 k _ _ _ _ _ _).trans h⟩
  · cases h)
theorem env68_ok : EnvOk Go.Proofs.Try.prog (envOf env68) := envOf_cons m57 Go.Proofs.Try.func57 (by kernel_rfl) (by kernel_rfl) env67_ok

-- spec.TouchingHolds
def h26 : Hints := [(1007, .lab [(6, .one (.own 31 (Ty.pair (Ty.int IntKind.i64) (Ty.pair (Ty.slice 3 (Ty.int IntKind.i64)) (Ty.slice 3 (Ty.int IntKind.i64)))))), (8, .one (.own 57 (Ty.pair (Ty.int IntKind.i64) (Ty.int IntKind.i64)))), (9, .one (.own 22 (Ty.slice 3 (Ty.int IntKind.i64)))), (23, .one (.own 57 (Ty.pair (Ty.int IntKind.i64) (Ty.int IntKind.i64)))), (24, .one (.v)), (25, .one (.v))]), (1010, .lab [(6, .one (.own 31 (Ty.pair (Ty.int IntKind.i64) (Ty.pair (Ty.slice 3 (Ty.int IntKind.i64)) (Ty.slice 3 (Ty.int IntKind.i64)))))), (8, .one (.own 57 (Ty.pair (Ty.int IntKind.i64) (Ty.int IntKind.i64)))), (9, .one (.own 22 (Ty.slice 3 (Ty.int IntKind.i64)))), (10, .one (.v)), (11, .box 57 [.v, .v]), (12, .one (.v)), (23, .one (.own 57 (Ty.pair (Ty.int IntKind.i64) (Ty.int IntKind.i64)))), (24, .one (.v)), (25, .one (.v))])]
noncomputable def F26_1007 (k : Nat) (rec1007 : List (Int × List Int × List Int) → List (Int × Int) → List (List Int) → Int → Int → Option ((List (List (Int))) × Bool)) (rec1010 : List (Int × List Int × List Int) → List (Int × Int) → List (List Int) → Int → Int → Int → Int → Int → Int → Option ((List (List (Int))) × Bool)) (os : List (Int × List Int × List Int)) (rs : List (Int × Int)) (r_9s : List (List Int)) (t24 : Int) (t25 : Int) : Option ((List (List (Int))) × Bool) :=
  bif decide (t25 < t24) then
    bif boundA t25 (List.length rs) then
      bif Nat.blt (Int.toNat t25) (List.length rs) then
        rec1010 os rs r_9s t25 ((List.getD rs (Int.toNat t25) (0, 0)).fst) ((List.getD rs (Int.toNat t25) (0, 0)).snd) (IntKind.wrap IntKind.i64 (t25 + 1)) t24 t25
      else
        none
    else
      none
  else
    some ((r_9s, true))
noncomputable def F26_1010 (k : Nat) (rec1007 : List (Int × List Int × List Int) → List (Int × Int) → List (List Int) → Int → Int → Option ((List (List (Int))) × Bool)) (rec1010 : List (Int × List Int × List Int) → List (Int × Int) → List (List Int) → Int → Int → Int → Int → Int → Int → Option ((List (List (Int))) × Bool)) (os : List (Int × List Int × List Int)) (rs : List (Int × Int)) (r_9s : List (List Int)) (a : Int) (ys_0 : Int) (ys_1 : Int) (t12 : Int) (t24 : Int) (t25 : Int) : Option ((List (List (Int))) × Bool) :=
  bif decide (t12 < (↑(List.length rs) : Int)) then
    bif decide (ys_0 = 2) then
      bif boundA t12 (List.length rs) then
        bif Nat.blt (Int.toNat t12) (List.length rs) then
          bif decide ((List.getD rs (Int.toNat t12) (0, 0)).fst = 2) then
            bif boundA a (List.length os) then
              bif Nat.blt (Int.toNat a) (List.length os) then
                bif boundA t12 (List.length os) then
                  bif Nat.blt (Int.toNat t12) (List.length os) then
                    (f57 k (List.getD os (Int.toNat a) (0, [], [])).fst (List.getD os (Int.toNat a) (0, [], [])).snd.fst (List.getD os (Int.toNat a) (0, [], [])).snd.snd (List.getD os (Int.toNat t12) (0, [], [])).fst (List.getD os (Int.toNat t12) (0, [], [])).snd.fst (List.getD os (Int.toNat t12) (0, [], [])).snd.snd).bind fun r0 =>
                    bif r0 then
                      bif decide ((List.length r_9s + List.length [[a, t12]]) * 24 ≤ 140737488355328) then
                        rec1010 os rs (r_9s ++ [[a, t12]]) a ys_0 ys_1 (IntKind.wrap IntKind.i64 (t12 + 1)) t24 t25
                      else
                        none
                    else
                      rec1010 os rs r_9s a ys_0 ys_1 (IntKind.wrap IntKind.i64 (t12 + 1)) t24 t25
                  else
                    none
                else
                  none
              else
                none
            else
              none
          else
            rec1010 os rs r_9s a ys_0 ys_1 (IntKind.wrap IntKind.i64 (t12 + 1)) t24 t25
        else
          none
      else
        none
    else
      rec1010 os rs r_9s a ys_0 ys_1 (IntKind.wrap IntKind.i64 (t12 + 1)) t24 t25
  else
    rec1007 os rs r_9s t24 (IntKind.wrap IntKind.i64 (t25 + 1))
noncomputable def F26 (k : Nat) (rec1007 : List (Int × List Int × List Int) → List (Int × Int) → List (List Int) → Int → Int → Option ((List (List (Int))) × Bool)) (rec1010 : List (Int × List Int × List Int) → List (Int × Int) → List (List Int) → Int → Int → Int → Int → Int → Int → Option ((List (List (Int))) × Bool)) (L_K : Int) (L_Low : List (Int)) (L_High : List (Int)) (i : List (Int × Int)) : Option ((List (List (Int))) × Bool) :=
  (f46 k L_K L_Low L_High i).bind fun r0 =>
  bif !r0.snd then
    some (([], false))
  else
    (f48 k i).bind fun r1 =>
    rec1007 (r0.fst) r1 ([]) ((↑(List.length r1) : Int)) (0)
noncomputable def l26 : Nat → (List (Int × List Int × List Int) → List (Int × Int) → List (List Int) → Int → Int → Option ((List (List (Int))) × Bool)) × (List (Int × List Int × List Int) → List (Int × Int) → List (List Int) → Int → Int → Int → Int → Int → Int → Option ((List (List (Int))) × Bool))
  | 0 => (fun _ _ _ _ _ => none, fun _ _ _ _ _ _ _ _ _ => none)
  | k + 1 => (F26_1007 k ((l26 k).1) ((l26 k).2), F26_1010 k ((l26 k).1) ((l26 k).2))
noncomputable def f26 (k : Nat) (L_K : Int) (L_Low : List (Int)) (L_High : List (Int)) (i : List (Int × Int)) : Option ((List (List (Int))) × Bool) := F26 k ((l26 k).1) ((l26 k).2) L_K L_Low L_High i
noncomputable def s26 : Spec := ⟨false, [(.slice 22 (.slice 3 (.int .i64)), false), (.bool, false)], true, .pair (.slice 22 (.slice 3 (.int .i64))) (.bool), fun k xs => match xs with | [.agg [.int .i64 L_K, .slc 3 (.int .i64) L_Low, .slc 3 (.int .i64) L_High], .slc 57 (.pair (.int .i64) (.int .i64)) i] => f26 k L_K L_Low L_High i | _ => none, false, none, false⟩
noncomputable def env69 : List (FuncId × Spec) := (26, s26) :: env68
noncomputable abbrev x26 := exec ti (envOf env68) 68 h26 (finT ti true Go.Proofs.Try.f26.results.toList [(.slice 22 (.slice 3 (.int .i64)), false), (.bool, false)] (.pair (.slice 22 (.slice 3 (.int .i64))) (.bool)))
noncomputable def k26_1007 : List It := stackAt [.r, .r, .r, .r, .r, .l, .r, .b, .lb none] (bodyOf Go.Proofs.Try.f26) []
def t26_1007 (os : List (Int × List Int × List Int)) (rs : List (Int × Int)) (r_9s : List (List Int)) (t24 : Int) (t25 : Int) : St := [(12, Cell.val (AVal.ref 33 none)), (33, Cell.row true 31 (Ty.pair (Ty.int IntKind.i64) (Ty.pair (Ty.slice 3 (Ty.int IntKind.i64)) (Ty.slice 3 (Ty.int IntKind.i64)))) os), (16, Cell.val (AVal.ref 35 none)), (35, Cell.row true 57 (Ty.pair (Ty.int IntKind.i64) (Ty.int IntKind.i64)) rs), (18, Cell.val (AVal.ref 37 none)), (37, Cell.row true 22 (Ty.slice 3 (Ty.int IntKind.i64)) r_9s), (46, Cell.val (AVal.ref 35 none)), (48, Cell.val (AVal.int IntKind.i64 t24)), (50, Cell.val (AVal.int IntKind.i64 t25))]
noncomputable def k26_1010 : List It := stackAt [.r, .r, .r, .r, .r, .l, .r, .b, .lb none, .r, .r, .l, .b, .r, .r, .b, .lb none] (bodyOf Go.Proofs.Try.f26) []
def t26_1010 (os : List (Int × List Int × List Int)) (rs : List (Int × Int)) (r_9s : List (List Int)) (a : Int) (ys_0 : Int) (ys_1 : Int) (t12 : Int) (t24 : Int) (t25 : Int) : St := [(12, Cell.val (AVal.ref 33 none)), (33, Cell.row true 31 (Ty.pair (Ty.int IntKind.i64) (Ty.pair (Ty.slice 3 (Ty.int IntKind.i64)) (Ty.slice 3 (Ty.int IntKind.i64)))) os), (16, Cell.val (AVal.ref 35 none)), (35, Cell.row true 57 (Ty.pair (Ty.int IntKind.i64) (Ty.int IntKind.i64)) rs), (18, Cell.val (AVal.ref 37 none)), (37, Cell.row true 22 (Ty.slice 3 (Ty.int IntKind.i64)) r_9s), (20, Cell.val (AVal.int IntKind.i64 a)), (22, Cell.val (AVal.ptr 39 0)), (39, Cell.mem true 57 [AVal.int IntKind.i64 ys_0, AVal.int IntKind.i64 ys_1]), (24, Cell.val (AVal.int IntKind.i64 t12)), (46, Cell.val (AVal.ref 35 none)), (48, Cell.val (AVal.int IntKind.i64 t24)), (50, Cell.val (AVal.int IntKind.i64 t25))]
theorem e26_1007 (k : Nat) (os : List (Int × List Int × List Int)) (rs : List (Int × Int)) (r_9s : List (List Int)) (t24 : Int) (t25 : Int) : x26 (k + 1) k26_1007 (t26_1007 os rs r_9s t24 t25) = F26_1007 k (fun (os : List (Int × List Int × List Int)) (rs : List (Int × Int)) (r_9s : List (List Int)) (t24 : Int) (t25 : Int) => x26 k k26_1007 (t26_1007 os rs r_9s t24 t25)) (fun (os : List (Int × List Int × List Int)) (rs : List (Int × Int)) (r_9s : List (List Int)) (a : Int) (ys_0 : Int) (ys_1 : Int) (t12 : Int) (t24 : Int) (t25 : Int) => x26 k k26_1010 (t26_1010 os rs r_9s a ys_0 ys_1 t12 t24 t25)) os rs r_9s t24 t25 := by kernel_rfl
theorem e26_1010 (k : Nat) (os : List (Int × List Int × List Int)) (rs : List (Int × Int)) (r_9s : List (List Int)) (a : Int) (ys_0 : Int) (ys_1 : Int) (t12 : Int) (t24 : Int) (t25 : Int) : x26 (k + 1) k26_1010 (t26_1010 os rs r_9s a ys_0 ys_1 t12 t24 t25) = F26_1010 k (fun (os : List (Int × List Int × List Int)) (rs : List (Int × Int)) (r_9s : List (List Int)) (t24 : Int) (t25 : Int) => x26 k k26_1007 (t26_1007 os rs r_9s t24 t25)) (fun (os : List (Int × List Int × List Int)) (rs : List (Int × Int)) (r_9s : List (List Int)) (a : Int) (ys_0 : Int) (ys_1 : Int) (t12 : Int) (t24 : Int) (t25 : Int) => x26 k k26_1010 (t26_1010 os rs r_9s a ys_0 ys_1 t12 t24 t25)) os rs r_9s a ys_0 ys_1 t12 t24 t25 := by kernel_rfl
theorem q26 : ∀ k : Nat, ((fun (os : List (Int × List Int × List Int)) (rs : List (Int × Int)) (r_9s : List (List Int)) (t24 : Int) (t25 : Int) => x26 k k26_1007 (t26_1007 os rs r_9s t24 t25)), (fun (os : List (Int × List Int × List Int)) (rs : List (Int × Int)) (r_9s : List (List Int)) (a : Int) (ys_0 : Int) (ys_1 : Int) (t12 : Int) (t24 : Int) (t25 : Int) => x26 k k26_1010 (t26_1010 os rs r_9s a ys_0 ys_1 t12 t24 t25))) = l26 k
  | 0 => rfl
  | k + 1 => by
    have h := q26 k
    show _ = (F26_1007 k ((l26 k).1) ((l26 k).2), F26_1010 k ((l26 k).1) ((l26 k).2))
    rw [← h]
    exact (Prod.ext (funext fun os => funext fun rs => funext fun r_9s => funext fun t24 => funext fun t25 => e26_1007 k os rs r_9s t24 t25) (funext fun os => funext fun rs => funext fun r_9s => funext fun a => funext fun ys_0 => funext fun ys_1 => funext fun t12 => funext fun t24 => funext fun t25 => e26_1010 k os rs r_9s a ys_0 ys_1 t12 t24 t25))
theorem w26 (k : Nat) (L_K : Int) (L_Low : List (Int)) (L_High : List (Int)) (i : List (Int × Int)) : runFn ti (envOf env68) 68 h26 (finT ti true Go.Proofs.Try.f26.results.toList [(.slice 22 (.slice 3 (.int .i64)), false), (.bool, false)] (.pair (.slice 22 (.slice 3 (.int .i64))) (.bool))) k (bodyOf Go.Proofs.Try.f26) (initS 0 [.agg [.int .i64 L_K, .slc 3 (.int .i64) L_Low, .slc 3 (.int .i64) L_High], .slc 57 (.pair (.int .i64) (.int .i64)) i]) = F26 k (fun (os : List (Int × List Int × List Int)) (rs : List (Int × Int)) (r_9s : List (List Int)) (t24 : Int) (t25 : Int) => x26 k k26_1007 (t26_1007 os rs r_9s t24 t25)) (fun (os : List (Int × List Int × List Int)) (rs : List (Int × Int)) (r_9s : List (List Int)) (a : Int) (ys_0 : Int) (ys_1 : Int) (t12 : Int) (t24 : Int) (t25 : Int) => x26 k k26_1010 (t26_1010 os rs r_9s a ys_0 ys_1 t12 t24 t25)) L_K L_Low L_High i := by kernel_rfl
theorem v26 (k : Nat) (L_K : Int) (L_Low : List (Int)) (L_High : List (Int)) (i : List (Int × Int)) : runFn ti (envOf env68) 68 h26 (finT ti true Go.Proofs.Try.f26.results.toList [(.slice 22 (.slice 3 (.int .i64)), false), (.bool, false)] (.pair (.slice 22 (.slice 3 (.int .i64))) (.bool))) k (bodyOf Go.Proofs.Try.f26) (initS 0 [.agg [.int .i64 L_K, .slc 3 (.int .i64) L_Low, .slc 3 (.int .i64) L_High], .slc 57 (.pair (.int .i64) (.int .i64)) i]) = f26 k L_K L_Low L_High i := by
  rw [w26]
  have h := q26 k
  unfold f26
  rw [← h]
theorem m26 : Meets Go.Proofs.Try.prog 26 s26 := meets_of_run tiOk env68_ok mo Go.Proofs.Try.func26 (body := bodyOf Go.Proofs.Try.f26) (by kernel_rfl) (N := 68) (by kernel_rfl) (hs := h26) (by
  intro k xs r h
  unfold s26 at h
  dsimp only at h
  split at h
  · exact ⟨Nat.le_of_ble_eq_true rfl, (v26 k _ _ _ _).trans h⟩
  · cases h)
theorem env69_ok : EnvOk Go.Proofs.Try.prog (envOf env69) := envOf_cons m26 Go.Proofs.Try.func26 (by kernel_rfl) (by kernel_rfl) env68_ok

-- impl.align
noncomputable def f84 (k : Nat) (L : Int × (List (Int)) × List (Int)) (i : Int × (List (Int)) × List (Int)) : Option (Int × (Int × (List (Int)) × List (Int)) × Int × (List (Int)) × List (Int)) :=
  (f87 k L.snd.fst (IntKind.wrap IntKind.i64 ((bif decide (L.fst < i.fst) then i.fst else L.fst) - L.fst))).bind fun r0 =>
  (f87 k L.snd.snd (IntKind.wrap IntKind.i64 ((bif decide (L.fst < i.fst) then i.fst else L.fst) - L.fst))).bind fun r1 =>
  (f87 k i.snd.fst (IntKind.wrap IntKind.i64 ((bif decide (L.fst < i.fst) then i.fst else L.fst) - i.fst))).bind fun r2 =>
  (f87 k i.snd.snd (IntKind.wrap IntKind.i64 ((bif decide (L.fst < i.fst) then i.fst else L.fst) - i.fst))).bind fun r3 =>
  some ((bif decide (L.fst < i.fst) then i.fst else L.fst, (bif decide (L.fst < i.fst) then i.fst else L.fst, r0, r1), bif decide (L.fst < i.fst) then i.fst else L.fst, r2, r3))
noncomputable def s84 : Spec := ⟨false, [(.int .i64, false), (.pair (.int .i64) (.pair (.slice 3 (.int .i64)) (.slice 3 (.int .i64))), true), (.pair (.int .i64) (.pair (.slice 3 (.int .i64)) (.slice 3 (.int .i64))), true)], true, .pair (.int .i64) (.pair (.pair (.int .i64) (.pair (.slice 3 (.int .i64)) (.slice 3 (.int .i64)))) (.pair (.int .i64) (.pair (.slice 3 (.int .i64)) (.slice 3 (.int .i64))))), fun k xs => match xs with | [.fptr (.pair (.int .i64) (.pair (.slice 3 (.int .i64)) (.slice 3 (.int .i64)))) L, .fptr (.pair (.int .i64) (.pair (.slice 3 (.int .i64)) (.slice 3 (.int .i64)))) i] => f84 k L i | _ => none, false, none, false⟩
noncomputable def env70 : List (FuncId × Spec) := (84, s84) :: env69
theorem v84 (k : Nat) (L : Int × (List (Int)) × List (Int)) (i : Int × (List (Int)) × List (Int)) : runFn ti (envOf env69) 70 [] (finT ti true Go.Proofs.Try.f84.results.toList [(.int .i64, false), (.pair (.int .i64) (.pair (.slice 3 (.int .i64)) (.slice 3 (.int .i64))), true), (.pair (.int .i64) (.pair (.slice 3 (.int .i64)) (.slice 3 (.int .i64))), true)] (.pair (.int .i64) (.pair (.pair (.int .i64) (.pair (.slice 3 (.int .i64)) (.slice 3 (.int .i64)))) (.pair (.int .i64) (.pair (.slice 3 (.int .i64)) (.slice 3 (.int .i64))))))) k (bodyOf Go.Proofs.Try.f84) (initS 0 [.fptr (.pair (.int .i64) (.pair (.slice 3 (.int .i64)) (.slice 3 (.int .i64)))) L, .fptr (.pair (.int .i64) (.pair (.slice 3 (.int .i64)) (.slice 3 (.int .i64)))) i]) = f84 k L i := by kernel_rfl
theorem m84 : Meets Go.Proofs.Try.prog 84 s84 := meets_of_run tiOk env69_ok mo Go.Proofs.Try.func84 (body := bodyOf Go.Proofs.Try.f84) (by kernel_rfl) (N := 70) (by kernel_rfl) (hs := []) (by
  intro k xs r h
  unfold s84 at h
  dsimp only at h
  split at h
  · exact ⟨Nat.le_of_ble_eq_true rfl, (v84 k _ _).trans h⟩
  · cases h)
theorem env70_ok : EnvOk Go.Proofs.Try.prog (envOf env70) := envOf_cons m84 Go.Proofs.Try.func84 (by kernel_rfl) (by kernel_rfl) env69_ok

-- impl.doTouch
def h59 : Hints := [(1003, .lab [(6, .box 31 [.v, .own 3 (Ty.int IntKind.i64), .own 3 (Ty.int IntKind.i64)]), (7, .box 31 [.v, .own 3 (Ty.int IntKind.i64), .own 3 (Ty.int IntKind.i64)]), (18, .one (.v)), (19, .one (.v))])]
noncomputable def F59_1003 (k : Nat) (rec1003 : Int → List Int → List Int → Int → List Int → List Int → Int → Int → Option (Bool)) (xs_0 : Int) (xs : List Int) (xs' : List Int) (ys_0 : Int) (ys : List Int) (ys' : List Int) (t18 : Int) (t19 : Int) : Option (Bool) :=
  bif decide (t19 < t18) then
    bif boundA t19 (List.length xs) then
      bif Nat.blt (Int.toNat t19) (List.length xs) then
        bif boundA t19 (List.length ys) then
          bif Nat.blt (Int.toNat t19) (List.length ys) then
            bif boundA t19 (List.length xs') then
              bif Nat.blt (Int.toNat t19) (List.length xs') then
                bif boundA t19 (List.length ys') then
                  bif Nat.blt (Int.toNat t19) (List.length ys') then
                    bif decide ((bif decide (List.getD ys' (Int.toNat t19) 0 < List.getD xs' (Int.toNat t19) 0) then List.getD ys' (Int.toNat t19) 0 else List.getD xs' (Int.toNat t19) 0) < bif decide (List.getD xs (Int.toNat t19) 0 < List.getD ys (Int.toNat t19) 0) then List.getD ys (Int.toNat t19) 0 else List.getD xs (Int.toNat t19) 0) then
                      some false
                    else
                      rec1003 xs_0 xs xs' ys_0 ys ys' t18 (IntKind.wrap IntKind.i64 (t19 + 1))
                  else
                    none
                else
                  none
              else
                none
            else
              none
          else
            none
        else
          none
      else
        none
    else
      none
  else
    some true
noncomputable def F59 (k : Nat) (rec1003 : Int → List Int → List Int → Int → List Int → List Int → Int → Int → Option (Bool)) (a : Int × (List (Int)) × List (Int)) (b : Int × (List (Int)) × List (Int)) : Option (Bool) :=
  (f84 k a b).bind fun r0 =>
  rec1003 (r0.snd.fst.fst) (r0.snd.fst.snd.fst) (r0.snd.fst.snd.snd) (r0.snd.snd.fst) (r0.snd.snd.snd.fst) (r0.snd.snd.snd.snd) ((↑(List.length r0.snd.fst.snd.fst) : Int)) (0)
noncomputable def l59 : Nat → (Int → List Int → List Int → Int → List Int → List Int → Int → Int → Option (Bool))
  | 0 => fun _ _ _ _ _ _ _ _ => none
  | k + 1 => F59_1003 k (l59 k)
noncomputable def f59 (k : Nat) (a : Int × (List (Int)) × List (Int)) (b : Int × (List (Int)) × List (Int)) : Option (Bool) := F59 k (l59 k) a b
noncomputable def s59 : Spec := ⟨false, [(.bool, false)], true, .bool, fun k xs => match xs with | [.fptr (.pair (.int .i64) (.pair (.slice 3 (.int .i64)) (.slice 3 (.int .i64)))) a, .fptr (.pair (.int .i64) (.pair (.slice 3 (.int .i64)) (.slice 3 (.int .i64)))) b] => f59 k a b | _ => none, false, none, false⟩
noncomputable def env71 : List (FuncId × Spec) := (59, s59) :: env70
noncomputable abbrev x59 := exec ti (envOf env70) 46 h59 (finT ti true Go.Proofs.Try.f59.results.toList [(.bool, false)] (.bool))
noncomputable def k59_1003 : List It := stackAt [.r, .r, .l, .r, .b, .lb none] (bodyOf Go.Proofs.Try.f59) []
def t59_1003 (xs_0 : Int) (xs : List Int) (xs' : List Int) (ys_0 : Int) (ys : List Int) (ys' : List Int) (t18 : Int) (t19 : Int) : St := [(12, Cell.val (AVal.ptr 33 0)), (33, Cell.mem true 31 [AVal.int IntKind.i64 xs_0, AVal.ref 35 none, AVal.ref 37 none]), (35, Cell.row true 3 (Ty.int IntKind.i64) xs), (37, Cell.row true 3 (Ty.int IntKind.i64) xs'), (14, Cell.val (AVal.ptr 39 0)), (39, Cell.mem true 31 [AVal.int IntKind.i64 ys_0, AVal.ref 41 none, AVal.ref 43 none]), (41, Cell.row true 3 (Ty.int IntKind.i64) ys), (43, Cell.row true 3 (Ty.int IntKind.i64) ys'), (36, Cell.val (AVal.int IntKind.i64 t18)), (38, Cell.val (AVal.int IntKind.i64 t19))]
theorem e59_1003 (k : Nat) (xs_0 : Int) (xs : List Int) (xs' : List Int) (ys_0 : Int) (ys : List Int) (ys' : List Int) (t18 : Int) (t19 : Int) : x59 (k + 1) k59_1003 (t59_1003 xs_0 xs xs' ys_0 ys ys' t18 t19) = F59_1003 k (fun (xs_0 : Int) (xs : List Int) (xs' : List Int) (ys_0 : Int) (ys : List Int) (ys' : List Int) (t18 : Int) (t19 : Int) => x59 k k59_1003 (t59_1003 xs_0 xs xs' ys_0 ys ys' t18 t19)) xs_0 xs xs' ys_0 ys ys' t18 t19 := by kernel_rfl
theorem q59 : ∀ k : Nat, (fun (xs_0 : Int) (xs : List Int) (xs' : List Int) (ys_0 : Int) (ys : List Int) (ys' : List Int) (t18 : Int) (t19 : Int) => x59 k k59_1003 (t59_1003 xs_0 xs xs' ys_0 ys ys' t18 t19)) = l59 k
  | 0 => rfl
  | k + 1 => by
    have h := q59 k
    show _ = F59_1003 k (l59 k)
    rw [← h]
    exact (funext fun xs_0 => funext fun xs => funext fun xs' => funext fun ys_0 => funext fun ys => funext fun ys' => funext fun t18 => funext fun t19 => e59_1003 k xs_0 xs xs' ys_0 ys ys' t18 t19)
theorem w59 (k : Nat) (a : Int × (List (Int)) × List (Int)) (b : Int × (List (Int)) × List (Int)) : runFn ti (envOf env70) 46 h59 (finT ti true Go.Proofs.Try.f59.results.toList [(.bool, false)] (.bool)) k (bodyOf Go.Proofs.Try.f59) (initS 0 [.fptr (.pair (.int .i64) (.pair (.slice 3 (.int .i64)) (.slice 3 (.int .i64)))) a, .fptr (.pair (.int .i64) (.pair (.slice 3 (.int .i64)) (.slice 3 (.int .i64)))) b]) = F59 k (fun (xs_0 : Int) (xs : List Int) (xs' : List Int) (ys_0 : Int) (ys : List Int) (ys' : List Int) (t18 : Int) (t19 : Int) => x59 k k59_1003 (t59_1003 xs_0 xs xs' ys_0 ys ys' t18 t19)) a b := by kernel_rfl
theorem v59 (k : Nat) (a : Int × (List (Int)) × List (Int)) (b : Int × (List (Int)) × List (Int)) : runFn ti (envOf env70) 46 h59 (finT ti true Go.Proofs.Try.f59.results.toList [(.bool, false)] (.bool)) k (bodyOf Go.Proofs.Try.f59) (initS 0 [.fptr (.pair (.int .i64) (.pair (.slice 3 (.int .i64)) (.slice 3 (.int .i64)))) a, .fptr (.pair (.int .i64) (.pair (.slice 3 (.int .i64)) (.slice 3 (.int .i64)))) b]) = f59 k a b := by
  rw [w59]
  have h := q59 k
  unfold f59
  rw [← h]
theorem m59 : Meets Go.Proofs.Try.prog 59 s59 := meets_of_run tiOk env70_ok mo Go.Proofs.Try.func59 (body := bodyOf Go.Proofs.Try.f59) (by kernel_rfl) (N := 46) (by kernel_rfl) (hs := h59) (by
  intro k xs r h
  unfold s59 at h
  dsimp only at h
  split at h
  · exact ⟨Nat.le_of_ble_eq_true rfl, (v59 k _ _).trans h⟩
  · cases h)
theorem env71_ok : EnvOk Go.Proofs.Try.prog (envOf env71) := envOf_cons m59 Go.Proofs.Try.func59 (by kernel_rfl) (by kernel_rfl) env70_ok

-- impl.TouchingHolds
def h27 : Hints := [(1007, .lab [(1, .one (.frz 57 (Ty.pair (Ty.int IntKind.i64) (Ty.int IntKind.i64)))), (6, .one (.deep false 31 (Ty.pair (Ty.int IntKind.i64) (Ty.pair (Ty.slice 3 (Ty.int IntKind.i64)) (Ty.slice 3 (Ty.int IntKind.i64)))))), (8, .one (.own 3 (Ty.int IntKind.i64))), (9, .one (.deep false 22 (Ty.slice 3 (Ty.int IntKind.i64)))), (23, .one (.v)), (24, .one (.v))]), (1010, .lab [(1, .one (.frz 57 (Ty.pair (Ty.int IntKind.i64) (Ty.int IntKind.i64)))), (6, .one (.deep false 31 (Ty.pair (Ty.int IntKind.i64) (Ty.pair (Ty.slice 3 (Ty.int IntKind.i64)) (Ty.slice 3 (Ty.int IntKind.i64)))))), (8, .one (.own 3 (Ty.int IntKind.i64))), (9, .one (.deep false 22 (Ty.slice 3 (Ty.int IntKind.i64)))), (10, .one (.v)), (11, .one (.v)), (23, .one (.v)), (24, .one (.v))])]
noncomputable def F27_1007 (k : Nat) (rec1007 : List (Int × Int) → List (Int × List Int × List Int) → List Int → List (List Int) → Int → Int → Option ((List (List (Int))) × Bool)) (rec1010 : List (Int × Int) → List (Int × List Int × List Int) → List Int → List (List Int) → Int → Int → Int → Int → Option ((List (List (Int))) × Bool)) (i : List (Int × Int)) (os : List (Int × List Int × List Int)) (rs : List Int) (r_9s : List (List Int)) (t23 : Int) (t24 : Int) : Option ((List (List (Int))) × Bool) :=
  bif decide (t24 < t23) then
    rec1010 i os rs r_9s t24 (IntKind.wrap IntKind.i64 (t24 + 1)) t23 t24
  else
    some ((r_9s, true))
noncomputable def F27_1010 (k : Nat) (rec1007 : List (Int × Int) → List (Int × List Int × List Int) → List Int → List (List Int) → Int → Int → Option ((List (List (Int))) × Bool)) (rec1010 : List (Int × Int) → List (Int × List Int × List Int) → List Int → List (List Int) → Int → Int → Int → Int → Option ((List (List (Int))) × Bool)) (i : List (Int × Int)) (os : List (Int × List Int × List Int)) (rs : List Int) (r_9s : List (List Int)) (a : Int) (y : Int) (t23 : Int) (t24 : Int) : Option ((List (List (Int))) × Bool) :=
  bif decide (y < (↑(List.length os) : Int)) then
    bif boundA a (List.length rs) then
      bif Nat.blt (Int.toNat a) (List.length rs) then
        bif boundA (List.getD rs (Int.toNat a) 0) (List.length i) then
          bif decide ((List.getD i (Int.toNat (List.getD rs (Int.toNat a) 0)) (0, 0)).fst = 2) then
            bif boundA y (List.length rs) then
              bif Nat.blt (Int.toNat y) (List.length rs) then
                bif boundA (List.getD rs (Int.toNat y) 0) (List.length i) then
                  bif decide ((List.getD i (Int.toNat (List.getD rs (Int.toNat y) 0)) (0, 0)).fst = 2) then
                    bif boundA a (List.length os) then
                      bif boundA y (List.length os) then
                        bif Nat.blt (Int.toNat a) (List.length os) then
                          bif Nat.blt (Int.toNat y) (List.length os) then
                            (f59 k (List.getD os (Int.toNat a) (0, [], [])) (List.getD os (Int.toNat y) (0, [], []))).bind fun r0 =>
                            bif r0 then
                              bif decide ((List.length r_9s + List.length [[a, y]]) * 24 ≤ 140737488355328) then
                                rec1010 i os rs (r_9s ++ [[a, y]]) a (IntKind.wrap IntKind.i64 (y + 1)) t23 t24
                              else
                                none
                            else
                              rec1010 i os rs r_9s a (IntKind.wrap IntKind.i64 (y + 1)) t23 t24
                          else
                            none
                        else
                          none
                      else
                        none
                    else
                      none
                  else
                    rec1010 i os rs r_9s a (IntKind.wrap IntKind.i64 (y + 1)) t23 t24
                else
                  none
              else
                none
            else
              none
          else
            rec1010 i os rs r_9s a (IntKind.wrap IntKind.i64 (y + 1)) t23 t24
        else
          none
      else
        none
    else
      none
  else
    rec1007 i os rs r_9s t23 (IntKind.wrap IntKind.i64 (t24 + 1))
noncomputable def F27 (k : Nat) (rec1007 : List (Int × Int) → List (Int × List Int × List Int) → List Int → List (List Int) → Int → Int → Option ((List (List (Int))) × Bool)) (rec1010 : List (Int × Int) → List (Int × List Int × List Int) → List Int → List (List Int) → Int → Int → Int → Int → Option ((List (List (Int))) × Bool)) (L_K : Int) (L_Low : List (Int)) (L_High : List (Int)) (i : List (Int × Int)) : Option ((List (List (Int))) × Bool) :=
  (f49 k (L_K, L_Low, L_High) i).bind fun r0 =>
  bif !r0 then
    some (([], false))
  else
    (f41 k (L_K, L_Low, L_High) i).bind fun r1 =>
    (f58 k i).bind fun r2 =>
    rec1007 i (r1.fst) r2 ([]) ((↑(List.length r1.fst) : Int)) (0)
noncomputable def l27 : Nat → (List (Int × Int) → List (Int × List Int × List Int) → List Int → List (List Int) → Int → Int → Option ((List (List (Int))) × Bool)) × (List (Int × Int) → List (Int × List Int × List Int) → List Int → List (List Int) → Int → Int → Int → Int → Option ((List (List (Int))) × Bool))
  | 0 => (fun _ _ _ _ _ _ => none, fun _ _ _ _ _ _ _ _ => none)
  | k + 1 => (F27_1007 k ((l27 k).1) ((l27 k).2), F27_1010 k ((l27 k).1) ((l27 k).2))
noncomputable def f27 (k : Nat) (L_K : Int) (L_Low : List (Int)) (L_High : List (Int)) (i : List (Int × Int)) : Option ((List (List (Int))) × Bool) := F27 k ((l27 k).1) ((l27 k).2) L_K L_Low L_High i
noncomputable def s27 : Spec := ⟨false, [(.slice 22 (.slice 3 (.int .i64)), false), (.bool, false)], true, .pair (.slice 22 (.slice 3 (.int .i64))) (.bool), fun k xs => match xs with | [.agg [.int .i64 L_K, .slc 3 (.int .i64) L_Low, .slc 3 (.int .i64) L_High], .slc 57 (.pair (.int .i64) (.int .i64)) i] => f27 k L_K L_Low L_High i | _ => none, false, none, true⟩
noncomputable def env72 : List (FuncId × Spec) := (27, s27) :: env71
noncomputable abbrev x27 := exec ti (envOf env71) 72 h27 (finD ti Go.Proofs.Try.f27.results.toList [(.slice 22 (.slice 3 (.int .i64)), false), (.bool, false)] (.pair (.slice 22 (.slice 3 (.int .i64))) (.bool)))
noncomputable def k27_1007 : List It := stackAt [.r, .r, .r, .r, .r, .l, .r, .b, .lb none] (bodyOf Go.Proofs.Try.f27) []
def t27_1007 (i : List (Int × Int)) (os : List (Int × List Int × List Int)) (rs : List Int) (r_9s : List (List Int)) (t23 : Int) (t24 : Int) : St := [(2, Cell.val (AVal.slc 57 (Ty.pair (Ty.int IntKind.i64) (Ty.int IntKind.i64)) i)), (12, Cell.val (AVal.ref 33 none)), (33, Cell.deep 31 (Ty.pair (Ty.int IntKind.i64) (Ty.pair (Ty.slice 3 (Ty.int IntKind.i64)) (Ty.slice 3 (Ty.int IntKind.i64)))) 0 os none), (16, Cell.val (AVal.ref 35 none)), (35, Cell.row true 3 (Ty.int IntKind.i64) rs), (18, Cell.val (AVal.ref 37 none)), (37, Cell.deep 22 (Ty.slice 3 (Ty.int IntKind.i64)) 0 r_9s none), (46, Cell.val (AVal.int IntKind.i64 t23)), (48, Cell.val (AVal.int IntKind.i64 t24))]
noncomputable def k27_1010 : List It := stackAt [.r, .r, .r, .r, .r, .l, .r, .b, .lb none, .r, .r, .l, .b, .r, .r, .b, .lb none] (bodyOf Go.Proofs.Try.f27) []
def t27_1010 (i : List (Int × Int)) (os : List (Int × List Int × List Int)) (rs : List Int) (r_9s : List (List Int)) (a : Int) (y : Int) (t23 : Int) (t24 : Int) : St := [(2, Cell.val (AVal.slc 57 (Ty.pair (Ty.int IntKind.i64) (Ty.int IntKind.i64)) i)), (12, Cell.val (AVal.ref 33 none)), (33, Cell.deep 31 (Ty.pair (Ty.int IntKind.i64) (Ty.pair (Ty.slice 3 (Ty.int IntKind.i64)) (Ty.slice 3 (Ty.int IntKind.i64)))) 0 os none), (16, Cell.val (AVal.ref 35 none)), (35, Cell.row true 3 (Ty.int IntKind.i64) rs), (18, Cell.val (AVal.ref 37 none)), (37, Cell.deep 22 (Ty.slice 3 (Ty.int IntKind.i64)) 0 r_9s none), (20, Cell.val (AVal.int IntKind.i64 a)), (22, Cell.val (AVal.int IntKind.i64 y)), (46, Cell.val (AVal.int IntKind.i64 t23)), (48, Cell.val (AVal.int IntKind.i64 t24))]
theorem e27_1007 (k : Nat) (i : List (Int × Int)) (os : List (Int × List Int × List Int)) (rs : List Int) (r_9s : List (List Int)) (t23 : Int) (t24 : Int) : x27 (k + 1) k27_1007 (t27_1007 i os rs r_9s t23 t24) = F27_1007 k (fun (i : List (Int × Int)) (os : List (Int × List Int × List Int)) (rs : List Int) (r_9s : List (List Int)) (t23 : Int) (t24 : Int) => x27 k k27_1007 (t27_1007 i os rs r_9s t23 t24)) (fun (i : List (Int × Int)) (os : List (Int × List Int × List Int)) (rs : List Int) (r_9s : List (List Int)) (a : Int) (y : Int) (t23 : Int) (t24 : Int) => x27 k k27_1010 (t27_1010 i os rs r_9s a y t23 t24)) i os rs r_9s t23 t24 := by kernel_rfl
theorem e27_1010 (k : Nat) (i : List (Int × Int)) (os : List (Int × List Int × List Int)) (rs : List Int) (r_9s : List (List Int)) (a : Int) (y : Int) (t23 : Int) (t24 : Int) : x27 (k + 1) k27_1010 (t27_1010 i os rs r_9s a y t23 t24) = F27_1010 k (fun (i : List (Int × Int)) (os : List (Int × List Int × List Int)) (rs : List Int) (r_9s : List (List Int)) (t23 : Int) (t24 : Int) => x27 k k27_1007 (t27_1007 i os rs r_9s t23 t24)) (fun (i : List (Int × Int)) (os : List (Int × List Int × List Int)) (rs : List Int) (r_9s : List (List Int)) (a : Int) (y : Int) (t23 : Int) (t24 : Int) => x27 k k27_1010 (t27_1010 i os rs r_9s a y t23 t24)) i os rs r_9s a y t23 t24 := by kernel_rfl
theorem q27 : ∀ k : Nat, ((fun (i : List (Int × Int)) (os : List (Int × List Int × List Int)) (rs : List Int) (r_9s : List (List Int)) (t23 : Int) (t24 : Int) => x27 k k27_1007 (t27_1007 i os rs r_9s t23 t24)), (fun (i : List (Int × Int)) (os : List (Int × List Int × List Int)) (rs : List Int) (r_9s : List (List Int)) (a : Int) (y : Int) (t23 : Int) (t24 : Int) => x27 k k27_1010 (t27_1010 i os rs r_9s a y t23 t24))) = l27 k
  | 0 => rfl
  | k + 1 => by
    have h := q27 k
    show _ = (F27_1007 k ((l27 k).1) ((l27 k).2), F27_1010 k ((l27 k).1) ((l27 k).2))
    rw [← h]
    exact (Prod.ext (funext fun i => funext fun os => funext fun rs => funext fun r_9s => funext fun t23 => funext fun t24 => e27_1007 k i os rs r_9s t23 t24) (funext fun i => funext fun os => funext fun rs => funext fun r_9s => funext fun a => funext fun y => funext fun t23 => funext fun t24 => e27_1010 k i os rs r_9s a y t23 t24))
theorem w27 (k : Nat) (L_K : Int) (L_Low : List (Int)) (L_High : List (Int)) (i : List (Int × Int)) : runFn ti (envOf env71) 72 h27 (finD ti Go.Proofs.Try.f27.results.toList [(.slice 22 (.slice 3 (.int .i64)), false), (.bool, false)] (.pair (.slice 22 (.slice 3 (.int .i64))) (.bool))) k (bodyOf Go.Proofs.Try.f27) (initS 0 [.agg [.int .i64 L_K, .slc 3 (.int .i64) L_Low, .slc 3 (.int .i64) L_High], .slc 57 (.pair (.int .i64) (.int .i64)) i]) = F27 k (fun (i : List (Int × Int)) (os : List (Int × List Int × List Int)) (rs : List Int) (r_9s : List (List Int)) (t23 : Int) (t24 : Int) => x27 k k27_1007 (t27_1007 i os rs r_9s t23 t24)) (fun (i : List (Int × Int)) (os : List (Int × List Int × List Int)) (rs : List Int) (r_9s : List (List Int)) (a : Int) (y : Int) (t23 : Int) (t24 : Int) => x27 k k27_1010 (t27_1010 i os rs r_9s a y t23 t24)) L_K L_Low L_High i := by kernel_rfl
theorem v27 (k : Nat) (L_K : Int) (L_Low : List (Int)) (L_High : List (Int)) (i : List (Int × Int)) : runFn ti (envOf env71) 72 h27 (finD ti Go.Proofs.Try.f27.results.toList [(.slice 22 (.slice 3 (.int .i64)), false), (.bool, false)] (.pair (.slice 22 (.slice 3 (.int .i64))) (.bool))) k (bodyOf Go.Proofs.Try.f27) (initS 0 [.agg [.int .i64 L_K, .slc 3 (.int .i64) L_Low, .slc 3 (.int .i64) L_High], .slc 57 (.pair (.int .i64) (.int .i64)) i]) = f27 k L_K L_Low L_High i := by
  rw [w27]
  have h := q27 k
  unfold f27
  rw [← h]
theorem m27 : Meets Go.Proofs.Try.prog 27 s27 := meets_deep_of_run tiOk env71_ok mo Go.Proofs.Try.func27 (body := bodyOf Go.Proofs.Try.f27) (by kernel_rfl) (N := 72) (by kernel_rfl) (hs := h27) (by
  intro k xs r h
  unfold s27 at h
  dsimp only at h
  split at h
  · exact ⟨Nat.le_of_ble_eq_true rfl, (v27 k _ _ _ _).trans h⟩
  · cases h)
theorem env72_ok : EnvOk Go.Proofs.Try.prog (envOf env72) := envOf_cons m27 Go.Proofs.Try.func27 (by kernel_rfl) (by kernel_rfl) env71_ok

end Go.Proofs.YtchdegcfohegfaaE
