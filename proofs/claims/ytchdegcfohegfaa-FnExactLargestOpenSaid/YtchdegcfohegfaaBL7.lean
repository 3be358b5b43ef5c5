/- Functions, by the engine; printed. -/
import Derived.Test.YtchdegcfohegfaaBL6
set_option maxRecDepth 100000
set_option maxHeartbeats 4000000
set_option linter.unusedVariables false
namespace Go.Proofs.YtchdegcfohegfaaE
-- impl.compareWide
noncomputable def f79 (k : Nat) (a_negative : Bool) (a_high : Int) (a_low : Int) (b_negative : Bool) (b_high : Int) (b_low : Int) : Option (Int) :=
  (f93 k a_negative a_high a_low).bind fun r0 =>
  bif r0 then
    (f93 k b_negative b_high b_low).bind fun r1 =>
    bif r1 then
      some (0)
    else
      bif !a_negative == b_negative then
        bif a_negative then
          some (-1)
        else
          some (1)
      else
        bif a_negative then
          (f94 k b_negative b_high b_low a_negative a_high a_low).bind fun r2 =>
          some r2
        else
          (f94 k a_negative a_high a_low b_negative b_high b_low).bind fun r3 =>
          some r3
  else
    bif !a_negative == b_negative then
      bif a_negative then
        some (-1)
      else
        some (1)
    else
      bif a_negative then
        (f94 k b_negative b_high b_low a_negative a_high a_low).bind fun r4 =>
        some r4
      else
        (f94 k a_negative a_high a_low b_negative b_high b_low).bind fun r5 =>
        some r5
noncomputable def s79 : Spec := ⟨false, [(.int .i64, false)], true, .int .i64, fun k xs => match xs with | [.agg [.bool a_negative, .int .u64 a_high, .int .u64 a_low], .agg [.bool b_negative, .int .u64 b_high, .int .u64 b_low]] => f79 k a_negative a_high a_low b_negative b_high b_low | _ => none, false, none, false⟩
noncomputable def env73 : List (FuncId × Spec) := (79, s79) :: env72
theorem v79 (k : Nat) (a_negative : Bool) (a_high : Int) (a_low : Int) (b_negative : Bool) (b_high : Int) (b_low : Int) : runFn ti (envOf env72) 29 [] (finT ti true Go.Proofs.Try.f79.results.toList [(.int .i64, false)] (.int .i64)) k (bodyOf Go.Proofs.Try.f79) (initS 0 [.agg [.bool a_negative, .int .u64 a_high, .int .u64 a_low], .agg [.bool b_negative, .int .u64 b_high, .int .u64 b_low]]) = f79 k a_negative a_high a_low b_negative b_high b_low := by kernel_rfl
theorem m79 : Meets Go.Proofs.Try.prog 79 s79 := meets_of_run tiOk env72_ok mo Go.Proofs.Try.func79 (body := bodyOf Go.Proofs.Try.f79) (by kernel_rfl) (N := 29) (by kernel_rfl) (hs := []) (by
  intro k xs r h
  unfold s79 at h
  dsimp only at h
  split at h
  · exact ⟨Nat.le_of_ble_eq_true rfl, (v79 k _ _ _ _ _ _).trans h⟩
  · cases h)
theorem env73_ok : EnvOk Go.Proofs.Try.prog (envOf env73) := envOf_cons m79 Go.Proofs.Try.func79 (by kernel_rfl) (by kernel_rfl) env72_ok

-- impl.compareD
noncomputable def f55 (k : Nat) (a_N : Int) (a_K : Int) (b_N : Int) (b_K : Int) : Option (Int) :=
  (f77 k a_N).bind fun r0 =>
  (f80 k r0.fst r0.snd.fst r0.snd.snd (IntKind.wrap IntKind.i64 ((bif decide (a_K < b_K) then b_K else a_K) - a_K))).bind fun r1 =>
  (f77 k b_N).bind fun r2 =>
  (f80 k r2.fst r2.snd.fst r2.snd.snd (IntKind.wrap IntKind.i64 ((bif decide (a_K < b_K) then b_K else a_K) - b_K))).bind fun r3 =>
  (f79 k r1.fst r1.snd.fst r1.snd.snd r3.fst r3.snd.fst r3.snd.snd).bind fun r4 =>
  some r4
noncomputable def s55 : Spec := ⟨false, [(.int .i64, false)], true, .int .i64, fun k xs => match xs with | [.agg [.int .i64 a_N, .int .i64 a_K], .agg [.int .i64 b_N, .int .i64 b_K]] => f55 k a_N a_K b_N b_K | _ => none, false, none, false⟩
noncomputable def env74 : List (FuncId × Spec) := (55, s55) :: env73
theorem v55 (k : Nat) (a_N : Int) (a_K : Int) (b_N : Int) (b_K : Int) : runFn ti (envOf env73) 28 [] (finT ti true Go.Proofs.Try.f55.results.toList [(.int .i64, false)] (.int .i64)) k (bodyOf Go.Proofs.Try.f55) (initS 0 [.agg [.int .i64 a_N, .int .i64 a_K], .agg [.int .i64 b_N, .int .i64 b_K]]) = f55 k a_N a_K b_N b_K := by kernel_rfl
theorem m55 : Meets Go.Proofs.Try.prog 55 s55 := meets_of_run tiOk env73_ok mo Go.Proofs.Try.func55 (body := bodyOf Go.Proofs.Try.f55) (by kernel_rfl) (N := 28) (by kernel_rfl) (hs := []) (by
  intro k xs r h
  unfold s55 at h
  dsimp only at h
  split at h
  · exact ⟨Nat.le_of_ble_eq_true rfl, (v55 k _ _ _ _).trans h⟩
  · cases h)
theorem env74_ok : EnvOk Go.Proofs.Try.prog (envOf env74) := envOf_cons m55 Go.Proofs.Try.func55 (by kernel_rfl) (by kernel_rfl) env73_ok

-- impl.LargestOpen
def h23 : Hints := [(1006, .lab [(4, .box 31 [.v, .v, .v]), (6, .one (.deep false 31 (Ty.pair (Ty.int IntKind.i64) (Ty.pair (Ty.slice 3 (Ty.int IntKind.i64)) (Ty.slice 3 (Ty.int IntKind.i64)))))), (7, .one (.v)), (20, .one (.v)), (21, .one (.v))])]
noncomputable def F23_1006 (k : Nat) (rec1006 : Int → List (Int × List Int × List Int) → Int → Int → Int → Option ((Int × (List (Int)) × List (Int)) × Bool)) (t4s_0 : Int) (open_s : List (Int × List Int × List Int)) (best : Int) (t20 : Int) (t21 : Int) : Option ((Int × (List (Int)) × List (Int)) × Bool) :=
  bif decide (t21 < t20) then
    bif decide (best < 0) then
      rec1006 t4s_0 open_s t21 t20 (IntKind.wrap IntKind.i64 (t21 + 1))
    else
      bif boundA t21 (List.length open_s) then
        bif Nat.blt (Int.toNat t21) (List.length open_s) then
          (f54 k (List.getD open_s (Int.toNat t21) (0, [], []))).bind fun r0 =>
          bif boundA best (List.length open_s) then
            bif Nat.blt (Int.toNat best) (List.length open_s) then
              (f54 k (List.getD open_s (Int.toNat best) (0, [], []))).bind fun r1 =>
              (f55 k r0.fst.fst r0.fst.snd r1.fst.fst r1.fst.snd).bind fun r2 =>
              bif decide (0 < r2) then
                rec1006 t4s_0 open_s t21 t20 (IntKind.wrap IntKind.i64 (t21 + 1))
              else
                rec1006 t4s_0 open_s best t20 (IntKind.wrap IntKind.i64 (t21 + 1))
            else
              none
          else
            none
        else
          none
      else
        none
  else
    bif decide (best < 0) then
      some (((0, [], []), false))
    else
      bif boundA best (List.length open_s) then
        bif Nat.blt (Int.toNat best) (List.length open_s) then
          some ((((List.getD open_s (Int.toNat best) (0, [], [])).fst, (List.getD open_s (Int.toNat best) (0, [], [])).snd.fst, (List.getD open_s (Int.toNat best) (0, [], [])).snd.snd), true))
        else
          none
      else
        none
noncomputable def F23 (k : Nat) (rec1006 : Int → List (Int × List Int × List Int) → Int → Int → Int → Option ((Int × (List (Int)) × List (Int)) × Bool)) (b_K : Int) (b_Low : List (Int)) (b_High : List (Int)) (l : List (Int × Int)) : Option ((Int × (List (Int)) × List (Int)) × Bool) :=
  (f49 k (b_K, b_Low, b_High) l).bind fun r0 =>
  bif !r0 then
    some (((0, [], []), false))
  else
    (f51 k (b_K, b_Low, b_High) l 3).bind fun r1 =>
    rec1006 (0) r1 (-1) ((↑(List.length r1) : Int)) (0)
noncomputable def l23 : Nat → (Int → List (Int × List Int × List Int) → Int → Int → Int → Option ((Int × (List (Int)) × List (Int)) × Bool))
  | 0 => fun _ _ _ _ _ => none
  | k + 1 => F23_1006 k (l23 k)
noncomputable def f23 (k : Nat) (b_K : Int) (b_Low : List (Int)) (b_High : List (Int)) (l : List (Int × Int)) : Option ((Int × (List (Int)) × List (Int)) × Bool) := F23 k (l23 k) b_K b_Low b_High l
noncomputable def s23 : Spec := ⟨false, [(.pair (.int .i64) (.pair (.slice 3 (.int .i64)) (.slice 3 (.int .i64))), true), (.bool, false)], true, .pair (.pair (.int .i64) (.pair (.slice 3 (.int .i64)) (.slice 3 (.int .i64)))) (.bool), fun k xs => match xs with | [.agg [.int .i64 b_K, .slc 3 (.int .i64) b_Low, .slc 3 (.int .i64) b_High], .slc 57 (.pair (.int .i64) (.int .i64)) l] => f23 k b_K b_Low b_High l | _ => none, false, none, false⟩
noncomputable def env75 : List (FuncId × Spec) := (23, s23) :: env74
noncomputable abbrev x23 := exec ti (envOf env74) 54 h23 (finT ti true Go.Proofs.Try.f23.results.toList [(.pair (.int .i64) (.pair (.slice 3 (.int .i64)) (.slice 3 (.int .i64))), true), (.bool, false)] (.pair (.pair (.int .i64) (.pair (.slice 3 (.int .i64)) (.slice 3 (.int .i64)))) (.bool)))
noncomputable def k23_1006 : List It := stackAt [.r, .r, .r, .r, .l, .r, .b, .lb none] (bodyOf Go.Proofs.Try.f23) []
def t23_1006 (t4s_0 : Int) (open_s : List (Int × List Int × List Int)) (best : Int) (t20 : Int) (t21 : Int) : St := [(8, Cell.val (AVal.ptr 33 0)), (33, Cell.mem true 31 [AVal.int IntKind.i64 t4s_0, AVal.nilslc, AVal.nilslc]), (12, Cell.val (AVal.ref 35 none)), (35, Cell.deep 31 (Ty.pair (Ty.int IntKind.i64) (Ty.pair (Ty.slice 3 (Ty.int IntKind.i64)) (Ty.slice 3 (Ty.int IntKind.i64)))) 0 open_s none), (14, Cell.val (AVal.int IntKind.i64 best)), (40, Cell.val (AVal.int IntKind.i64 t20)), (42, Cell.val (AVal.int IntKind.i64 t21))]
theorem e23_1006 (k : Nat) (t4s_0 : Int) (open_s : List (Int × List Int × List Int)) (best : Int) (t20 : Int) (t21 : Int) : x23 (k + 1) k23_1006 (t23_1006 t4s_0 open_s best t20 t21) = F23_1006 k (fun (t4s_0 : Int) (open_s : List (Int × List Int × List Int)) (best : Int) (t20 : Int) (t21 : Int) => x23 k k23_1006 (t23_1006 t4s_0 open_s best t20 t21)) t4s_0 open_s best t20 t21 := by kernel_rfl
theorem q23 : ∀ k : Nat, (fun (t4s_0 : Int) (open_s : List (Int × List Int × List Int)) (best : Int) (t20 : Int) (t21 : Int) => x23 k k23_1006 (t23_1006 t4s_0 open_s best t20 t21)) = l23 k
  | 0 => rfl
  | k + 1 => by
    have h := q23 k
    show _ = F23_1006 k (l23 k)
    rw [← h]
    exact (funext fun t4s_0 => funext fun open_s => funext fun best => funext fun t20 => funext fun t21 => e23_1006 k t4s_0 open_s best t20 t21)
theorem w23 (k : Nat) (b_K : Int) (b_Low : List (Int)) (b_High : List (Int)) (l : List (Int × Int)) : runFn ti (envOf env74) 54 h23 (finT ti true Go.Proofs.Try.f23.results.toList [(.pair (.int .i64) (.pair (.slice 3 (.int .i64)) (.slice 3 (.int .i64))), true), (.bool, false)] (.pair (.pair (.int .i64) (.pair (.slice 3 (.int .i64)) (.slice 3 (.int .i64)))) (.bool))) k (bodyOf Go.Proofs.Try.f23) (initS 0 [.agg [.int .i64 b_K, .slc 3 (.int .i64) b_Low, .slc 3 (.int .i64) b_High], .slc 57 (.pair (.int .i64) (.int .i64)) l]) = F23 k (fun (t4s_0 : Int) (open_s : List (Int × List Int × List Int)) (best : Int) (t20 : Int) (t21 : Int) => x23 k k23_1006 (t23_1006 t4s_0 open_s best t20 t21)) b_K b_Low b_High l := by kernel_rfl
theorem v23 (k : Nat) (b_K : Int) (b_Low : List (Int)) (b_High : List (Int)) (l : List (Int × Int)) : runFn ti (envOf env74) 54 h23 (finT ti true Go.Proofs.Try.f23.results.toList [(.pair (.int .i64) (.pair (.slice 3 (.int .i64)) (.slice 3 (.int .i64))), true), (.bool, false)] (.pair (.pair (.int .i64) (.pair (.slice 3 (.int .i64)) (.slice 3 (.int .i64)))) (.bool))) k (bodyOf Go.Proofs.Try.f23) (initS 0 [.agg [.int .i64 b_K, .slc 3 (.int .i64) b_Low, .slc 3 (.int .i64) b_High], .slc 57 (.pair (.int .i64) (.int .i64)) l]) = f23 k b_K b_Low b_High l := by
  rw [w23]
  have h := q23 k
  unfold f23
  rw [← h]
theorem m23 : Meets Go.Proofs.Try.prog 23 s23 := meets_of_run tiOk env74_ok mo Go.Proofs.Try.func23 (body := bodyOf Go.Proofs.Try.f23) (by kernel_rfl) (N := 54) (by kernel_rfl) (hs := h23) (by
  intro k xs r h
  unfold s23 at h
  dsimp only at h
  split at h
  · exact ⟨Nat.le_of_ble_eq_true rfl, (v23 k _ _ _ _).trans h⟩
  · cases h)
theorem env75_ok : EnvOk Go.Proofs.Try.prog (envOf env75) := envOf_cons m23 Go.Proofs.Try.func23 (by kernel_rfl) (by kernel_rfl) env74_ok

-- laws.eqBox
noncomputable def f24 (k : Nat) (a_K : Int) (a_Low : List (Int)) (a_High : List (Int)) (b_K : Int) (b_Low : List (Int)) (b_High : List (Int)) : Option (Bool) :=
  bif !decide (a_K = b_K) then
    some false
  else
    (f56 k a_Low b_Low).bind fun r0 =>
    bif !r0 then
      some false
    else
      (f56 k a_High b_High).bind fun r1 =>
      bif !r1 then
        some false
      else
        some true
noncomputable def s24 : Spec := ⟨false, [(.bool, false)], true, .bool, fun k xs => match xs with | [.agg [.int .i64 a_K, .slc 3 (.int .i64) a_Low, .slc 3 (.int .i64) a_High], .agg [.int .i64 b_K, .slc 3 (.int .i64) b_Low, .slc 3 (.int .i64) b_High]] => f24 k a_K a_Low a_High b_K b_Low b_High | _ => none, false, none, false⟩
noncomputable def env76 : List (FuncId × Spec) := (24, s24) :: env75
theorem v24 (k : Nat) (a_K : Int) (a_Low : List (Int)) (a_High : List (Int)) (b_K : Int) (b_Low : List (Int)) (b_High : List (Int)) : runFn ti (envOf env75) 22 [] (finT ti true Go.Proofs.Try.f24.results.toList [(.bool, false)] (.bool)) k (bodyOf Go.Proofs.Try.f24) (initS 0 [.agg [.int .i64 a_K, .slc 3 (.int .i64) a_Low, .slc 3 (.int .i64) a_High], .agg [.int .i64 b_K, .slc 3 (.int .i64) b_Low, .slc 3 (.int .i64) b_High]]) = f24 k a_K a_Low a_High b_K b_Low b_High := by kernel_rfl
theorem m24 : Meets Go.Proofs.Try.prog 24 s24 := meets_of_run tiOk env75_ok mo Go.Proofs.Try.func24 (body := bodyOf Go.Proofs.Try.f24) (by kernel_rfl) (N := 22) (by kernel_rfl) (hs := []) (by
  intro k xs r h
  unfold s24 at h
  dsimp only at h
  split at h
  · exact ⟨Nat.le_of_ble_eq_true rfl, (v24 k _ _ _ _ _ _).trans h⟩
  · cases h)
theorem env76_ok : EnvOk Go.Proofs.Try.prog (envOf env76) := envOf_cons m24 Go.Proofs.Try.func24 (by kernel_rfl) (by kernel_rfl) env75_ok

-- laws.heldIntS
def h45 : Hints := [(1002, .lab [(0, .one (.v)), (1, .one (.v)), (5, .one (.v))])]
noncomputable def F45_1002 (k : Nat) (rec1002 : List Int → Nat → Int → Int → Option (Int)) (a : List Int) (a_n : Nat) (k_ : Int) (i : Int) : Option (Int) :=
  bif decide (i < (↑a_n : Int)) then
    bif boundA i a_n then
      bif !decide (List.getD a (Int.toNat i) 0 = k_) then
        some (-1)
      else
        rec1002 a a_n (IntKind.wrap IntKind.i64 (k_ + 1)) (IntKind.wrap IntKind.i64 (i + 1))
    else
      none
  else
    some k_
noncomputable def F45 (k : Nat) (rec1002 : List Int → Nat → Int → Int → Option (Int)) (a : List (Int)) (a_n : Nat) (k_ : Int) : Option (Int) :=
  rec1002 a a_n k_ (0)
noncomputable def l45 : Nat → (List Int → Nat → Int → Int → Option (Int))
  | 0 => fun _ _ _ _ => none
  | k + 1 => F45_1002 k (l45 k)
noncomputable def f45 (k : Nat) (a : List (Int)) (a_n : Nat) (k_ : Int) : Option (Int) := F45 k (l45 k) a a_n k_
noncomputable def s45 : Spec := ⟨true, [(.int .i64, false)], true, .int .i64, fun k xs => match xs with | [.vslc 3 (.int .i64) a a_n, .int .i64 k_] => f45 k a a_n k_ | _ => none, false, none, false⟩
noncomputable def env77 : List (FuncId × Spec) := (45, s45) :: env76
noncomputable abbrev x45 := exec tiV (envOf env76) 21 h45 (finT tiV true Go.Proofs.Try.f45.results.toList [(.int .i64, false)] (.int .i64))
noncomputable def k45_1002 : List It := stackAt [.r, .l, .r, .b, .lb none] (bodyOf Go.Proofs.Try.f45) []
def t45_1002 (a : List Int) (a_n : Nat) (k_ : Int) (i : Int) : St := [(0, Cell.val (AVal.vslc 3 (Ty.int IntKind.i64) a a_n)), (2, Cell.val (AVal.int IntKind.i64 k_)), (10, Cell.val (AVal.int IntKind.i64 i))]
theorem e45_1002 (k : Nat) (a : List Int) (a_n : Nat) (k_ : Int) (i : Int) : x45 (k + 1) k45_1002 (t45_1002 a a_n k_ i) = F45_1002 k (fun (a : List Int) (a_n : Nat) (k_ : Int) (i : Int) => x45 k k45_1002 (t45_1002 a a_n k_ i)) a a_n k_ i := by kernel_rfl
theorem q45 : ∀ k : Nat, (fun (a : List Int) (a_n : Nat) (k_ : Int) (i : Int) => x45 k k45_1002 (t45_1002 a a_n k_ i)) = l45 k
  | 0 => rfl
  | k + 1 => by
    have h := q45 k
    show _ = F45_1002 k (l45 k)
    rw [← h]
    exact (funext fun a => funext fun a_n => funext fun k_ => funext fun i => e45_1002 k a a_n k_ i)
theorem w45 (k : Nat) (a : List (Int)) (a_n : Nat) (k_ : Int) : runFn tiV (envOf env76) 21 h45 (finT tiV true Go.Proofs.Try.f45.results.toList [(.int .i64, false)] (.int .i64)) k (bodyOf Go.Proofs.Try.f45) (initS 0 [.vslc 3 (.int .i64) a a_n, .int .i64 k_]) = F45 k (fun (a : List Int) (a_n : Nat) (k_ : Int) (i : Int) => x45 k k45_1002 (t45_1002 a a_n k_ i)) a a_n k_ := by kernel_rfl
theorem v45 (k : Nat) (a : List (Int)) (a_n : Nat) (k_ : Int) : runFn tiV (envOf env76) 21 h45 (finT tiV true Go.Proofs.Try.f45.results.toList [(.int .i64, false)] (.int .i64)) k (bodyOf Go.Proofs.Try.f45) (initS 0 [.vslc 3 (.int .i64) a a_n, .int .i64 k_]) = f45 k a a_n k_ := by
  rw [w45]
  have h := q45 k
  unfold f45
  rw [← h]
theorem m45 : Meets Go.Proofs.Try.prog 45 s45 := meets_of_run tiVOk env76_ok mo Go.Proofs.Try.func45 (body := bodyOf Go.Proofs.Try.f45) (by kernel_rfl) (N := 21) (by kernel_rfl) (hs := h45) (by
  intro k xs r h
  unfold s45 at h
  dsimp only at h
  split at h
  · exact ⟨Nat.le_of_ble_eq_true rfl, (v45 k _ _ _).trans h⟩
  · cases h)
theorem env77_ok : EnvOk Go.Proofs.Try.prog (envOf env77) := envOf_cons m45 Go.Proofs.Try.func45 (by kernel_rfl) (by kernel_rfl) env76_ok

-- laws.heldBox
noncomputable def f25 (k : Nat) (a_K : Int) (a_Low : List (Int)) (a_Low_n : Nat) (a_High : List (Int)) (a_High_n : Nat) (k_ : Int) : Option (Int) :=
  (f45 k a_Low a_Low_n k_).bind fun r0 =>
  bif decide (r0 < 0) then
    some (-1)
  else
    (f45 k a_High a_High_n r0).bind fun r1 =>
    bif decide (r1 < 0) then
      some (-1)
    else
      some r1
noncomputable def s25 : Spec := ⟨true, [(.int .i64, false)], true, .int .i64, fun k xs => match xs with | [.agg [.int .i64 a_K, .vslc 3 (.int .i64) a_Low a_Low_n, .vslc 3 (.int .i64) a_High a_High_n], .int .i64 k_] => f25 k a_K a_Low a_Low_n a_High a_High_n k_ | _ => none, false, none, false⟩
noncomputable def env78 : List (FuncId × Spec) := (25, s25) :: env77
theorem v25 (k : Nat) (a_K : Int) (a_Low : List (Int)) (a_Low_n : Nat) (a_High : List (Int)) (a_High_n : Nat) (k_ : Int) : runFn tiV (envOf env77) 18 [] (finT tiV true Go.Proofs.Try.f25.results.toList [(.int .i64, false)] (.int .i64)) k (bodyOf Go.Proofs.Try.f25) (initS 0 [.agg [.int .i64 a_K, .vslc 3 (.int .i64) a_Low a_Low_n, .vslc 3 (.int .i64) a_High a_High_n], .int .i64 k_]) = f25 k a_K a_Low a_Low_n a_High a_High_n k_ := by kernel_rfl
theorem m25 : Meets Go.Proofs.Try.prog 25 s25 := meets_of_run tiVOk env77_ok mo Go.Proofs.Try.func25 (body := bodyOf Go.Proofs.Try.f25) (by kernel_rfl) (N := 18) (by kernel_rfl) (hs := []) (by
  intro k xs r h
  unfold s25 at h
  dsimp only at h
  split at h
  · exact ⟨Nat.le_of_ble_eq_true rfl, (v25 k _ _ _ _ _ _).trans h⟩
  · cases h)
theorem env78_ok : EnvOk Go.Proofs.Try.prog (envOf env78) := envOf_cons m25 Go.Proofs.Try.func25 (by kernel_rfl) (by kernel_rfl) env77_ok

-- laws.FnExactLargestOpen
noncomputable def f5 (k : Nat) (L_K : Int) (L_Low : List (Int)) (L_High : List (Int)) (i : List (Int × Int)) : Option (Bool) :=
  (f7 k L_K L_Low L_High 1000000).bind fun r0 =>
  bif decide (r0 < 0) then
    some true
  else
    (f8 k i r0).bind fun r1 =>
    bif decide (r1 < 0) then
      some true
    else
      (f10 k L_K L_Low L_High false).bind fun r2 =>
      (f11 k i false).bind fun r3 =>
      (f22 k r2.fst (List.take r2.snd.fst.snd r2.snd.fst.fst) (List.take r2.snd.snd.snd r2.snd.snd.fst) (List.take r3.snd r3.fst)).bind fun r4 =>
      (f10 k L_K L_Low L_High false).bind fun r5 =>
      (f11 k i false).bind fun r6 =>
      (f23 k r5.fst (List.take r5.snd.fst.snd r5.snd.fst.fst) (List.take r5.snd.snd.snd r5.snd.snd.fst) (List.take r6.snd r6.fst)).bind fun r7 =>
      (f24 k r7.fst.fst r7.fst.snd.fst r7.fst.snd.snd r4.fst.fst r4.fst.snd.fst r4.fst.snd.snd).bind fun r8 =>
      bif !r8 then
        some false
      else
        bif !r7.snd == r4.snd then
          some false
        else
          (f10 k L_K L_Low L_High false).bind fun r9 =>
          (f14 k r5.fst r5.snd.fst.fst r5.snd.fst.snd r5.snd.snd.fst r5.snd.snd.snd r9.fst r9.snd.fst.fst r9.snd.fst.snd r9.snd.snd.fst r9.snd.snd.snd).bind fun r10 =>
          bif !r10 then
            some false
          else
            (f11 k i false).bind fun r11 =>
            (f15 k r6.fst r6.snd r11.fst r11.snd).bind fun r12 =>
            bif !r12 then
              some false
            else
              (f16 k r5.snd.fst.fst r5.snd.snd.fst r5.fst r5.snd.fst.snd r5.snd.snd.snd 101).bind fun r13 =>
              (f17 k r6.fst r6.snd r13.snd).bind fun r14 =>
              bif decide (r14.snd < 0) then
                some false
              else
                (f24 k r7.fst.fst r7.fst.snd.fst r7.fst.snd.snd r4.fst.fst r4.fst.snd.fst r4.fst.snd.snd).bind fun r15 =>
                bif !r15 then
                  some false
                else
                  bif !r7.snd == r4.snd then
                    some false
                  else
                    (f16_0 k r7.fst.snd.fst r7.fst.snd.snd r7.fst.fst 101).bind fun r16 =>
                    (f25 k r7.fst.fst r16.fst.fst (List.length r16.fst.fst) r16.fst.snd (List.length r16.fst.snd) 101).bind fun r17 =>
                    bif decide (r17 < 0) then
                      some false
                    else
                      bif !decide (r17 = r16.snd) then
                        some false
                      else
                        (f10 k L_K L_Low L_High true).bind fun r18 =>
                        (f11 k i true).bind fun r19 =>
                        (f23 k r18.fst (List.take r18.snd.fst.snd r18.snd.fst.fst) (List.take r18.snd.snd.snd r18.snd.snd.fst) (List.take r19.snd r19.fst)).bind fun r20 =>
                        (f24 k r20.fst.fst r20.fst.snd.fst r20.fst.snd.snd r4.fst.fst r4.fst.snd.fst r4.fst.snd.snd).bind fun r21 =>
                        bif !r21 then
                          some false
                        else
                          bif !r20.snd == r4.snd then
                            some false
                          else
                            (f25 k r7.fst.fst r16.fst.fst (List.length r16.fst.fst) r16.fst.snd (List.length r16.fst.snd) 101).bind fun r22 =>
                            bif decide (r22 < 0) then
                              some false
                            else
                              bif !decide (r22 = r16.snd) then
                                some false
                              else
                                some true
noncomputable def s5 : Spec := ⟨false, [(.bool, false)], true, .bool, fun k xs => match xs with | [.agg [.int .i64 L_K, .slc 3 (.int .i64) L_Low, .slc 3 (.int .i64) L_High], .slc 59 (.pair (.int .i64) (.int .i64)) i] => f5 k L_K L_Low L_High i | _ => none, false, none, false⟩
noncomputable def env79 : List (FuncId × Spec) := (5, s5) :: env78
theorem v5 (k : Nat) (L_K : Int) (L_Low : List (Int)) (L_High : List (Int)) (i : List (Int × Int)) : runFn tiV (envOf env78) 119 [] (finT tiV true Go.Proofs.Try.f5.results.toList [(.bool, false)] (.bool)) k (bodyOf Go.Proofs.Try.f5) (initS 0 [.agg [.int .i64 L_K, .slc 3 (.int .i64) L_Low, .slc 3 (.int .i64) L_High], .slc 59 (.pair (.int .i64) (.int .i64)) i]) = f5 k L_K L_Low L_High i := by kernel_rfl
theorem m5 : Meets Go.Proofs.Try.prog 5 s5 := meets_of_run tiVOk env78_ok mo Go.Proofs.Try.func5 (body := bodyOf Go.Proofs.Try.f5) (by kernel_rfl) (N := 119) (by kernel_rfl) (hs := []) (by
  intro k xs r h
  unfold s5 at h
  dsimp only at h
  split at h
  · exact ⟨Nat.le_of_ble_eq_true rfl, (v5 k _ _ _ _).trans h⟩
  · cases h)
theorem env79_ok : EnvOk Go.Proofs.Try.prog (envOf env79) := envOf_cons m5 Go.Proofs.Try.func5 (by kernel_rfl) (by kernel_rfl) env78_ok

end Go.Proofs.YtchdegcfohegfaaE
