/- Functions, by the engine; printed. -/
import Derived.Test.YtkahcjnkmbbplaaLA5
set_option maxRecDepth 100000
set_option maxHeartbeats 4000000
set_option linter.unusedVariables false
namespace Go.Proofs.YtkahcjnkmbbplaaE
-- impl.size
noncomputable def f97 (k : Nat) (n : Int) : Option (Int) :=
  bif decide (n < 0) then
    some (IntKind.wrap IntKind.u64 (IntKind.wrap IntKind.i64 (0 - n)))
  else
    some (IntKind.wrap IntKind.u64 n)
noncomputable def s97 : Spec := ⟨false, [(.int .u64, false)], true, .int .u64, fun k xs => match xs with | [.int .i64 n] => f97 k n | _ => none, false⟩
noncomputable def env61 : List (FuncId × Spec) := (97, s97) :: env60
theorem v97 (k : Nat) (n : Int) : runFn ti (envOf env60) 10 [] (finT ti true Go.Proofs.Try.f97.results.toList [(.int .u64, false)] (.int .u64)) k (bodyOf Go.Proofs.Try.f97) (initS 0 [.int .i64 n]) = f97 k n := by kernel_rfl
theorem m97 : Meets Go.Proofs.Try.prog 97 s97 := meets_of_run tiOk env60_ok mo Go.Proofs.Try.func97 (body := bodyOf Go.Proofs.Try.f97) (by kernel_rfl) (N := 10) (by kernel_rfl) (hs := []) (by
  intro k xs r h
  unfold s97 at h
  dsimp only at h
  split at h
  · exact ⟨Nat.le_of_ble_eq_true rfl, (v97 k _).trans h⟩
  · cases h)
theorem env61_ok : EnvOk Go.Proofs.Try.prog (envOf env61) := envOf_cons m97 Go.Proofs.Try.func97 (by kernel_rfl) (by kernel_rfl) env60_ok

-- impl.wideOf
noncomputable def f87 (k : Nat) (n : Int) : Option (Bool × Int × Int) :=
  (f97 k n).bind fun r0 =>
  some ((decide (n < 0), 0, r0))
noncomputable def s87 : Spec := ⟨false, [(.pair (.bool) (.pair (.int .u64) (.int .u64)), true)], true, .pair (.bool) (.pair (.int .u64) (.int .u64)), fun k xs => match xs with | [.int .i64 n] => f87 k n | _ => none, false⟩
noncomputable def env62 : List (FuncId × Spec) := (87, s87) :: env61
theorem v87 (k : Nat) (n : Int) : runFn ti (envOf env61) 8 [] (finT ti true Go.Proofs.Try.f87.results.toList [(.pair (.bool) (.pair (.int .u64) (.int .u64)), true)] (.pair (.bool) (.pair (.int .u64) (.int .u64)))) k (bodyOf Go.Proofs.Try.f87) (initS 0 [.int .i64 n]) = f87 k n := by kernel_rfl
theorem m87 : Meets Go.Proofs.Try.prog 87 s87 := meets_of_run tiOk env61_ok mo Go.Proofs.Try.func87 (body := bodyOf Go.Proofs.Try.f87) (by kernel_rfl) (N := 8) (by kernel_rfl) (hs := []) (by
  intro k xs r h
  unfold s87 at h
  dsimp only at h
  split at h
  · exact ⟨Nat.le_of_ble_eq_true rfl, (v87 k _).trans h⟩
  · cases h)
theorem env62_ok : EnvOk Go.Proofs.Try.prog (envOf env62) := envOf_cons m87 Go.Proofs.Try.func87 (by kernel_rfl) (by kernel_rfl) env61_ok

-- impl.wide).shift
noncomputable def f88 (k : Nat) (w_negative : Bool) (w_high : Int) (w_low : Int) (k_ : Int) : Option (Bool × Int × Int) :=
  bif decide (0 ≤ k_) then
    bif decide (64 ≤ k_) then
      bif !decide (IntKind.wrap IntKind.i64 (k_ - 64) < 0) then
        some ((w_negative, IntKind.wrap IntKind.u64 (w_low * 2 ^ min (Int.toNat (IntKind.wrap IntKind.i64 (k_ - 64))) (IntKind.bits IntKind.u64)), 0))
      else
        none
    else
      bif !decide (k_ < 0) then
        bif !decide (IntKind.wrap IntKind.i64 (64 - k_) < 0) then
          bif !decide (k_ < 0) then
            some ((w_negative, IntKind.wrap IntKind.u64 (↑(BitVec.toNat (BitVec.ofInt (IntKind.bits IntKind.u64) (IntKind.wrap IntKind.u64 (w_high * 2 ^ min (Int.toNat k_) (IntKind.bits IntKind.u64))) ||| BitVec.ofInt (IntKind.bits IntKind.u64) (Int.fdiv w_low (2 ^ min (Int.toNat (IntKind.wrap IntKind.i64 (64 - k_))) (IntKind.bits IntKind.u64))))) : Int), IntKind.wrap IntKind.u64 (w_low * 2 ^ min (Int.toNat k_) (IntKind.bits IntKind.u64))))
          else
            none
        else
          none
      else
        none
  else
    bif decide (64 ≤ IntKind.wrap IntKind.i64 (0 - k_)) then
      bif !decide (IntKind.wrap IntKind.i64 (IntKind.wrap IntKind.i64 (0 - k_) - 64) < 0) then
        some ((w_negative, 0, Int.fdiv w_high (2 ^ min (Int.toNat (IntKind.wrap IntKind.i64 (IntKind.wrap IntKind.i64 (0 - k_) - 64))) (IntKind.bits IntKind.u64))))
      else
        none
    else
      bif !decide (IntKind.wrap IntKind.i64 (0 - k_) < 0) then
        bif !decide (IntKind.wrap IntKind.i64 (0 - k_) < 0) then
          bif !decide (IntKind.wrap IntKind.i64 (64 - IntKind.wrap IntKind.i64 (0 - k_)) < 0) then
            some ((w_negative, Int.fdiv w_high (2 ^ min (Int.toNat (IntKind.wrap IntKind.i64 (0 - k_))) (IntKind.bits IntKind.u64)), IntKind.wrap IntKind.u64 (↑(BitVec.toNat (BitVec.ofInt (IntKind.bits IntKind.u64) (Int.fdiv w_low (2 ^ min (Int.toNat (IntKind.wrap IntKind.i64 (0 - k_))) (IntKind.bits IntKind.u64))) ||| BitVec.ofInt (IntKind.bits IntKind.u64) (IntKind.wrap IntKind.u64 (w_high * 2 ^ min (Int.toNat (IntKind.wrap IntKind.i64 (64 - IntKind.wrap IntKind.i64 (0 - k_)))) (IntKind.bits IntKind.u64))))) : Int)))
          else
            none
        else
          none
      else
        none
noncomputable def s88 : Spec := ⟨false, [(.pair (.bool) (.pair (.int .u64) (.int .u64)), true)], true, .pair (.bool) (.pair (.int .u64) (.int .u64)), fun k xs => match xs with | [.agg [.bool w_negative, .int .u64 w_high, .int .u64 w_low], .int .i64 k_] => f88 k w_negative w_high w_low k_ | _ => none, false⟩
noncomputable def env63 : List (FuncId × Spec) := (88, s88) :: env62
theorem v88 (k : Nat) (w_negative : Bool) (w_high : Int) (w_low : Int) (k_ : Int) : runFn ti (envOf env62) 63 [] (finT ti true Go.Proofs.Try.f88.results.toList [(.pair (.bool) (.pair (.int .u64) (.int .u64)), true)] (.pair (.bool) (.pair (.int .u64) (.int .u64)))) k (bodyOf Go.Proofs.Try.f88) (initS 0 [.agg [.bool w_negative, .int .u64 w_high, .int .u64 w_low], .int .i64 k_]) = f88 k w_negative w_high w_low k_ := by kernel_rfl
theorem m88 : Meets Go.Proofs.Try.prog 88 s88 := meets_of_run tiOk env62_ok mo Go.Proofs.Try.func88 (body := bodyOf Go.Proofs.Try.f88) (by kernel_rfl) (N := 63) (by kernel_rfl) (hs := []) (by
  intro k xs r h
  unfold s88 at h
  dsimp only at h
  split at h
  · exact ⟨Nat.le_of_ble_eq_true rfl, (v88 k _ _ _ _).trans h⟩
  · cases h)
theorem env63_ok : EnvOk Go.Proofs.Try.prog (envOf env63) := envOf_cons m88 Go.Proofs.Try.func88 (by kernel_rfl) (by kernel_rfl) env62_ok

-- impl.compareD
noncomputable def f52 (k : Nat) (a_N : Int) (a_K : Int) (b_N : Int) (b_K : Int) : Option (Int) :=
  (f87 k a_N).bind fun r0 =>
  (f88 k r0.fst r0.snd.fst r0.snd.snd (IntKind.wrap IntKind.i64 ((bif decide (a_K < b_K) then b_K else a_K) - a_K))).bind fun r1 =>
  (f87 k b_N).bind fun r2 =>
  (f88 k r2.fst r2.snd.fst r2.snd.snd (IntKind.wrap IntKind.i64 ((bif decide (a_K < b_K) then b_K else a_K) - b_K))).bind fun r3 =>
  (f86 k r1.fst r1.snd.fst r1.snd.snd r3.fst r3.snd.fst r3.snd.snd).bind fun r4 =>
  some r4
noncomputable def s52 : Spec := ⟨false, [(.int .i64, false)], true, .int .i64, fun k xs => match xs with | [.agg [.int .i64 a_N, .int .i64 a_K], .agg [.int .i64 b_N, .int .i64 b_K]] => f52 k a_N a_K b_N b_K | _ => none, false⟩
noncomputable def env64 : List (FuncId × Spec) := (52, s52) :: env63
theorem v52 (k : Nat) (a_N : Int) (a_K : Int) (b_N : Int) (b_K : Int) : runFn ti (envOf env63) 28 [] (finT ti true Go.Proofs.Try.f52.results.toList [(.int .i64, false)] (.int .i64)) k (bodyOf Go.Proofs.Try.f52) (initS 0 [.agg [.int .i64 a_N, .int .i64 a_K], .agg [.int .i64 b_N, .int .i64 b_K]]) = f52 k a_N a_K b_N b_K := by kernel_rfl
theorem m52 : Meets Go.Proofs.Try.prog 52 s52 := meets_of_run tiOk env63_ok mo Go.Proofs.Try.func52 (body := bodyOf Go.Proofs.Try.f52) (by kernel_rfl) (N := 28) (by kernel_rfl) (hs := []) (by
  intro k xs r h
  unfold s52 at h
  dsimp only at h
  split at h
  · exact ⟨Nat.le_of_ble_eq_true rfl, (v52 k _ _ _ _).trans h⟩
  · cases h)
theorem env64_ok : EnvOk Go.Proofs.Try.prog (envOf env64) := envOf_cons m52 Go.Proofs.Try.func52 (by kernel_rfl) (by kernel_rfl) env63_ok

-- impl.isPlaces
noncomputable def f108 (k : Nat) (places : Int) : Option (Bool) :=
  (f91 k places 0 24).bind fun r0 =>
  some r0
noncomputable def s108 : Spec := ⟨false, [(.bool, false)], true, .bool, fun k xs => match xs with | [.int .i64 places] => f108 k places | _ => none, false⟩
noncomputable def env65 : List (FuncId × Spec) := (108, s108) :: env64
theorem v108 (k : Nat) (places : Int) : runFn ti (envOf env64) 5 [] (finT ti true Go.Proofs.Try.f108.results.toList [(.bool, false)] (.bool)) k (bodyOf Go.Proofs.Try.f108) (initS 0 [.int .i64 places]) = f108 k places := by kernel_rfl
theorem m108 : Meets Go.Proofs.Try.prog 108 s108 := meets_of_run tiOk env64_ok mo Go.Proofs.Try.func108 (body := bodyOf Go.Proofs.Try.f108) (by kernel_rfl) (N := 5) (by kernel_rfl) (hs := []) (by
  intro k xs r h
  unfold s108 at h
  dsimp only at h
  split at h
  · exact ⟨Nat.le_of_ble_eq_true rfl, (v108 k _).trans h⟩
  · cases h)
theorem env65_ok : EnvOk Go.Proofs.Try.prog (envOf env65) := envOf_cons m108 Go.Proofs.Try.func108 (by kernel_rfl) (by kernel_rfl) env64_ok

-- impl.isDyadic
noncomputable def f76 (k : Nat) (a_N : Int) (a_K : Int) : Option (Bool) :=
  (f108 k a_K).bind fun r0 =>
  bif r0 then
    (f91 k a_N (-1099511627776) 1099511627776).bind fun r1 =>
    bif r1 then
      bif decide (a_K = 0) then
        some true
      else
        some (!decide (Int.tmod a_N 2 = 0))
    else
      some false
  else
    some false
noncomputable def s76 : Spec := ⟨false, [(.bool, false)], true, .bool, fun k xs => match xs with | [.agg [.int .i64 a_N, .int .i64 a_K]] => f76 k a_N a_K | _ => none, false⟩
noncomputable def env66 : List (FuncId × Spec) := (76, s76) :: env65
theorem v76 (k : Nat) (a_N : Int) (a_K : Int) : runFn ti (envOf env65) 22 [] (finT ti true Go.Proofs.Try.f76.results.toList [(.bool, false)] (.bool)) k (bodyOf Go.Proofs.Try.f76) (initS 0 [.agg [.int .i64 a_N, .int .i64 a_K]]) = f76 k a_N a_K := by kernel_rfl
theorem m76 : Meets Go.Proofs.Try.prog 76 s76 := meets_of_run tiOk env65_ok mo Go.Proofs.Try.func76 (body := bodyOf Go.Proofs.Try.f76) (by kernel_rfl) (N := 22) (by kernel_rfl) (hs := []) (by
  intro k xs r h
  unfold s76 at h
  dsimp only at h
  split at h
  · exact ⟨Nat.le_of_ble_eq_true rfl, (v76 k _ _).trans h⟩
  · cases h)
theorem env66_ok : EnvOk Go.Proofs.Try.prog (envOf env66) := envOf_cons m76 Go.Proofs.Try.func76 (by kernel_rfl) (by kernel_rfl) env65_ok

-- impl.HasPoint$1
noncomputable def f75 (k : Nat) (a_N : Int) (a_K : Int) : Option (Bool) :=
  (f76 k a_N a_K).bind fun r0 =>
  some (!r0)
noncomputable def s75 : Spec := ⟨false, [(.bool, false)], true, .bool, fun k xs => match xs with | [.agg [.int .i64 a_N, .int .i64 a_K]] => f75 k a_N a_K | _ => none, false⟩
noncomputable def env67 : List (FuncId × Spec) := (75, s75) :: env66
theorem v75 (k : Nat) (a_N : Int) (a_K : Int) : runFn ti (envOf env66) 6 [] (finT ti true Go.Proofs.Try.f75.results.toList [(.bool, false)] (.bool)) k (bodyOf Go.Proofs.Try.f75) (initS 0 [.agg [.int .i64 a_N, .int .i64 a_K]]) = f75 k a_N a_K := by kernel_rfl
theorem m75 : Meets Go.Proofs.Try.prog 75 s75 := meets_of_run tiOk env66_ok mo Go.Proofs.Try.func75 (body := bodyOf Go.Proofs.Try.f75) (by kernel_rfl) (N := 6) (by kernel_rfl) (hs := []) (by
  intro k xs r h
  unfold s75 at h
  dsimp only at h
  split at h
  · exact ⟨Nat.le_of_ble_eq_true rfl, (v75 k _ _).trans h⟩
  · cases h)
theorem env67_ok : EnvOk Go.Proofs.Try.prog (envOf env67) := envOf_cons m75 Go.Proofs.Try.func75 (by kernel_rfl) (by kernel_rfl) env66_ok

-- impl.Dyadic]
def h107_75 : Hints := [(1002, .lab [(0, .one (.frz 68 (Ty.pair (Ty.int IntKind.i64) (Ty.int IntKind.i64)))), (1, .one (.v)), (7, .one (.v)), (8, .one (.v))])]
noncomputable def F107_75_1002 (k : Nat) (rec1002 : List (Int × Int) → Int → Int → Option (Int)) (s : List (Int × Int)) (t7 : Int) (t8 : Int) : Option (Int) :=
  bif decide (t8 < t7) then
    bif boundA t8 (List.length s) then
      (f75 k (List.getD s (Int.toNat t8) (0, 0)).fst (List.getD s (Int.toNat t8) (0, 0)).snd).bind fun r0 =>
      bif r0 then
        some t8
      else
        rec1002 s t7 (IntKind.wrap IntKind.i64 (t8 + 1))
    else
      none
  else
    some (-1)
noncomputable def F107_75 (k : Nat) (rec1002 : List (Int × Int) → Int → Int → Option (Int)) (s : List (Int × Int)) : Option (Int) :=
  rec1002 s ((↑(List.length s) : Int)) (0)
noncomputable def l107_75 : Nat → (List (Int × Int) → Int → Int → Option (Int))
  | 0 => fun _ _ _ => none
  | k + 1 => F107_75_1002 k (l107_75 k)
noncomputable def f107_75 (k : Nat) (s : List (Int × Int)) : Option (Int) := F107_75 k (l107_75 k) s
noncomputable def s107 : Spec := ⟨false, [(.int .i64, false)], true, .int .i64, fun k xs => match xs with | [.slc 68 (.pair (.int .i64) (.int .i64)) s, .fn 75] => f107_75 k s | _ => none, false⟩
noncomputable def env68 : List (FuncId × Spec) := (107, s107) :: env67
noncomputable abbrev x107_75 := exec ti (envOf env67) 19 h107_75 (finT ti true Go.Proofs.Try.f107.results.toList [(.int .i64, false)] (.int .i64))
noncomputable def k107_75_1002 : List It := stackAt [.r, .l, .r, .b, .lb none] (bodyOf Go.Proofs.Try.f107) []
def t107_75_1002 (s : List (Int × Int)) (t7 : Int) (t8 : Int) : St := [(0, Cell.val (AVal.slc 68 (Ty.pair (Ty.int IntKind.i64) (Ty.int IntKind.i64)) s)), (2, Cell.val (AVal.fn 75)), (14, Cell.val (AVal.int IntKind.i64 t7)), (16, Cell.val (AVal.int IntKind.i64 t8))]
theorem e107_75_1002 (k : Nat) (s : List (Int × Int)) (t7 : Int) (t8 : Int) : x107_75 (k + 1) k107_75_1002 (t107_75_1002 s t7 t8) = F107_75_1002 k (fun (s : List (Int × Int)) (t7 : Int) (t8 : Int) => x107_75 k k107_75_1002 (t107_75_1002 s t7 t8)) s t7 t8 := by kernel_rfl
theorem q107_75 : ∀ k : Nat, (fun (s : List (Int × Int)) (t7 : Int) (t8 : Int) => x107_75 k k107_75_1002 (t107_75_1002 s t7 t8)) = l107_75 k
  | 0 => rfl
  | k + 1 => by
    have h := q107_75 k
    show _ = F107_75_1002 k (l107_75 k)
    rw [← h]
    exact (funext fun s => funext fun t7 => funext fun t8 => e107_75_1002 k s t7 t8)
theorem w107_75 (k : Nat) (s : List (Int × Int)) : runFn ti (envOf env67) 19 h107_75 (finT ti true Go.Proofs.Try.f107.results.toList [(.int .i64, false)] (.int .i64)) k (bodyOf Go.Proofs.Try.f107) (initS 0 [.slc 68 (.pair (.int .i64) (.int .i64)) s, .fn 75]) = F107_75 k (fun (s : List (Int × Int)) (t7 : Int) (t8 : Int) => x107_75 k k107_75_1002 (t107_75_1002 s t7 t8)) s := by kernel_rfl
theorem v107_75 (k : Nat) (s : List (Int × Int)) : runFn ti (envOf env67) 19 h107_75 (finT ti true Go.Proofs.Try.f107.results.toList [(.int .i64, false)] (.int .i64)) k (bodyOf Go.Proofs.Try.f107) (initS 0 [.slc 68 (.pair (.int .i64) (.int .i64)) s, .fn 75]) = f107_75 k s := by
  rw [w107_75]
  have h := q107_75 k
  unfold f107_75
  rw [← h]
theorem m107 : Meets Go.Proofs.Try.prog 107 s107 := meets_of_run tiOk env67_ok mo Go.Proofs.Try.func107 (body := bodyOf Go.Proofs.Try.f107) (by kernel_rfl) (N := 19) (by kernel_rfl) (hs := h107_75) (by
  intro k xs r h
  unfold s107 at h
  dsimp only at h
  split at h
  · exact ⟨Nat.le_of_ble_eq_true rfl, (v107_75 k _).trans h⟩
  · cases h)
theorem env68_ok : EnvOk Go.Proofs.Try.prog (envOf env68) := envOf_cons m107 Go.Proofs.Try.func107 (by kernel_rfl) (by kernel_rfl) env67_ok

-- impl.Dyadic]
noncomputable def f74_75 (k : Nat) (s : List (Int × Int)) : Option (Bool) :=
  (f107_75 k s).bind fun r0 =>
  some (decide (0 ≤ r0))
noncomputable def s74 : Spec := ⟨false, [(.bool, false)], true, .bool, fun k xs => match xs with | [.slc 68 (.pair (.int .i64) (.int .i64)) s, .fn 75] => f74_75 k s | _ => none, false⟩
noncomputable def env69 : List (FuncId × Spec) := (74, s74) :: env68
theorem v74_75 (k : Nat) (s : List (Int × Int)) : runFn ti (envOf env68) 9 [] (finT ti true Go.Proofs.Try.f74.results.toList [(.bool, false)] (.bool)) k (bodyOf Go.Proofs.Try.f74) (initS 0 [.slc 68 (.pair (.int .i64) (.int .i64)) s, .fn 75]) = f74_75 k s := by kernel_rfl
theorem m74 : Meets Go.Proofs.Try.prog 74 s74 := meets_of_run tiOk env68_ok mo Go.Proofs.Try.func74 (body := bodyOf Go.Proofs.Try.f74) (by kernel_rfl) (N := 9) (by kernel_rfl) (hs := []) (by
  intro k xs r h
  unfold s74 at h
  dsimp only at h
  split at h
  · exact ⟨Nat.le_of_ble_eq_true rfl, (v74_75 k _).trans h⟩
  · cases h)
theorem env69_ok : EnvOk Go.Proofs.Try.prog (envOf env69) := envOf_cons m74 Go.Proofs.Try.func74 (by kernel_rfl) (by kernel_rfl) env68_ok

-- impl.wide).fit
def h90 : Hints := [(1003, .lab [(1, .one (.v)), (2, .box 112 [.v, .v, .v]), (4, .box 68 [.v, .v])])]
noncomputable def F90_1003 (k : Nat) (rec1003 : Int → Bool → Int → Int → Int → Int → Option ((Int × Int) × Bool)) (k_ : Int) (ws_0 : Bool) (ws_1 : Int) (ws_2 : Int) (t4s_0 : Int) (t4s_1 : Int) : Option ((Int × Int) × Bool) :=
  bif decide (0 < k_) then
    bif decide (Int.tmod ws_2 2 = 0) then
      rec1003 (IntKind.wrap IntKind.i64 (k_ - 1)) ws_0 (Int.fdiv ws_1 (2 ^ min (Int.toNat (IntKind.wrap IntKind.i64 (0 - -1))) (IntKind.bits IntKind.u64))) (IntKind.wrap IntKind.u64 (↑(BitVec.toNat (BitVec.ofInt (IntKind.bits IntKind.u64) (Int.fdiv ws_2 (2 ^ min (Int.toNat (IntKind.wrap IntKind.i64 (0 - -1))) (IntKind.bits IntKind.u64))) ||| BitVec.ofInt (IntKind.bits IntKind.u64) (IntKind.wrap IntKind.u64 (ws_1 * 2 ^ min (Int.toNat (IntKind.wrap IntKind.i64 (64 - IntKind.wrap IntKind.i64 (0 - -1)))) (IntKind.bits IntKind.u64))))) : Int)) t4s_0 t4s_1
    else
      bif decide (24 < k_) then
        some (((0, 0), false))
      else
        bif decide (0 < ws_1) then
          some (((0, 0), false))
        else
          bif decide (1099511627776 < ws_2) then
            some (((0, 0), false))
          else
            bif ws_0 then
              some (((IntKind.wrap IntKind.i64 (0 - IntKind.wrap IntKind.i64 ws_2), k_), true))
            else
              some (((IntKind.wrap IntKind.i64 ws_2, k_), true))
  else
    bif decide (24 < k_) then
      some (((0, 0), false))
    else
      bif decide (0 < ws_1) then
        some (((0, 0), false))
      else
        bif decide (1099511627776 < ws_2) then
          some (((0, 0), false))
        else
          bif ws_0 then
            some (((IntKind.wrap IntKind.i64 (0 - IntKind.wrap IntKind.i64 ws_2), k_), true))
          else
            some (((IntKind.wrap IntKind.i64 ws_2, k_), true))
noncomputable def F90 (k : Nat) (rec1003 : Int → Bool → Int → Int → Int → Int → Option ((Int × Int) × Bool)) (w_negative : Bool) (w_high : Int) (w_low : Int) (k_ : Int) : Option ((Int × Int) × Bool) :=
  (f113 k w_negative w_high w_low).bind fun r0 =>
  bif r0 then
    some (((0, 0), true))
  else
    rec1003 k_ w_negative w_high w_low (0) (0)
noncomputable def l90 : Nat → (Int → Bool → Int → Int → Int → Int → Option ((Int × Int) × Bool))
  | 0 => fun _ _ _ _ _ _ => none
  | k + 1 => F90_1003 k (l90 k)
noncomputable def f90 (k : Nat) (w_negative : Bool) (w_high : Int) (w_low : Int) (k_ : Int) : Option ((Int × Int) × Bool) := F90 k (l90 k) w_negative w_high w_low k_
noncomputable def s90 : Spec := ⟨false, [(.pair (.int .i64) (.int .i64), true), (.bool, false)], true, .pair (.pair (.int .i64) (.int .i64)) (.bool), fun k xs => match xs with | [.agg [.bool w_negative, .int .u64 w_high, .int .u64 w_low], .int .i64 k_] => f90 k w_negative w_high w_low k_ | _ => none, false⟩
noncomputable def env70 : List (FuncId × Spec) := (90, s90) :: env69
noncomputable abbrev x90 := exec ti (envOf env69) 45 h90 (finT ti true Go.Proofs.Try.f90.results.toList [(.pair (.int .i64) (.int .i64), true), (.bool, false)] (.pair (.pair (.int .i64) (.int .i64)) (.bool)))
noncomputable def k90_1003 : List It := stackAt [.r, .r, .l, .b, .lb none] (bodyOf Go.Proofs.Try.f90) []
def t90_1003 (k_ : Int) (ws_0 : Bool) (ws_1 : Int) (ws_2 : Int) (t4s_0 : Int) (t4s_1 : Int) : St := [(2, Cell.val (AVal.int IntKind.i64 k_)), (4, Cell.val (AVal.ptr 3 0)), (3, Cell.mem true 112 [AVal.bool ws_0, AVal.int IntKind.u64 ws_1, AVal.int IntKind.u64 ws_2]), (8, Cell.val (AVal.ptr 5 0)), (5, Cell.mem true 68 [AVal.int IntKind.i64 t4s_0, AVal.int IntKind.i64 t4s_1])]
theorem e90_1003 (k : Nat) (k_ : Int) (ws_0 : Bool) (ws_1 : Int) (ws_2 : Int) (t4s_0 : Int) (t4s_1 : Int) : x90 (k + 1) k90_1003 (t90_1003 k_ ws_0 ws_1 ws_2 t4s_0 t4s_1) = F90_1003 k (fun (k_ : Int) (ws_0 : Bool) (ws_1 : Int) (ws_2 : Int) (t4s_0 : Int) (t4s_1 : Int) => x90 k k90_1003 (t90_1003 k_ ws_0 ws_1 ws_2 t4s_0 t4s_1)) k_ ws_0 ws_1 ws_2 t4s_0 t4s_1 := by kernel_rfl
theorem q90 : ∀ k : Nat, (fun (k_ : Int) (ws_0 : Bool) (ws_1 : Int) (ws_2 : Int) (t4s_0 : Int) (t4s_1 : Int) => x90 k k90_1003 (t90_1003 k_ ws_0 ws_1 ws_2 t4s_0 t4s_1)) = l90 k
  | 0 => rfl
  | k + 1 => by
    have h := q90 k
    show _ = F90_1003 k (l90 k)
    rw [← h]
    exact (funext fun k_ => funext fun ws_0 => funext fun ws_1 => funext fun ws_2 => funext fun t4s_0 => funext fun t4s_1 => e90_1003 k k_ ws_0 ws_1 ws_2 t4s_0 t4s_1)
theorem w90 (k : Nat) (w_negative : Bool) (w_high : Int) (w_low : Int) (k_ : Int) : runFn ti (envOf env69) 45 h90 (finT ti true Go.Proofs.Try.f90.results.toList [(.pair (.int .i64) (.int .i64), true), (.bool, false)] (.pair (.pair (.int .i64) (.int .i64)) (.bool))) k (bodyOf Go.Proofs.Try.f90) (initS 0 [.agg [.bool w_negative, .int .u64 w_high, .int .u64 w_low], .int .i64 k_]) = F90 k (fun (k_ : Int) (ws_0 : Bool) (ws_1 : Int) (ws_2 : Int) (t4s_0 : Int) (t4s_1 : Int) => x90 k k90_1003 (t90_1003 k_ ws_0 ws_1 ws_2 t4s_0 t4s_1)) w_negative w_high w_low k_ := by kernel_rfl
theorem v90 (k : Nat) (w_negative : Bool) (w_high : Int) (w_low : Int) (k_ : Int) : runFn ti (envOf env69) 45 h90 (finT ti true Go.Proofs.Try.f90.results.toList [(.pair (.int .i64) (.int .i64), true), (.bool, false)] (.pair (.pair (.int .i64) (.int .i64)) (.bool))) k (bodyOf Go.Proofs.Try.f90) (initS 0 [.agg [.bool w_negative, .int .u64 w_high, .int .u64 w_low], .int .i64 k_]) = f90 k w_negative w_high w_low k_ := by
  rw [w90]
  have h := q90 k
  unfold f90
  rw [← h]
theorem m90 : Meets Go.Proofs.Try.prog 90 s90 := meets_of_run tiOk env69_ok mo Go.Proofs.Try.func90 (body := bodyOf Go.Proofs.Try.f90) (by kernel_rfl) (N := 45) (by kernel_rfl) (hs := h90) (by
  intro k xs r h
  unfold s90 at h
  dsimp only at h
  split at h
  · exact ⟨Nat.le_of_ble_eq_true rfl, (v90 k _ _ _ _).trans h⟩
  · cases h)
theorem env70_ok : EnvOk Go.Proofs.Try.prog (envOf env70) := envOf_cons m90 Go.Proofs.Try.func90 (by kernel_rfl) (by kernel_rfl) env69_ok

-- impl.Box).dyadic
noncomputable def f109 (k : Nat) (b : Int × (List (Int)) × List (Int)) (n : Int) : Option (Int × Int) :=
  (f87 k n).bind fun r0 =>
  (f90 k r0.fst r0.snd.fst r0.snd.snd b.fst).bind fun r1 =>
  some ((r1.fst.fst, r1.fst.snd))
noncomputable def s109 : Spec := ⟨false, [(.pair (.int .i64) (.int .i64), true)], true, .pair (.int .i64) (.int .i64), fun k xs => match xs with | [.fptr (.pair (.int .i64) (.pair (.slice 3 (.int .i64)) (.slice 3 (.int .i64)))) b, .int .i64 n] => f109 k b n | _ => none, false⟩
noncomputable def env71 : List (FuncId × Spec) := (109, s109) :: env70
theorem v109 (k : Nat) (b : Int × (List (Int)) × List (Int)) (n : Int) : runFn ti (envOf env70) 18 [] (finT ti true Go.Proofs.Try.f109.results.toList [(.pair (.int .i64) (.int .i64), true)] (.pair (.int .i64) (.int .i64))) k (bodyOf Go.Proofs.Try.f109) (initS 0 [.fptr (.pair (.int .i64) (.pair (.slice 3 (.int .i64)) (.slice 3 (.int .i64)))) b, .int .i64 n]) = f109 k b n := by kernel_rfl
theorem m109 : Meets Go.Proofs.Try.prog 109 s109 := meets_of_run tiOk env70_ok mo Go.Proofs.Try.func109 (body := bodyOf Go.Proofs.Try.f109) (by kernel_rfl) (N := 18) (by kernel_rfl) (hs := []) (by
  intro k xs r h
  unfold s109 at h
  dsimp only at h
  split at h
  · exact ⟨Nat.le_of_ble_eq_true rfl, (v109 k _ _).trans h⟩
  · cases h)
theorem env71_ok : EnvOk Go.Proofs.Try.prog (envOf env71) := envOf_cons m109 Go.Proofs.Try.func109 (by kernel_rfl) (by kernel_rfl) env70_ok

-- impl.Box).side
noncomputable def f77 (k : Nat) (b : Int × (List (Int)) × List (Int)) (i : Int) : Option ((Int × Int) × Int × Int) :=
  bif boundA i (List.length b.snd.fst) then
    (f109 k b (List.getD b.snd.fst (Int.toNat i) 0)).bind fun r0 =>
    bif boundA i (List.length b.snd.snd) then
      (f109 k b (List.getD b.snd.snd (Int.toNat i) 0)).bind fun r1 =>
      some (((r0.fst, r0.snd), r1.fst, r1.snd))
    else
      none
  else
    none
noncomputable def s77 : Spec := ⟨false, [(.pair (.int .i64) (.int .i64), true), (.pair (.int .i64) (.int .i64), true)], true, .pair (.pair (.int .i64) (.int .i64)) (.pair (.int .i64) (.int .i64)), fun k xs => match xs with | [.fptr (.pair (.int .i64) (.pair (.slice 3 (.int .i64)) (.slice 3 (.int .i64)))) b, .int .i64 i] => f77 k b i | _ => none, false⟩
noncomputable def env72 : List (FuncId × Spec) := (77, s77) :: env71
theorem v77 (k : Nat) (b : Int × (List (Int)) × List (Int)) (i : Int) : runFn ti (envOf env71) 24 [] (finT ti true Go.Proofs.Try.f77.results.toList [(.pair (.int .i64) (.int .i64), true), (.pair (.int .i64) (.int .i64), true)] (.pair (.pair (.int .i64) (.int .i64)) (.pair (.int .i64) (.int .i64)))) k (bodyOf Go.Proofs.Try.f77) (initS 0 [.fptr (.pair (.int .i64) (.pair (.slice 3 (.int .i64)) (.slice 3 (.int .i64)))) b, .int .i64 i]) = f77 k b i := by kernel_rfl
theorem m77 : Meets Go.Proofs.Try.prog 77 s77 := meets_of_run tiOk env71_ok mo Go.Proofs.Try.func77 (body := bodyOf Go.Proofs.Try.f77) (by kernel_rfl) (N := 24) (by kernel_rfl) (hs := []) (by
  intro k xs r h
  unfold s77 at h
  dsimp only at h
  split at h
  · exact ⟨Nat.le_of_ble_eq_true rfl, (v77 k _ _).trans h⟩
  · cases h)
theorem env72_ok : EnvOk Go.Proofs.Try.prog (envOf env72) := envOf_cons m77 Go.Proofs.Try.func77 (by kernel_rfl) (by kernel_rfl) env71_ok

end Go.Proofs.YtkahcjnkmbbplaaE
