/- Functions, by the engine; printed. -/
import Derived.Test.YtbaeikcfchiiaaaNF5
set_option maxRecDepth 100000
set_option maxHeartbeats 4000000
set_option linter.unusedVariables false
namespace Go.Proofs.YtbaeikcfchiiaaaE
-- impl.long).sign$1
noncomputable def f244 (k : Nat) (d : Int) : Option (Bool) :=
  some (!decide (d = 0))
noncomputable def s244 : Spec := ⟨false, [(.bool, false)], true, .bool, fun k xs => match xs with | [.int .u32 d] => f244 k d | _ => none⟩
noncomputable def env61 : List (FuncId × Spec) := (244, s244) :: env60
theorem v244 (k : Nat) (d : Int) : runFn ti (envOf env60) 5 [] (finT ti true Go.Proofs.Try.f244.results.toList [(.bool, false)] (.bool)) k (bodyOf Go.Proofs.Try.f244) (initS 0 [.int .u32 d]) = f244 k d := by kernel_rfl
theorem m244 : Meets Go.Proofs.Try.prog 244 s244 := meets_of_run tiOk env60_ok mo Go.Proofs.Try.func244 (body := bodyOf Go.Proofs.Try.f244) (by kernel_rfl) (N := 5) (by kernel_rfl) (hs := []) (by
  intro k xs r h
  unfold s244 at h
  dsimp only at h
  split at h
  · exact ⟨Nat.le_of_ble_eq_true rfl, (v244 k _).trans h⟩
  · cases h)
theorem env61_ok : EnvOk Go.Proofs.Try.prog (envOf env61) := envOf_cons m244 Go.Proofs.Try.func244 (by kernel_rfl) (by kernel_rfl) env60_ok

-- slices.IndexFunc[[]uint32,uint32]
def h274_244 : Hints := [(1002, .lab [(0, .one (.frz 224 (Ty.int IntKind.u32))), (1, .one (.v)), (7, .one (.v)), (8, .one (.v))])]
noncomputable def F274_244_1002 (k : Nat) (rec1002 : List Int → Int → Int → Option (Int)) (s : List Int) (t7 : Int) (t8 : Int) : Option (Int) :=
  bif decide (t8 < t7) then
    bif boundA t8 (List.length s) then
      bif !decide (List.getD s (Int.toNat t8) 0 = 0) then
        some t8
      else
        rec1002 s t7 (IntKind.wrap IntKind.i64 (t8 + 1))
    else
      none
  else
    some (-1)
noncomputable def F274_244 (k : Nat) (rec1002 : List Int → Int → Int → Option (Int)) (s : List (Int)) : Option (Int) :=
  rec1002 s ((↑(List.length s) : Int)) (0)
noncomputable def l274_244 : Nat → (List Int → Int → Int → Option (Int))
  | 0 => fun _ _ _ => none
  | k + 1 => F274_244_1002 k (l274_244 k)
noncomputable def f274_244 (k : Nat) (s : List (Int)) : Option (Int) := F274_244 k (l274_244 k) s
noncomputable def s274 : Spec := ⟨false, [(.int .i64, false)], true, .int .i64, fun k xs => match xs with | [.slc 224 (.int .u32) s, .fn 244] => f274_244 k s | _ => none⟩
noncomputable def env62 : List (FuncId × Spec) := (274, s274) :: env61
noncomputable abbrev x274_244 := exec ti (envOf env61) 19 h274_244 (finT ti true Go.Proofs.Try.f274.results.toList [(.int .i64, false)] (.int .i64))
noncomputable def k274_244_1002 : List It := stackAt [.r, .l, .r, .b, .lb none] (bodyOf Go.Proofs.Try.f274) []
def t274_244_1002 (s : List Int) (t7 : Int) (t8 : Int) : St := [(0, Cell.val (AVal.slc 224 (Ty.int IntKind.u32) s)), (2, Cell.val (AVal.fn 244)), (14, Cell.val (AVal.int IntKind.i64 t7)), (16, Cell.val (AVal.int IntKind.i64 t8))]
theorem e274_244_1002 (k : Nat) (s : List Int) (t7 : Int) (t8 : Int) : x274_244 (k + 1) k274_244_1002 (t274_244_1002 s t7 t8) = F274_244_1002 k (fun (s : List Int) (t7 : Int) (t8 : Int) => x274_244 k k274_244_1002 (t274_244_1002 s t7 t8)) s t7 t8 := by kernel_rfl
theorem q274_244 : ∀ k : Nat, (fun (s : List Int) (t7 : Int) (t8 : Int) => x274_244 k k274_244_1002 (t274_244_1002 s t7 t8)) = l274_244 k
  | 0 => rfl
  | k + 1 => by
    have h := q274_244 k
    show _ = F274_244_1002 k (l274_244 k)
    rw [← h]
    exact (funext fun s => funext fun t7 => funext fun t8 => e274_244_1002 k s t7 t8)
theorem w274_244 (k : Nat) (s : List (Int)) : runFn ti (envOf env61) 19 h274_244 (finT ti true Go.Proofs.Try.f274.results.toList [(.int .i64, false)] (.int .i64)) k (bodyOf Go.Proofs.Try.f274) (initS 0 [.slc 224 (.int .u32) s, .fn 244]) = F274_244 k (fun (s : List Int) (t7 : Int) (t8 : Int) => x274_244 k k274_244_1002 (t274_244_1002 s t7 t8)) s := by kernel_rfl
theorem v274_244 (k : Nat) (s : List (Int)) : runFn ti (envOf env61) 19 h274_244 (finT ti true Go.Proofs.Try.f274.results.toList [(.int .i64, false)] (.int .i64)) k (bodyOf Go.Proofs.Try.f274) (initS 0 [.slc 224 (.int .u32) s, .fn 244]) = f274_244 k s := by
  rw [w274_244]
  have h := q274_244 k
  unfold f274_244
  rw [← h]
theorem m274 : Meets Go.Proofs.Try.prog 274 s274 := meets_of_run tiOk env61_ok mo Go.Proofs.Try.func274 (body := bodyOf Go.Proofs.Try.f274) (by kernel_rfl) (N := 19) (by kernel_rfl) (hs := h274_244) (by
  intro k xs r h
  unfold s274 at h
  dsimp only at h
  split at h
  · exact ⟨Nat.le_of_ble_eq_true rfl, (v274_244 k _).trans h⟩
  · cases h)
theorem env62_ok : EnvOk Go.Proofs.Try.prog (envOf env62) := envOf_cons m274 Go.Proofs.Try.func274 (by kernel_rfl) (by kernel_rfl) env61_ok

-- slices.ContainsFunc[[]uint32,uint32]
noncomputable def f243_244 (k : Nat) (s : List (Int)) : Option (Bool) :=
  (f274_244 k s).bind fun r0 =>
  some (decide (0 ≤ r0))
noncomputable def s243 : Spec := ⟨false, [(.bool, false)], true, .bool, fun k xs => match xs with | [.slc 224 (.int .u32) s, .fn 244] => f243_244 k s | _ => none⟩
noncomputable def env63 : List (FuncId × Spec) := (243, s243) :: env62
theorem v243_244 (k : Nat) (s : List (Int)) : runFn ti (envOf env62) 9 [] (finT ti true Go.Proofs.Try.f243.results.toList [(.bool, false)] (.bool)) k (bodyOf Go.Proofs.Try.f243) (initS 0 [.slc 224 (.int .u32) s, .fn 244]) = f243_244 k s := by kernel_rfl
theorem m243 : Meets Go.Proofs.Try.prog 243 s243 := meets_of_run tiOk env62_ok mo Go.Proofs.Try.func243 (body := bodyOf Go.Proofs.Try.f243) (by kernel_rfl) (N := 9) (by kernel_rfl) (hs := []) (by
  intro k xs r h
  unfold s243 at h
  dsimp only at h
  split at h
  · exact ⟨Nat.le_of_ble_eq_true rfl, (v243_244 k _).trans h⟩
  · cases h)
theorem env63_ok : EnvOk Go.Proofs.Try.prog (envOf env63) := envOf_cons m243 Go.Proofs.Try.func243 (by kernel_rfl) (by kernel_rfl) env62_ok

-- impl.long).sign
noncomputable def f195 (k : Nat) (a_negative : Bool) (a_digits : List (Int)) : Option (Int) :=
  (f243_244 k a_digits).bind fun r0 =>
  bif !r0 then
    some (0)
  else
    bif a_negative then
      some (-1)
    else
      some (1)
noncomputable def s195 : Spec := ⟨false, [(.int .i64, false)], true, .int .i64, fun k xs => match xs with | [.agg [.bool a_negative, .slc 224 (.int .u32) a_digits]] => f195 k a_negative a_digits | _ => none⟩
noncomputable def env64 : List (FuncId × Spec) := (195, s195) :: env63
theorem v195 (k : Nat) (a_negative : Bool) (a_digits : List (Int)) : runFn ti (envOf env63) 9 [] (finT ti true Go.Proofs.Try.f195.results.toList [(.int .i64, false)] (.int .i64)) k (bodyOf Go.Proofs.Try.f195) (initS 0 [.agg [.bool a_negative, .slc 224 (.int .u32) a_digits]]) = f195 k a_negative a_digits := by kernel_rfl
theorem m195 : Meets Go.Proofs.Try.prog 195 s195 := meets_of_run tiOk env63_ok mo Go.Proofs.Try.func195 (body := bodyOf Go.Proofs.Try.f195) (by kernel_rfl) (N := 9) (by kernel_rfl) (hs := []) (by
  intro k xs r h
  unfold s195 at h
  dsimp only at h
  split at h
  · exact ⟨Nat.le_of_ble_eq_true rfl, (v195 k _ _).trans h⟩
  · cases h)
theorem env64_ok : EnvOk Go.Proofs.Try.prog (envOf env64) := envOf_cons m195 Go.Proofs.Try.func195 (by kernel_rfl) (by kernel_rfl) env63_ok

-- impl.signAt
def h131 : Hints := [(1003, .lab [(0, .one (.frz 3 (Ty.int IntKind.i64))), (3, .box 27 [.v, .v]), (5, .box 193 [.v, .own 224 (Ty.int IntKind.u32)]), (6, .one (.v))])]
noncomputable def F131_1003 (k : Nat) (rec1003 : List Int → Int → Int → Bool → List Int → Int → Option (Int)) (p : List Int) (xs_0 : Int) (xs_1 : Int) (sums_0 : Bool) (sums : List Int) (i : Int) : Option (Int) :=
  bif decide (0 ≤ i) then
    (f192 k sums_0 sums xs_0).bind fun r0 =>
    bif boundA i (List.length p) then
      (f194 k (List.getD p (Int.toNat i) 0) (IntKind.wrap IntKind.i64 (xs_1 * IntKind.wrap IntKind.i64 (IntKind.wrap IntKind.i64 ((↑(List.length p) : Int) - 1) - i)))).bind fun r1 =>
      (f193 k r0.fst r0.snd r1.fst r1.snd).bind fun r2 =>
      rec1003 p xs_0 xs_1 (r2.fst) (r2.snd) (IntKind.wrap IntKind.i64 (i - 1))
    else
      none
  else
    (f195 k sums_0 sums).bind fun r3 =>
    some r3
noncomputable def F131 (k : Nat) (rec1003 : List Int → Int → Int → Bool → List Int → Int → Option (Int)) (p : List (Int)) (x_N : Int) (x_K : Int) : Option (Int) :=
  rec1003 p x_N x_K false ([]) (IntKind.wrap IntKind.i64 ((↑(List.length p) : Int) - 1))
noncomputable def l131 : Nat → (List Int → Int → Int → Bool → List Int → Int → Option (Int))
  | 0 => fun _ _ _ _ _ _ => none
  | k + 1 => F131_1003 k (l131 k)
noncomputable def f131 (k : Nat) (p : List (Int)) (x_N : Int) (x_K : Int) : Option (Int) := F131 k (l131 k) p x_N x_K
noncomputable def s131 : Spec := ⟨false, [(.int .i64, false)], true, .int .i64, fun k xs => match xs with | [.slc 3 (.int .i64) p, .agg [.int .i64 x_N, .int .i64 x_K]] => f131 k p x_N x_K | _ => none⟩
noncomputable def env65 : List (FuncId × Spec) := (131, s131) :: env64
noncomputable abbrev x131 := exec ti (envOf env64) 35 h131 (finT ti true Go.Proofs.Try.f131.results.toList [(.int .i64, false)] (.int .i64))
noncomputable def k131_1003 : List It := stackAt [.r, .r, .l, .r, .b, .lb none] (bodyOf Go.Proofs.Try.f131) []
def t131_1003 (p : List Int) (xs_0 : Int) (xs_1 : Int) (sums_0 : Bool) (sums : List Int) (i : Int) : St := [(0, Cell.val (AVal.slc 3 (Ty.int IntKind.i64) p)), (6, Cell.val (AVal.ptr 3 0)), (3, Cell.mem true 27 [AVal.int IntKind.i64 xs_0, AVal.int IntKind.i64 xs_1]), (10, Cell.val (AVal.ptr 5 0)), (5, Cell.mem true 193 [AVal.bool sums_0, AVal.ref 7 none]), (7, Cell.row true 224 (Ty.int IntKind.u32) sums), (12, Cell.val (AVal.int IntKind.i64 i))]
theorem e131_1003 (k : Nat) (p : List Int) (xs_0 : Int) (xs_1 : Int) (sums_0 : Bool) (sums : List Int) (i : Int) : x131 (k + 1) k131_1003 (t131_1003 p xs_0 xs_1 sums_0 sums i) = F131_1003 k (fun (p : List Int) (xs_0 : Int) (xs_1 : Int) (sums_0 : Bool) (sums : List Int) (i : Int) => x131 k k131_1003 (t131_1003 p xs_0 xs_1 sums_0 sums i)) p xs_0 xs_1 sums_0 sums i := by kernel_rfl
theorem q131 : ∀ k : Nat, (fun (p : List Int) (xs_0 : Int) (xs_1 : Int) (sums_0 : Bool) (sums : List Int) (i : Int) => x131 k k131_1003 (t131_1003 p xs_0 xs_1 sums_0 sums i)) = l131 k
  | 0 => rfl
  | k + 1 => by
    have h := q131 k
    show _ = F131_1003 k (l131 k)
    rw [← h]
    exact (funext fun p => funext fun xs_0 => funext fun xs_1 => funext fun sums_0 => funext fun sums => funext fun i => e131_1003 k p xs_0 xs_1 sums_0 sums i)
theorem w131 (k : Nat) (p : List (Int)) (x_N : Int) (x_K : Int) : runFn ti (envOf env64) 35 h131 (finT ti true Go.Proofs.Try.f131.results.toList [(.int .i64, false)] (.int .i64)) k (bodyOf Go.Proofs.Try.f131) (initS 0 [.slc 3 (.int .i64) p, .agg [.int .i64 x_N, .int .i64 x_K]]) = F131 k (fun (p : List Int) (xs_0 : Int) (xs_1 : Int) (sums_0 : Bool) (sums : List Int) (i : Int) => x131 k k131_1003 (t131_1003 p xs_0 xs_1 sums_0 sums i)) p x_N x_K := by kernel_rfl
theorem v131 (k : Nat) (p : List (Int)) (x_N : Int) (x_K : Int) : runFn ti (envOf env64) 35 h131 (finT ti true Go.Proofs.Try.f131.results.toList [(.int .i64, false)] (.int .i64)) k (bodyOf Go.Proofs.Try.f131) (initS 0 [.slc 3 (.int .i64) p, .agg [.int .i64 x_N, .int .i64 x_K]]) = f131 k p x_N x_K := by
  rw [w131]
  have h := q131 k
  unfold f131
  rw [← h]
theorem m131 : Meets Go.Proofs.Try.prog 131 s131 := meets_of_run tiOk env64_ok mo Go.Proofs.Try.func131 (body := bodyOf Go.Proofs.Try.f131) (by kernel_rfl) (N := 35) (by kernel_rfl) (hs := h131) (by
  intro k xs r h
  unfold s131 at h
  dsimp only at h
  split at h
  · exact ⟨Nat.le_of_ble_eq_true rfl, (v131 k _ _ _).trans h⟩
  · cases h)
theorem env65_ok : EnvOk Go.Proofs.Try.prog (envOf env65) := envOf_cons m131 Go.Proofs.Try.func131 (by kernel_rfl) (by kernel_rfl) env64_ok

-- impl.wide).fit
def h174 : Hints := [(1003, .lab [(1, .one (.v)), (2, .box 180 [.v, .v, .v]), (4, .box 27 [.v, .v])])]
noncomputable def F174_1003 (k : Nat) (rec1003 : Int → Bool → Int → Int → Int → Int → Option ((Int × Int) × Bool)) (k_ : Int) (ws_0 : Bool) (ws_1 : Int) (ws_2 : Int) (t4s_0 : Int) (t4s_1 : Int) : Option ((Int × Int) × Bool) :=
  bif decide (0 < k_) then
    bif decide (Int.tmod ws_2 2 = 0) then
      rec1003 (IntKind.wrap IntKind.i64 (k_ - 1)) ws_0 (Int.fdiv ws_1 (2 ^ min (Int.toNat (IntKind.wrap IntKind.i64 (0 - -1))) (IntKind.bits IntKind.u64))) (IntKind.wrap IntKind.u64 (↑(BitVec.toNat (BitVec.ofInt (IntKind.bits IntKind.u64) (Int.fdiv ws_2 (2 ^ min (Int.toNat (IntKind.wrap IntKind.i64 (0 - -1))) (IntKind.bits IntKind.u64))) ||| BitVec.ofInt (IntKind.bits IntKind.u64) (IntKind.wrap IntKind.u64 (ws_1 * 2 ^ min (Int.toNat (IntKind.wrap IntKind.i64 (64 - IntKind.wrap IntKind.i64 (0 - -1)))) (IntKind.bits IntKind.u64))))) : Int)) t4s_0 t4s_1
    else
      bif decide (24 < k_) then
        some (((0, 0), false))
      else
        bif decide (0 < ws_1) then
          some (((0, 0), false))
        else
          bif decide (1099511627776 < ws_2) then
            some (((0, 0), false))
          else
            bif ws_0 then
              some (((IntKind.wrap IntKind.i64 (0 - IntKind.wrap IntKind.i64 ws_2), k_), true))
            else
              some (((IntKind.wrap IntKind.i64 ws_2, k_), true))
  else
    bif decide (24 < k_) then
      some (((0, 0), false))
    else
      bif decide (0 < ws_1) then
        some (((0, 0), false))
      else
        bif decide (1099511627776 < ws_2) then
          some (((0, 0), false))
        else
          bif ws_0 then
            some (((IntKind.wrap IntKind.i64 (0 - IntKind.wrap IntKind.i64 ws_2), k_), true))
          else
            some (((IntKind.wrap IntKind.i64 ws_2, k_), true))
noncomputable def F174 (k : Nat) (rec1003 : Int → Bool → Int → Int → Int → Int → Option ((Int × Int) × Bool)) (w_negative : Bool) (w_high : Int) (w_low : Int) (k_ : Int) : Option ((Int × Int) × Bool) :=
  (f235 k w_negative w_high w_low).bind fun r0 =>
  bif r0 then
    some (((0, 0), true))
  else
    rec1003 k_ w_negative w_high w_low (0) (0)
noncomputable def l174 : Nat → (Int → Bool → Int → Int → Int → Int → Option ((Int × Int) × Bool))
  | 0 => fun _ _ _ _ _ _ => none
  | k + 1 => F174_1003 k (l174 k)
noncomputable def f174 (k : Nat) (w_negative : Bool) (w_high : Int) (w_low : Int) (k_ : Int) : Option ((Int × Int) × Bool) := F174 k (l174 k) w_negative w_high w_low k_
noncomputable def s174 : Spec := ⟨false, [(.pair (.int .i64) (.int .i64), true), (.bool, false)], true, .pair (.pair (.int .i64) (.int .i64)) (.bool), fun k xs => match xs with | [.agg [.bool w_negative, .int .u64 w_high, .int .u64 w_low], .int .i64 k_] => f174 k w_negative w_high w_low k_ | _ => none⟩
noncomputable def env66 : List (FuncId × Spec) := (174, s174) :: env65
noncomputable abbrev x174 := exec ti (envOf env65) 45 h174 (finT ti true Go.Proofs.Try.f174.results.toList [(.pair (.int .i64) (.int .i64), true), (.bool, false)] (.pair (.pair (.int .i64) (.int .i64)) (.bool)))
noncomputable def k174_1003 : List It := stackAt [.r, .r, .l, .b, .lb none] (bodyOf Go.Proofs.Try.f174) []
def t174_1003 (k_ : Int) (ws_0 : Bool) (ws_1 : Int) (ws_2 : Int) (t4s_0 : Int) (t4s_1 : Int) : St := [(2, Cell.val (AVal.int IntKind.i64 k_)), (4, Cell.val (AVal.ptr 3 0)), (3, Cell.mem true 180 [AVal.bool ws_0, AVal.int IntKind.u64 ws_1, AVal.int IntKind.u64 ws_2]), (8, Cell.val (AVal.ptr 5 0)), (5, Cell.mem true 27 [AVal.int IntKind.i64 t4s_0, AVal.int IntKind.i64 t4s_1])]
theorem e174_1003 (k : Nat) (k_ : Int) (ws_0 : Bool) (ws_1 : Int) (ws_2 : Int) (t4s_0 : Int) (t4s_1 : Int) : x174 (k + 1) k174_1003 (t174_1003 k_ ws_0 ws_1 ws_2 t4s_0 t4s_1) = F174_1003 k (fun (k_ : Int) (ws_0 : Bool) (ws_1 : Int) (ws_2 : Int) (t4s_0 : Int) (t4s_1 : Int) => x174 k k174_1003 (t174_1003 k_ ws_0 ws_1 ws_2 t4s_0 t4s_1)) k_ ws_0 ws_1 ws_2 t4s_0 t4s_1 := by kernel_rfl
theorem q174 : ∀ k : Nat, (fun (k_ : Int) (ws_0 : Bool) (ws_1 : Int) (ws_2 : Int) (t4s_0 : Int) (t4s_1 : Int) => x174 k k174_1003 (t174_1003 k_ ws_0 ws_1 ws_2 t4s_0 t4s_1)) = l174 k
  | 0 => rfl
  | k + 1 => by
    have h := q174 k
    show _ = F174_1003 k (l174 k)
    rw [← h]
    exact (funext fun k_ => funext fun ws_0 => funext fun ws_1 => funext fun ws_2 => funext fun t4s_0 => funext fun t4s_1 => e174_1003 k k_ ws_0 ws_1 ws_2 t4s_0 t4s_1)
theorem w174 (k : Nat) (w_negative : Bool) (w_high : Int) (w_low : Int) (k_ : Int) : runFn ti (envOf env65) 45 h174 (finT ti true Go.Proofs.Try.f174.results.toList [(.pair (.int .i64) (.int .i64), true), (.bool, false)] (.pair (.pair (.int .i64) (.int .i64)) (.bool))) k (bodyOf Go.Proofs.Try.f174) (initS 0 [.agg [.bool w_negative, .int .u64 w_high, .int .u64 w_low], .int .i64 k_]) = F174 k (fun (k_ : Int) (ws_0 : Bool) (ws_1 : Int) (ws_2 : Int) (t4s_0 : Int) (t4s_1 : Int) => x174 k k174_1003 (t174_1003 k_ ws_0 ws_1 ws_2 t4s_0 t4s_1)) w_negative w_high w_low k_ := by kernel_rfl
theorem v174 (k : Nat) (w_negative : Bool) (w_high : Int) (w_low : Int) (k_ : Int) : runFn ti (envOf env65) 45 h174 (finT ti true Go.Proofs.Try.f174.results.toList [(.pair (.int .i64) (.int .i64), true), (.bool, false)] (.pair (.pair (.int .i64) (.int .i64)) (.bool))) k (bodyOf Go.Proofs.Try.f174) (initS 0 [.agg [.bool w_negative, .int .u64 w_high, .int .u64 w_low], .int .i64 k_]) = f174 k w_negative w_high w_low k_ := by
  rw [w174]
  have h := q174 k
  unfold f174
  rw [← h]
theorem m174 : Meets Go.Proofs.Try.prog 174 s174 := meets_of_run tiOk env65_ok mo Go.Proofs.Try.func174 (body := bodyOf Go.Proofs.Try.f174) (by kernel_rfl) (N := 45) (by kernel_rfl) (hs := h174) (by
  intro k xs r h
  unfold s174 at h
  dsimp only at h
  split at h
  · exact ⟨Nat.le_of_ble_eq_true rfl, (v174 k _ _ _ _).trans h⟩
  · cases h)
theorem env66_ok : EnvOk Go.Proofs.Try.prog (envOf env66) := envOf_cons m174 Go.Proofs.Try.func174 (by kernel_rfl) (by kernel_rfl) env65_ok

-- bits.Add64
noncomputable def f245 (k : Nat) (x : Int) (y : Int) (carry : Int) : Option (Int × Int) :=
  add64 x y carry
noncomputable def s245 : Spec := two64 f245
noncomputable def env67 : List (FuncId × Spec) := (245, s245) :: env66
theorem m245 : Now Go.Proofs.Try.prog 245 s245 := now_two64 (e := addE) Go.Proofs.Try.func245 (by kernel_rfl) (by kernel_rfl) (by kernel_rfl) (by kernel_rfl) (fun _ _ _ _ _ _ h => addE_run h)
theorem env67_ok : EnvOk Go.Proofs.Try.prog (envOf env67) := envOf_any (.inr m245) env66_ok

-- bits.Sub64
noncomputable def f247 (k : Nat) (x : Int) (y : Int) (carry : Int) : Option (Int × Int) :=
  sub64 x y carry
noncomputable def s247 : Spec := two64 f247
noncomputable def env68 : List (FuncId × Spec) := (247, s247) :: env67
theorem m247 : Now Go.Proofs.Try.prog 247 s247 := now_two64 (e := subE) Go.Proofs.Try.func247 (by kernel_rfl) (by kernel_rfl) (by kernel_rfl) (by kernel_rfl) (fun _ _ _ _ _ _ h => subE_run h)
theorem env68_ok : EnvOk Go.Proofs.Try.prog (envOf env68) := envOf_any (.inr m247) env67_ok

-- impl.wide).add
def h197 : Hints := [(7, .lab [(2, .box 180 [.v, .v, .v]), (3, .box 180 [.v, .v, .v]), (4, .box 180 [.v, .v, .v])])]
noncomputable def F197_7 (k : Nat) (rec7 : Bool → Int → Int → Bool → Int → Int → Bool → Int → Int → Option (Bool × Int × Int)) (ss_0 : Bool) (ss_1 : Int) (ss_2 : Int) (ts_0 : Bool) (ts_1 : Int) (ts_2 : Int) (t4s_0 : Bool) (t4s_1 : Int) (t4s_2 : Int) : Option (Bool × Int × Int) :=
  (f247 k ss_2 ts_2 0).bind fun r0 =>
  (f247 k ss_1 ts_1 r0.snd).bind fun r1 =>
  some ((ss_0, r1.fst, r0.fst))
noncomputable def F197 (k : Nat) (rec7 : Bool → Int → Int → Bool → Int → Int → Bool → Int → Int → Option (Bool × Int × Int)) (L_negative : Bool) (L_high : Int) (L_low : Int) (i_negative : Bool) (i_high : Int) (i_low : Int) : Option (Bool × Int × Int) :=
  bif L_negative == i_negative then
    (f245 k L_low i_low 0).bind fun r0 =>
    (f245 k L_high i_high r0.snd).bind fun r1 =>
    some ((L_negative, r1.fst, r0.fst))
  else
    (f246 k L_negative L_high L_low i_negative i_high i_low).bind fun r2 =>
    bif decide (r2 < 0) then
      rec7 i_negative i_high i_low L_negative L_high L_low false (0) (0)
    else
      rec7 L_negative L_high L_low i_negative i_high i_low false (0) (0)
noncomputable def l197 : Nat → (Bool → Int → Int → Bool → Int → Int → Bool → Int → Int → Option (Bool × Int × Int))
  | 0 => fun _ _ _ _ _ _ _ _ _ => none
  | k + 1 => F197_7 k (l197 k)
noncomputable def f197 (k : Nat) (L_negative : Bool) (L_high : Int) (L_low : Int) (i_negative : Bool) (i_high : Int) (i_low : Int) : Option (Bool × Int × Int) := F197 k (l197 k) L_negative L_high L_low i_negative i_high i_low
noncomputable def s197 : Spec := ⟨false, [(.pair (.bool) (.pair (.int .u64) (.int .u64)), true)], true, .pair (.bool) (.pair (.int .u64) (.int .u64)), fun k xs => match xs with | [.agg [.bool L_negative, .int .u64 L_high, .int .u64 L_low], .agg [.bool i_negative, .int .u64 i_high, .int .u64 i_low]] => f197 k L_negative L_high L_low i_negative i_high i_low | _ => none⟩
noncomputable def env69 : List (FuncId × Spec) := (197, s197) :: env68
noncomputable abbrev x197 := exec ti (envOf env68) 68 h197 (finT ti true Go.Proofs.Try.f197.results.toList [(.pair (.bool) (.pair (.int .u64) (.int .u64)), true)] (.pair (.bool) (.pair (.int .u64) (.int .u64))))
noncomputable def k197_7 : List It := stackAt [.r, .r, .r, .l] (bodyOf Go.Proofs.Try.f197) []
def t197_7 (ss_0 : Bool) (ss_1 : Int) (ss_2 : Int) (ts_0 : Bool) (ts_1 : Int) (ts_2 : Int) (t4s_0 : Bool) (t4s_1 : Int) (t4s_2 : Int) : St := [(4, Cell.val (AVal.ptr 3 0)), (3, Cell.mem true 180 [AVal.bool ss_0, AVal.int IntKind.u64 ss_1, AVal.int IntKind.u64 ss_2]), (6, Cell.val (AVal.ptr 5 0)), (5, Cell.mem true 180 [AVal.bool ts_0, AVal.int IntKind.u64 ts_1, AVal.int IntKind.u64 ts_2]), (8, Cell.val (AVal.ptr 7 0)), (7, Cell.mem true 180 [AVal.bool t4s_0, AVal.int IntKind.u64 t4s_1, AVal.int IntKind.u64 t4s_2])]
theorem e197_7 (k : Nat) (ss_0 : Bool) (ss_1 : Int) (ss_2 : Int) (ts_0 : Bool) (ts_1 : Int) (ts_2 : Int) (t4s_0 : Bool) (t4s_1 : Int) (t4s_2 : Int) : x197 (k + 1) k197_7 (t197_7 ss_0 ss_1 ss_2 ts_0 ts_1 ts_2 t4s_0 t4s_1 t4s_2) = F197_7 k (fun (ss_0 : Bool) (ss_1 : Int) (ss_2 : Int) (ts_0 : Bool) (ts_1 : Int) (ts_2 : Int) (t4s_0 : Bool) (t4s_1 : Int) (t4s_2 : Int) => x197 k k197_7 (t197_7 ss_0 ss_1 ss_2 ts_0 ts_1 ts_2 t4s_0 t4s_1 t4s_2)) ss_0 ss_1 ss_2 ts_0 ts_1 ts_2 t4s_0 t4s_1 t4s_2 := by kernel_rfl
theorem q197 : ∀ k : Nat, (fun (ss_0 : Bool) (ss_1 : Int) (ss_2 : Int) (ts_0 : Bool) (ts_1 : Int) (ts_2 : Int) (t4s_0 : Bool) (t4s_1 : Int) (t4s_2 : Int) => x197 k k197_7 (t197_7 ss_0 ss_1 ss_2 ts_0 ts_1 ts_2 t4s_0 t4s_1 t4s_2)) = l197 k
  | 0 => rfl
  | k + 1 => by
    have h := q197 k
    show _ = F197_7 k (l197 k)
    rw [← h]
    exact (funext fun ss_0 => funext fun ss_1 => funext fun ss_2 => funext fun ts_0 => funext fun ts_1 => funext fun ts_2 => funext fun t4s_0 => funext fun t4s_1 => funext fun t4s_2 => e197_7 k ss_0 ss_1 ss_2 ts_0 ts_1 ts_2 t4s_0 t4s_1 t4s_2)
theorem w197 (k : Nat) (L_negative : Bool) (L_high : Int) (L_low : Int) (i_negative : Bool) (i_high : Int) (i_low : Int) : runFn ti (envOf env68) 68 h197 (finT ti true Go.Proofs.Try.f197.results.toList [(.pair (.bool) (.pair (.int .u64) (.int .u64)), true)] (.pair (.bool) (.pair (.int .u64) (.int .u64)))) k (bodyOf Go.Proofs.Try.f197) (initS 0 [.agg [.bool L_negative, .int .u64 L_high, .int .u64 L_low], .agg [.bool i_negative, .int .u64 i_high, .int .u64 i_low]]) = F197 k (fun (ss_0 : Bool) (ss_1 : Int) (ss_2 : Int) (ts_0 : Bool) (ts_1 : Int) (ts_2 : Int) (t4s_0 : Bool) (t4s_1 : Int) (t4s_2 : Int) => x197 k k197_7 (t197_7 ss_0 ss_1 ss_2 ts_0 ts_1 ts_2 t4s_0 t4s_1 t4s_2)) L_negative L_high L_low i_negative i_high i_low := by kernel_rfl
theorem v197 (k : Nat) (L_negative : Bool) (L_high : Int) (L_low : Int) (i_negative : Bool) (i_high : Int) (i_low : Int) : runFn ti (envOf env68) 68 h197 (finT ti true Go.Proofs.Try.f197.results.toList [(.pair (.bool) (.pair (.int .u64) (.int .u64)), true)] (.pair (.bool) (.pair (.int .u64) (.int .u64)))) k (bodyOf Go.Proofs.Try.f197) (initS 0 [.agg [.bool L_negative, .int .u64 L_high, .int .u64 L_low], .agg [.bool i_negative, .int .u64 i_high, .int .u64 i_low]]) = f197 k L_negative L_high L_low i_negative i_high i_low := by
  rw [w197]
  have h := q197 k
  unfold f197
  rw [← h]
theorem m197 : Meets Go.Proofs.Try.prog 197 s197 := meets_of_run tiOk env68_ok mo Go.Proofs.Try.func197 (body := bodyOf Go.Proofs.Try.f197) (by kernel_rfl) (N := 68) (by kernel_rfl) (hs := h197) (by
  intro k xs r h
  unfold s197 at h
  dsimp only at h
  split at h
  · exact ⟨Nat.le_of_ble_eq_true rfl, (v197 k _ _ _ _ _ _).trans h⟩
  · cases h)
theorem env69_ok : EnvOk Go.Proofs.Try.prog (envOf env69) := envOf_cons m197 Go.Proofs.Try.func197 (by kernel_rfl) (by kernel_rfl) env68_ok

-- impl.middleOf
noncomputable def f132 (k : Nat) (a_N : Int) (a_K : Int) (b_N : Int) (b_K : Int) : Option ((Int × Int) × Bool) :=
  (f173 k a_N).bind fun r0 =>
  (f196 k r0.fst r0.snd.fst r0.snd.snd (IntKind.wrap IntKind.i64 ((bif decide (a_K < b_K) then b_K else a_K) - a_K))).bind fun r1 =>
  (f173 k b_N).bind fun r2 =>
  (f196 k r2.fst r2.snd.fst r2.snd.snd (IntKind.wrap IntKind.i64 ((bif decide (a_K < b_K) then b_K else a_K) - b_K))).bind fun r3 =>
  (f197 k r1.fst r1.snd.fst r1.snd.snd r3.fst r3.snd.fst r3.snd.snd).bind fun r4 =>
  (f174 k r4.fst r4.snd.fst r4.snd.snd (IntKind.wrap IntKind.i64 ((bif decide (a_K < b_K) then b_K else a_K) + 1))).bind fun r5 =>
  some (((r5.fst.fst, r5.fst.snd), r5.snd))
noncomputable def s132 : Spec := ⟨false, [(.pair (.int .i64) (.int .i64), true), (.bool, false)], true, .pair (.pair (.int .i64) (.int .i64)) (.bool), fun k xs => match xs with | [.agg [.int .i64 a_N, .int .i64 a_K], .agg [.int .i64 b_N, .int .i64 b_K]] => f132 k a_N a_K b_N b_K | _ => none⟩
noncomputable def env70 : List (FuncId × Spec) := (132, s132) :: env69
theorem v132 (k : Nat) (a_N : Int) (a_K : Int) (b_N : Int) (b_K : Int) : runFn ti (envOf env69) 34 [] (finT ti true Go.Proofs.Try.f132.results.toList [(.pair (.int .i64) (.int .i64), true), (.bool, false)] (.pair (.pair (.int .i64) (.int .i64)) (.bool))) k (bodyOf Go.Proofs.Try.f132) (initS 0 [.agg [.int .i64 a_N, .int .i64 a_K], .agg [.int .i64 b_N, .int .i64 b_K]]) = f132 k a_N a_K b_N b_K := by kernel_rfl
theorem m132 : Meets Go.Proofs.Try.prog 132 s132 := meets_of_run tiOk env69_ok mo Go.Proofs.Try.func132 (body := bodyOf Go.Proofs.Try.f132) (by kernel_rfl) (N := 34) (by kernel_rfl) (hs := []) (by
  intro k xs r h
  unfold s132 at h
  dsimp only at h
  split at h
  · exact ⟨Nat.le_of_ble_eq_true rfl, (v132 k _ _ _ _).trans h⟩
  · cases h)
theorem env70_ok : EnvOk Go.Proofs.Try.prog (envOf env70) := envOf_cons m132 Go.Proofs.Try.func132 (by kernel_rfl) (by kernel_rfl) env69_ok

-- impl.narrowAt
def h76 : Hints := [(1003, .lab [(0, .one (.frz 3 (Ty.int IntKind.i64))), (3, .box 29 [.v, .v, .v, .v]), (4, .box 29 [.v, .v, .v, .v])])]
noncomputable def F76_1003 (k : Nat) (rec1003 : List Int → Int → Int → Int → Int → Int → Int → Int → Int → Option (((Int × Int) × Int × Int) × Bool)) (p : List Int) (xs_0 : Int) (xs_1 : Int) (xs_2 : Int) (xs_3 : Int) (t4s_0 : Int) (t4s_1 : Int) (t4s_2 : Int) (t4s_3 : Int) : Option (((Int × Int) × Int × Int) × Bool) :=
  (f132 k xs_0 xs_1 xs_2 xs_3).bind fun r0 =>
  (f131 k p r0.fst.fst r0.fst.snd).bind fun r1 =>
  bif decide (5 < r0.fst.snd) then
    some ((((xs_0, xs_1), xs_2, xs_3), true))
  else
    bif decide (r1 = 0) then
      some ((((xs_0, xs_1), xs_2, xs_3), true))
    else
      (f131 k p xs_0 xs_1).bind fun r2 =>
      bif decide (r1 = r2) then
        rec1003 p (r0.fst.fst) (r0.fst.snd) xs_2 xs_3 t4s_0 t4s_1 t4s_2 t4s_3
      else
        rec1003 p xs_0 xs_1 (r0.fst.fst) (r0.fst.snd) t4s_0 t4s_1 t4s_2 t4s_3
noncomputable def F76 (k : Nat) (rec1003 : List Int → Int → Int → Int → Int → Int → Int → Int → Int → Option (((Int × Int) × Int × Int) × Bool)) (p : List (Int)) (x_Low_N : Int) (x_Low_K : Int) (x_High_N : Int) (x_High_K : Int) : Option (((Int × Int) × Int × Int) × Bool) :=
  (f131 k p x_Low_N x_Low_K).bind fun r0 =>
  (f131 k p x_High_N x_High_K).bind fun r1 =>
  bif decide (0 ≤ IntKind.wrap IntKind.i64 (r0 * r1)) then
    some ((((0, 0), 0, 0), false))
  else
    rec1003 p x_Low_N x_Low_K x_High_N x_High_K (0) (0) (0) (0)
noncomputable def l76 : Nat → (List Int → Int → Int → Int → Int → Int → Int → Int → Int → Option (((Int × Int) × Int × Int) × Bool))
  | 0 => fun _ _ _ _ _ _ _ _ _ => none
  | k + 1 => F76_1003 k (l76 k)
noncomputable def f76 (k : Nat) (p : List (Int)) (x_Low_N : Int) (x_Low_K : Int) (x_High_N : Int) (x_High_K : Int) : Option (((Int × Int) × Int × Int) × Bool) := F76 k (l76 k) p x_Low_N x_Low_K x_High_N x_High_K
noncomputable def s76 : Spec := ⟨false, [(.pair (.pair (.int .i64) (.int .i64)) (.pair (.int .i64) (.int .i64)), true), (.bool, false)], true, .pair (.pair (.pair (.int .i64) (.int .i64)) (.pair (.int .i64) (.int .i64))) (.bool), fun k xs => match xs with | [.slc 3 (.int .i64) p, .agg [.int .i64 x_Low_N, .int .i64 x_Low_K, .int .i64 x_High_N, .int .i64 x_High_K]] => f76 k p x_Low_N x_Low_K x_High_N x_High_K | _ => none⟩
noncomputable def env71 : List (FuncId × Spec) := (76, s76) :: env70
noncomputable abbrev x76 := exec ti (envOf env70) 49 h76 (finT ti true Go.Proofs.Try.f76.results.toList [(.pair (.pair (.int .i64) (.int .i64)) (.pair (.int .i64) (.int .i64)), true), (.bool, false)] (.pair (.pair (.pair (.int .i64) (.int .i64)) (.pair (.int .i64) (.int .i64))) (.bool)))
noncomputable def k76_1003 : List It := stackAt [.r, .r, .b, .lb none] (bodyOf Go.Proofs.Try.f76) []
def t76_1003 (p : List Int) (xs_0 : Int) (xs_1 : Int) (xs_2 : Int) (xs_3 : Int) (t4s_0 : Int) (t4s_1 : Int) (t4s_2 : Int) (t4s_3 : Int) : St := [(0, Cell.val (AVal.slc 3 (Ty.int IntKind.i64) p)), (6, Cell.val (AVal.ptr 3 0)), (3, Cell.mem true 29 [AVal.int IntKind.i64 xs_0, AVal.int IntKind.i64 xs_1, AVal.int IntKind.i64 xs_2, AVal.int IntKind.i64 xs_3]), (8, Cell.val (AVal.ptr 5 0)), (5, Cell.mem true 29 [AVal.int IntKind.i64 t4s_0, AVal.int IntKind.i64 t4s_1, AVal.int IntKind.i64 t4s_2, AVal.int IntKind.i64 t4s_3])]
theorem e76_1003 (k : Nat) (p : List Int) (xs_0 : Int) (xs_1 : Int) (xs_2 : Int) (xs_3 : Int) (t4s_0 : Int) (t4s_1 : Int) (t4s_2 : Int) (t4s_3 : Int) : x76 (k + 1) k76_1003 (t76_1003 p xs_0 xs_1 xs_2 xs_3 t4s_0 t4s_1 t4s_2 t4s_3) = F76_1003 k (fun (p : List Int) (xs_0 : Int) (xs_1 : Int) (xs_2 : Int) (xs_3 : Int) (t4s_0 : Int) (t4s_1 : Int) (t4s_2 : Int) (t4s_3 : Int) => x76 k k76_1003 (t76_1003 p xs_0 xs_1 xs_2 xs_3 t4s_0 t4s_1 t4s_2 t4s_3)) p xs_0 xs_1 xs_2 xs_3 t4s_0 t4s_1 t4s_2 t4s_3 := by kernel_rfl
theorem q76 : ∀ k : Nat, (fun (p : List Int) (xs_0 : Int) (xs_1 : Int) (xs_2 : Int) (xs_3 : Int) (t4s_0 : Int) (t4s_1 : Int) (t4s_2 : Int) (t4s_3 : Int) => x76 k k76_1003 (t76_1003 p xs_0 xs_1 xs_2 xs_3 t4s_0 t4s_1 t4s_2 t4s_3)) = l76 k
  | 0 => rfl
  | k + 1 => by
    have h := q76 k
    show _ = F76_1003 k (l76 k)
    rw [← h]
    exact (funext fun p => funext fun xs_0 => funext fun xs_1 => funext fun xs_2 => funext fun xs_3 => funext fun t4s_0 => funext fun t4s_1 => funext fun t4s_2 => funext fun t4s_3 => e76_1003 k p xs_0 xs_1 xs_2 xs_3 t4s_0 t4s_1 t4s_2 t4s_3)
theorem w76 (k : Nat) (p : List (Int)) (x_Low_N : Int) (x_Low_K : Int) (x_High_N : Int) (x_High_K : Int) : runFn ti (envOf env70) 49 h76 (finT ti true Go.Proofs.Try.f76.results.toList [(.pair (.pair (.int .i64) (.int .i64)) (.pair (.int .i64) (.int .i64)), true), (.bool, false)] (.pair (.pair (.pair (.int .i64) (.int .i64)) (.pair (.int .i64) (.int .i64))) (.bool))) k (bodyOf Go.Proofs.Try.f76) (initS 0 [.slc 3 (.int .i64) p, .agg [.int .i64 x_Low_N, .int .i64 x_Low_K, .int .i64 x_High_N, .int .i64 x_High_K]]) = F76 k (fun (p : List Int) (xs_0 : Int) (xs_1 : Int) (xs_2 : Int) (xs_3 : Int) (t4s_0 : Int) (t4s_1 : Int) (t4s_2 : Int) (t4s_3 : Int) => x76 k k76_1003 (t76_1003 p xs_0 xs_1 xs_2 xs_3 t4s_0 t4s_1 t4s_2 t4s_3)) p x_Low_N x_Low_K x_High_N x_High_K := by kernel_rfl
theorem v76 (k : Nat) (p : List (Int)) (x_Low_N : Int) (x_Low_K : Int) (x_High_N : Int) (x_High_K : Int) : runFn ti (envOf env70) 49 h76 (finT ti true Go.Proofs.Try.f76.results.toList [(.pair (.pair (.int .i64) (.int .i64)) (.pair (.int .i64) (.int .i64)), true), (.bool, false)] (.pair (.pair (.pair (.int .i64) (.int .i64)) (.pair (.int .i64) (.int .i64))) (.bool))) k (bodyOf Go.Proofs.Try.f76) (initS 0 [.slc 3 (.int .i64) p, .agg [.int .i64 x_Low_N, .int .i64 x_Low_K, .int .i64 x_High_N, .int .i64 x_High_K]]) = f76 k p x_Low_N x_Low_K x_High_N x_High_K := by
  rw [w76]
  have h := q76 k
  unfold f76
  rw [← h]
theorem m76 : Meets Go.Proofs.Try.prog 76 s76 := meets_of_run tiOk env70_ok mo Go.Proofs.Try.func76 (body := bodyOf Go.Proofs.Try.f76) (by kernel_rfl) (N := 49) (by kernel_rfl) (hs := h76) (by
  intro k xs r h
  unfold s76 at h
  dsimp only at h
  split at h
  · exact ⟨Nat.le_of_ble_eq_true rfl, (v76 k _ _ _ _ _).trans h⟩
  · cases h)
theorem env71_ok : EnvOk Go.Proofs.Try.prog (envOf env71) := envOf_cons m76 Go.Proofs.Try.func76 (by kernel_rfl) (by kernel_rfl) env70_ok

-- slices.Clone[[]int,int]
noncomputable def f232 (k : Nat) (s : List (Int)) : Option (List (Int)) :=
  bif decide ((0 + List.length s) * 8 ≤ 140737488355328) then
    some s
  else
    none
noncomputable def s232 : Spec := ⟨false, [(.slice 3 (.int .i64), false)], true, .slice 3 (.int .i64), fun k xs => match xs with | [.slc 3 (.int .i64) s] => f232 k s | _ => none⟩
noncomputable def env72 : List (FuncId × Spec) := (232, s232) :: env71
theorem m232 : Meets Go.Proofs.Try.prog 232 s232 := meets_clone (N := 8) tiOk env71_ok mo Go.Proofs.Try.func232 rfl rfl rfl rfl rfl rfl rfl rfl rfl rfl Go.Proofs.Try.underlying22 rfl (Nat.le_of_ble_eq_true rfl) (by
  intro k xs r h
  unfold s232 at h
  dsimp only at h
  split at h
  · rename_i s
    refine ⟨3, (.int .i64), s, rfl, fun hx => ?_, ?_⟩
    · subst hx
      refine Eq.trans ?_ h
      kernel_rfl
    · refine Eq.trans ?_ h
      kernel_rfl
  · cases h)
theorem env72_ok : EnvOk Go.Proofs.Try.prog (envOf env72) := envOf_cons m232 Go.Proofs.Try.func232 (by kernel_rfl) (by kernel_rfl) env71_ok

end Go.Proofs.YtbaeikcfchiiaaaE
