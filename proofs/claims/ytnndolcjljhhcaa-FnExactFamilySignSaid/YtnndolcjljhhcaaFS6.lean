/- Functions, by the engine; printed. -/
import Derived.Test.YtnndolcjljhhcaaFS5
set_option maxRecDepth 100000
set_option maxHeartbeats 4000000
set_option linter.unusedVariables false
namespace Go.Proofs.YtnndolcjljhhcaaE
-- impl.long).sign$1
def f183 (k : Nat) (d : Int) : Option (Bool) :=
  some (!decide (d = 0))
def s183 : Spec := ⟨false, [(.bool, false)], true, .bool, fun k xs => match xs with | [.int .u32 d] => f183 k d | _ => none⟩
def env61 : List (FuncId × Spec) := (183, s183) :: env60
theorem v183 (k : Nat) (d : Int) : runFn ti (envOf env60) 5 [] (finT ti true Go.Proofs.Try.f183.results.toList [(.bool, false)] (.bool)) k (bodyOf Go.Proofs.Try.f183) (initS 0 [.int .u32 d]) = f183 k d := by kernel_rfl
theorem m183 : Meets Go.Proofs.Try.prog 183 s183 := meets_of_run tiOk env60_ok mo Go.Proofs.Try.func183 (body := bodyOf Go.Proofs.Try.f183) (by kernel_rfl) (N := 5) (by kernel_rfl) (hs := []) (by
  intro k xs r h
  unfold s183 at h
  dsimp only at h
  split at h
  · exact ⟨Nat.le_of_ble_eq_true rfl, (v183 k _).trans h⟩
  · cases h)
theorem env61_ok : EnvOk Go.Proofs.Try.prog (envOf env61) := envOf_cons m183 Go.Proofs.Try.func183 (by kernel_rfl) (by kernel_rfl) env60_ok

-- slices.IndexFunc[[]uint32,uint32]
def h195_183 : Hints := [(1002, .lab [(0, .one (.frz 174 (Ty.int IntKind.u32))), (1, .one (.v)), (7, .one (.v)), (8, .one (.v))])]
def F195_183_1002 (k : Nat) (rec1002 : List Int → Int → Int → Option (Int)) (s : List Int) (t7 : Int) (t8 : Int) : Option (Int) :=
  bif decide (t8 < t7) then
    bif boundA t8 (List.length s) then
      bif !decide (List.getD s (Int.toNat t8) 0 = 0) then
        some t8
      else
        rec1002 s t7 (IntKind.wrap IntKind.i64 (t8 + 1))
    else
      none
  else
    some (-1)
def F195_183 (k : Nat) (rec1002 : List Int → Int → Int → Option (Int)) (s : List (Int)) : Option (Int) :=
  rec1002 s ((↑(List.length s) : Int)) (0)
def l195_183 : Nat → (List Int → Int → Int → Option (Int))
  | 0 => fun _ _ _ => none
  | k + 1 => F195_183_1002 k (l195_183 k)
def f195_183 (k : Nat) (s : List (Int)) : Option (Int) := F195_183 k (l195_183 k) s
def s195 : Spec := ⟨false, [(.int .i64, false)], true, .int .i64, fun k xs => match xs with | [.slc 174 (.int .u32) s, .fn 183] => f195_183 k s | _ => none⟩
def env62 : List (FuncId × Spec) := (195, s195) :: env61
noncomputable abbrev x195_183 := exec ti (envOf env61) 19 h195_183 (finT ti true Go.Proofs.Try.f195.results.toList [(.int .i64, false)] (.int .i64))
noncomputable def k195_183_1002 : List It := stackAt [.r, .l, .r, .b, .lb none] (bodyOf Go.Proofs.Try.f195) []
def t195_183_1002 (s : List Int) (t7 : Int) (t8 : Int) : St := [(0, Cell.val (AVal.slc 174 (Ty.int IntKind.u32) s)), (2, Cell.val (AVal.fn 183)), (14, Cell.val (AVal.int IntKind.i64 t7)), (16, Cell.val (AVal.int IntKind.i64 t8))]
theorem e195_183_1002 (k : Nat) (s : List Int) (t7 : Int) (t8 : Int) : x195_183 (k + 1) k195_183_1002 (t195_183_1002 s t7 t8) = F195_183_1002 k (fun (s : List Int) (t7 : Int) (t8 : Int) => x195_183 k k195_183_1002 (t195_183_1002 s t7 t8)) s t7 t8 := by kernel_rfl
theorem q195_183 : ∀ k : Nat, (fun (s : List Int) (t7 : Int) (t8 : Int) => x195_183 k k195_183_1002 (t195_183_1002 s t7 t8)) = l195_183 k
  | 0 => rfl
  | k + 1 => by
    have h := q195_183 k
    show _ = F195_183_1002 k (l195_183 k)
    rw [← h]
    exact (funext fun s => funext fun t7 => funext fun t8 => e195_183_1002 k s t7 t8)
theorem w195_183 (k : Nat) (s : List (Int)) : runFn ti (envOf env61) 19 h195_183 (finT ti true Go.Proofs.Try.f195.results.toList [(.int .i64, false)] (.int .i64)) k (bodyOf Go.Proofs.Try.f195) (initS 0 [.slc 174 (.int .u32) s, .fn 183]) = F195_183 k (fun (s : List Int) (t7 : Int) (t8 : Int) => x195_183 k k195_183_1002 (t195_183_1002 s t7 t8)) s := by kernel_rfl
theorem v195_183 (k : Nat) (s : List (Int)) : runFn ti (envOf env61) 19 h195_183 (finT ti true Go.Proofs.Try.f195.results.toList [(.int .i64, false)] (.int .i64)) k (bodyOf Go.Proofs.Try.f195) (initS 0 [.slc 174 (.int .u32) s, .fn 183]) = f195_183 k s := by
  rw [w195_183]
  have h := q195_183 k
  unfold f195_183
  rw [← h]
theorem m195 : Meets Go.Proofs.Try.prog 195 s195 := meets_of_run tiOk env61_ok mo Go.Proofs.Try.func195 (body := bodyOf Go.Proofs.Try.f195) (by kernel_rfl) (N := 19) (by kernel_rfl) (hs := h195_183) (by
  intro k xs r h
  unfold s195 at h
  dsimp only at h
  split at h
  · exact ⟨Nat.le_of_ble_eq_true rfl, (v195_183 k _).trans h⟩
  · cases h)
theorem env62_ok : EnvOk Go.Proofs.Try.prog (envOf env62) := envOf_cons m195 Go.Proofs.Try.func195 (by kernel_rfl) (by kernel_rfl) env61_ok

-- slices.ContainsFunc[[]uint32,uint32]
def f182_183 (k : Nat) (s : List (Int)) : Option (Bool) :=
  (f195_183 k s).bind fun r0 =>
  some (decide (0 ≤ r0))
def s182 : Spec := ⟨false, [(.bool, false)], true, .bool, fun k xs => match xs with | [.slc 174 (.int .u32) s, .fn 183] => f182_183 k s | _ => none⟩
def env63 : List (FuncId × Spec) := (182, s182) :: env62
theorem v182_183 (k : Nat) (s : List (Int)) : runFn ti (envOf env62) 9 [] (finT ti true Go.Proofs.Try.f182.results.toList [(.bool, false)] (.bool)) k (bodyOf Go.Proofs.Try.f182) (initS 0 [.slc 174 (.int .u32) s, .fn 183]) = f182_183 k s := by kernel_rfl
theorem m182 : Meets Go.Proofs.Try.prog 182 s182 := meets_of_run tiOk env62_ok mo Go.Proofs.Try.func182 (body := bodyOf Go.Proofs.Try.f182) (by kernel_rfl) (N := 9) (by kernel_rfl) (hs := []) (by
  intro k xs r h
  unfold s182 at h
  dsimp only at h
  split at h
  · exact ⟨Nat.le_of_ble_eq_true rfl, (v182_183 k _).trans h⟩
  · cases h)
theorem env63_ok : EnvOk Go.Proofs.Try.prog (envOf env63) := envOf_cons m182 Go.Proofs.Try.func182 (by kernel_rfl) (by kernel_rfl) env62_ok

-- impl.long).sign
def f157 (k : Nat) (a_negative : Bool) (a_digits : List (Int)) : Option (Int) :=
  (f182_183 k a_digits).bind fun r0 =>
  bif !r0 then
    some (0)
  else
    bif a_negative then
      some (-1)
    else
      some (1)
def s157 : Spec := ⟨false, [(.int .i64, false)], true, .int .i64, fun k xs => match xs with | [.agg [.bool a_negative, .slc 174 (.int .u32) a_digits]] => f157 k a_negative a_digits | _ => none⟩
def env64 : List (FuncId × Spec) := (157, s157) :: env63
theorem v157 (k : Nat) (a_negative : Bool) (a_digits : List (Int)) : runFn ti (envOf env63) 9 [] (finT ti true Go.Proofs.Try.f157.results.toList [(.int .i64, false)] (.int .i64)) k (bodyOf Go.Proofs.Try.f157) (initS 0 [.agg [.bool a_negative, .slc 174 (.int .u32) a_digits]]) = f157 k a_negative a_digits := by kernel_rfl
theorem m157 : Meets Go.Proofs.Try.prog 157 s157 := meets_of_run tiOk env63_ok mo Go.Proofs.Try.func157 (body := bodyOf Go.Proofs.Try.f157) (by kernel_rfl) (N := 9) (by kernel_rfl) (hs := []) (by
  intro k xs r h
  unfold s157 at h
  dsimp only at h
  split at h
  · exact ⟨Nat.le_of_ble_eq_true rfl, (v157 k _ _).trans h⟩
  · cases h)
theorem env64_ok : EnvOk Go.Proofs.Try.prog (envOf env64) := envOf_cons m157 Go.Proofs.Try.func157 (by kernel_rfl) (by kernel_rfl) env63_ok

-- impl.signAt
def h122 : Hints := [(1003, .lab [(0, .one (.frz 3 (Ty.int IntKind.i64))), (3, .box 52 [.v, .v]), (5, .box 153 [.v, .own 174 (Ty.int IntKind.u32)]), (6, .one (.v))])]
def F122_1003 (k : Nat) (rec1003 : List Int → Int → Int → Bool → List Int → Int → Option (Int)) (p : List Int) (xs_0 : Int) (xs_1 : Int) (sums_0 : Bool) (sums : List Int) (i : Int) : Option (Int) :=
  bif decide (0 ≤ i) then
    (f154 k sums_0 sums xs_0).bind fun r0 =>
    bif boundA i (List.length p) then
      (f156 k (List.getD p (Int.toNat i) 0) (IntKind.wrap IntKind.i64 (xs_1 * IntKind.wrap IntKind.i64 (IntKind.wrap IntKind.i64 ((↑(List.length p) : Int) - 1) - i)))).bind fun r1 =>
      (f155 k r0.fst r0.snd r1.fst r1.snd).bind fun r2 =>
      rec1003 p xs_0 xs_1 (r2.fst) (r2.snd) (IntKind.wrap IntKind.i64 (i - 1))
    else
      none
  else
    (f157 k sums_0 sums).bind fun r3 =>
    some r3
def F122 (k : Nat) (rec1003 : List Int → Int → Int → Bool → List Int → Int → Option (Int)) (p : List (Int)) (x_N : Int) (x_K : Int) : Option (Int) :=
  rec1003 p x_N x_K false ([]) (IntKind.wrap IntKind.i64 ((↑(List.length p) : Int) - 1))
def l122 : Nat → (List Int → Int → Int → Bool → List Int → Int → Option (Int))
  | 0 => fun _ _ _ _ _ _ => none
  | k + 1 => F122_1003 k (l122 k)
def f122 (k : Nat) (p : List (Int)) (x_N : Int) (x_K : Int) : Option (Int) := F122 k (l122 k) p x_N x_K
def s122 : Spec := ⟨false, [(.int .i64, false)], true, .int .i64, fun k xs => match xs with | [.slc 3 (.int .i64) p, .agg [.int .i64 x_N, .int .i64 x_K]] => f122 k p x_N x_K | _ => none⟩
def env65 : List (FuncId × Spec) := (122, s122) :: env64
noncomputable abbrev x122 := exec ti (envOf env64) 35 h122 (finT ti true Go.Proofs.Try.f122.results.toList [(.int .i64, false)] (.int .i64))
noncomputable def k122_1003 : List It := stackAt [.r, .r, .l, .r, .b, .lb none] (bodyOf Go.Proofs.Try.f122) []
def t122_1003 (p : List Int) (xs_0 : Int) (xs_1 : Int) (sums_0 : Bool) (sums : List Int) (i : Int) : St := [(0, Cell.val (AVal.slc 3 (Ty.int IntKind.i64) p)), (6, Cell.val (AVal.ptr 3 0)), (3, Cell.mem true 52 [AVal.int IntKind.i64 xs_0, AVal.int IntKind.i64 xs_1]), (10, Cell.val (AVal.ptr 5 0)), (5, Cell.mem true 153 [AVal.bool sums_0, AVal.ref 7 none]), (7, Cell.row true 174 (Ty.int IntKind.u32) sums), (12, Cell.val (AVal.int IntKind.i64 i))]
theorem e122_1003 (k : Nat) (p : List Int) (xs_0 : Int) (xs_1 : Int) (sums_0 : Bool) (sums : List Int) (i : Int) : x122 (k + 1) k122_1003 (t122_1003 p xs_0 xs_1 sums_0 sums i) = F122_1003 k (fun (p : List Int) (xs_0 : Int) (xs_1 : Int) (sums_0 : Bool) (sums : List Int) (i : Int) => x122 k k122_1003 (t122_1003 p xs_0 xs_1 sums_0 sums i)) p xs_0 xs_1 sums_0 sums i := by kernel_rfl
theorem q122 : ∀ k : Nat, (fun (p : List Int) (xs_0 : Int) (xs_1 : Int) (sums_0 : Bool) (sums : List Int) (i : Int) => x122 k k122_1003 (t122_1003 p xs_0 xs_1 sums_0 sums i)) = l122 k
  | 0 => rfl
  | k + 1 => by
    have h := q122 k
    show _ = F122_1003 k (l122 k)
    rw [← h]
    exact (funext fun p => funext fun xs_0 => funext fun xs_1 => funext fun sums_0 => funext fun sums => funext fun i => e122_1003 k p xs_0 xs_1 sums_0 sums i)
theorem w122 (k : Nat) (p : List (Int)) (x_N : Int) (x_K : Int) : runFn ti (envOf env64) 35 h122 (finT ti true Go.Proofs.Try.f122.results.toList [(.int .i64, false)] (.int .i64)) k (bodyOf Go.Proofs.Try.f122) (initS 0 [.slc 3 (.int .i64) p, .agg [.int .i64 x_N, .int .i64 x_K]]) = F122 k (fun (p : List Int) (xs_0 : Int) (xs_1 : Int) (sums_0 : Bool) (sums : List Int) (i : Int) => x122 k k122_1003 (t122_1003 p xs_0 xs_1 sums_0 sums i)) p x_N x_K := by kernel_rfl
theorem v122 (k : Nat) (p : List (Int)) (x_N : Int) (x_K : Int) : runFn ti (envOf env64) 35 h122 (finT ti true Go.Proofs.Try.f122.results.toList [(.int .i64, false)] (.int .i64)) k (bodyOf Go.Proofs.Try.f122) (initS 0 [.slc 3 (.int .i64) p, .agg [.int .i64 x_N, .int .i64 x_K]]) = f122 k p x_N x_K := by
  rw [w122]
  have h := q122 k
  unfold f122
  rw [← h]
theorem m122 : Meets Go.Proofs.Try.prog 122 s122 := meets_of_run tiOk env64_ok mo Go.Proofs.Try.func122 (body := bodyOf Go.Proofs.Try.f122) (by kernel_rfl) (N := 35) (by kernel_rfl) (hs := h122) (by
  intro k xs r h
  unfold s122 at h
  dsimp only at h
  split at h
  · exact ⟨Nat.le_of_ble_eq_true rfl, (v122 k _ _ _).trans h⟩
  · cases h)
theorem env65_ok : EnvOk Go.Proofs.Try.prog (envOf env65) := envOf_cons m122 Go.Proofs.Try.func122 (by kernel_rfl) (by kernel_rfl) env64_ok

-- impl.familySign
def f89 (k : Nat) (p : List (Int)) (q : List (Int)) (x_N : Int) (x_K : Int) (i : Int) (k_ : Int) (fine : Int) : Option (Int) :=
  (f68 k p q i fine).bind fun r0 =>
  (f122 k r0 x_N x_K).bind fun r1 =>
  (f68 k p q k_ fine).bind fun r2 =>
  (f122 k r2 x_N x_K).bind fun r3 =>
  bif !decide (r3 = r1) then
    some (0)
  else
    some r1
def s89 : Spec := ⟨false, [(.int .i64, false)], true, .int .i64, fun k xs => match xs with | [.slc 3 (.int .i64) p, .slc 3 (.int .i64) q, .agg [.int .i64 x_N, .int .i64 x_K], .int .i64 i, .int .i64 k_, .int .i64 fine] => f89 k p q x_N x_K i k_ fine | _ => none⟩
def env66 : List (FuncId × Spec) := (89, s89) :: env65
theorem v89 (k : Nat) (p : List (Int)) (q : List (Int)) (x_N : Int) (x_K : Int) (i : Int) (k_ : Int) (fine : Int) : runFn ti (envOf env65) 31 [] (finT ti true Go.Proofs.Try.f89.results.toList [(.int .i64, false)] (.int .i64)) k (bodyOf Go.Proofs.Try.f89) (initS 0 [.slc 3 (.int .i64) p, .slc 3 (.int .i64) q, .agg [.int .i64 x_N, .int .i64 x_K], .int .i64 i, .int .i64 k_, .int .i64 fine]) = f89 k p q x_N x_K i k_ fine := by kernel_rfl
theorem m89 : Meets Go.Proofs.Try.prog 89 s89 := meets_of_run tiOk env65_ok mo Go.Proofs.Try.func89 (body := bodyOf Go.Proofs.Try.f89) (by kernel_rfl) (N := 31) (by kernel_rfl) (hs := []) (by
  intro k xs r h
  unfold s89 at h
  dsimp only at h
  split at h
  · exact ⟨Nat.le_of_ble_eq_true rfl, (v89 k _ _ _ _ _ _ _).trans h⟩
  · cases h)
theorem env66_ok : EnvOk Go.Proofs.Try.prog (envOf env66) := envOf_cons m89 Go.Proofs.Try.func89 (by kernel_rfl) (by kernel_rfl) env65_ok

-- impl.FamilySign
def f44 (k : Nat) (p : List (Int)) (q : List (Int)) (x_N : Int) (x_K : Int) (i : Int) (k_ : Int) (fine : Int) : Option (Int × Bool) :=
  (f66 k p q fine).bind fun r0 =>
  bif !r0 then
    some ((0, false))
  else
    (f88 k x_N x_K).bind fun r1 =>
    bif !r1 then
      some ((0, false))
    else
      (f67 k i fine).bind fun r2 =>
      bif !r2 then
        some ((0, false))
      else
        (f67 k k_ fine).bind fun r3 =>
        bif !r3 then
          some ((0, false))
        else
          (f89 k p q x_N x_K i k_ fine).bind fun r4 =>
          some ((r4, true))
def s44 : Spec := ⟨false, [(.int .i64, false), (.bool, false)], true, .pair (.int .i64) (.bool), fun k xs => match xs with | [.slc 3 (.int .i64) p, .slc 3 (.int .i64) q, .agg [.int .i64 x_N, .int .i64 x_K], .int .i64 i, .int .i64 k_, .int .i64 fine] => f44 k p q x_N x_K i k_ fine | _ => none⟩
def env67 : List (FuncId × Spec) := (44, s44) :: env66
theorem v44 (k : Nat) (p : List (Int)) (q : List (Int)) (x_N : Int) (x_K : Int) (i : Int) (k_ : Int) (fine : Int) : runFn ti (envOf env66) 43 [] (finT ti true Go.Proofs.Try.f44.results.toList [(.int .i64, false), (.bool, false)] (.pair (.int .i64) (.bool))) k (bodyOf Go.Proofs.Try.f44) (initS 0 [.slc 3 (.int .i64) p, .slc 3 (.int .i64) q, .agg [.int .i64 x_N, .int .i64 x_K], .int .i64 i, .int .i64 k_, .int .i64 fine]) = f44 k p q x_N x_K i k_ fine := by kernel_rfl
theorem m44 : Meets Go.Proofs.Try.prog 44 s44 := meets_of_run tiOk env66_ok mo Go.Proofs.Try.func44 (body := bodyOf Go.Proofs.Try.f44) (by kernel_rfl) (N := 43) (by kernel_rfl) (hs := []) (by
  intro k xs r h
  unfold s44 at h
  dsimp only at h
  split at h
  · exact ⟨Nat.le_of_ble_eq_true rfl, (v44 k _ _ _ _ _ _ _).trans h⟩
  · cases h)
theorem env67_ok : EnvOk Go.Proofs.Try.prog (envOf env67) := envOf_cons m44 Go.Proofs.Try.func44 (by kernel_rfl) (by kernel_rfl) env66_ok

-- laws.FnExactFamilySign
def f10 (k : Nat) (L : List (Int)) (i : List (Int)) (s_N : Int) (s_K : Int) (t : Int) (t4 : Int) (t_5 : Int) : Option (Bool) :=
  bif decide (1000000 < IntKind.wrap IntKind.i64 ((↑(List.length L) : Int) + (↑(List.length i) : Int))) then
    some true
  else
    (f15 k L false).bind fun r0 =>
    (f15 k i false).bind fun r1 =>
    (f42 k (List.take r0.snd r0.fst) (List.take r1.snd r1.fst) s_N s_K t t4 t_5).bind fun r2 =>
    (f15 k L false).bind fun r3 =>
    (f15 k i false).bind fun r4 =>
    (f44 k (List.take r3.snd r3.fst) (List.take r4.snd r4.fst) s_N s_K t t4 t_5).bind fun r5 =>
    bif !decide (r5.fst = r2.fst) then
      some false
    else
      bif !r5.snd == r2.snd then
        some false
      else
        (f15 k L false).bind fun r6 =>
        (f18 k r3.fst r3.snd r6.fst r6.snd).bind fun r7 =>
        bif !r7 then
          some false
        else
          (f15 k i false).bind fun r8 =>
          (f18 k r4.fst r4.snd r8.fst r8.snd).bind fun r9 =>
          bif !r9 then
            some false
          else
            (f15 k L true).bind fun r10 =>
            (f15 k i true).bind fun r11 =>
            (f44 k (List.take r10.snd r10.fst) (List.take r11.snd r11.fst) s_N s_K t t4 t_5).bind fun r12 =>
            bif !decide (r12.fst = r2.fst) then
              some false
            else
              bif !r12.snd == r2.snd then
                some false
              else
                some true
def s10 : Spec := ⟨false, [(.bool, false)], true, .bool, fun k xs => match xs with | [.slc 3 (.int .i64) L, .slc 3 (.int .i64) i, .agg [.int .i64 s_N, .int .i64 s_K], .int .i64 t, .int .i64 t4, .int .i64 t_5] => f10 k L i s_N s_K t t4 t_5 | _ => none⟩
def env68 : List (FuncId × Spec) := (10, s10) :: env67
theorem v10 (k : Nat) (L : List (Int)) (i : List (Int)) (s_N : Int) (s_K : Int) (t : Int) (t4 : Int) (t_5 : Int) : runFn tiV (envOf env67) 94 [] (finT tiV true Go.Proofs.Try.f10.results.toList [(.bool, false)] (.bool)) k (bodyOf Go.Proofs.Try.f10) (initS 0 [.slc 3 (.int .i64) L, .slc 3 (.int .i64) i, .agg [.int .i64 s_N, .int .i64 s_K], .int .i64 t, .int .i64 t4, .int .i64 t_5]) = f10 k L i s_N s_K t t4 t_5 := by kernel_rfl
theorem m10 : Meets Go.Proofs.Try.prog 10 s10 := meets_of_run tiVOk env67_ok mo Go.Proofs.Try.func10 (body := bodyOf Go.Proofs.Try.f10) (by kernel_rfl) (N := 94) (by kernel_rfl) (hs := []) (by
  intro k xs r h
  unfold s10 at h
  dsimp only at h
  split at h
  · exact ⟨Nat.le_of_ble_eq_true rfl, (v10 k _ _ _ _ _ _ _).trans h⟩
  · cases h)
theorem env68_ok : EnvOk Go.Proofs.Try.prog (envOf env68) := envOf_cons m10 Go.Proofs.Try.func10 (by kernel_rfl) (by kernel_rfl) env67_ok

end Go.Proofs.YtnndolcjljhhcaaE
