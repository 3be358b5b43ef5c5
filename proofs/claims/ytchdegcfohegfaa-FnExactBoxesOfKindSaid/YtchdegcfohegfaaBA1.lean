/- Functions, by the engine; printed. -/
import Derived.Test.YtchdegcfohegfaaBA0
set_option maxRecDepth 100000
set_option maxHeartbeats 4000000
set_option linter.unusedVariables false
namespace Go.Proofs.YtchdegcfohegfaaE
-- laws.szIntS
noncomputable def f31 (k : Nat) (a : List (Int)) (left : Int) : Option (Int) :=
  bif decide (IntKind.wrap IntKind.i64 (left - (↑(List.length a) : Int)) < 0) then
    some (-1)
  else
    some (IntKind.wrap IntKind.i64 (left - (↑(List.length a) : Int)))
noncomputable def s31 : Spec := ⟨false, [(.int .i64, false)], true, .int .i64, fun k xs => match xs with | [.slc 3 (.int .i64) a, .int .i64 left] => f31 k a left | _ => none, false, none, false⟩
noncomputable def env1 : List (FuncId × Spec) := (31, s31) :: env0
theorem v31 (k : Nat) (a : List (Int)) (left : Int) : runFn ti (envOf env0) 12 [] (finT ti true Go.Proofs.Try.f31.results.toList [(.int .i64, false)] (.int .i64)) k (bodyOf Go.Proofs.Try.f31) (initS 0 [.slc 3 (.int .i64) a, .int .i64 left]) = f31 k a left := by kernel_rfl
theorem m31 : Meets Go.Proofs.Try.prog 31 s31 := meets_of_run tiOk env0_ok mo Go.Proofs.Try.func31 (body := bodyOf Go.Proofs.Try.f31) (by kernel_rfl) (N := 12) (by kernel_rfl) (hs := []) (by
  intro k xs r h
  unfold s31 at h
  dsimp only at h
  split at h
  · exact ⟨Nat.le_of_ble_eq_true rfl, (v31 k _ _).trans h⟩
  · cases h)
theorem env1_ok : EnvOk Go.Proofs.Try.prog (envOf env1) := envOf_cons m31 Go.Proofs.Try.func31 (by kernel_rfl) (by kernel_rfl) env0_ok

-- laws.szBox
noncomputable def f7 (k : Nat) (a_K : Int) (a_Low : List (Int)) (a_High : List (Int)) (left : Int) : Option (Int) :=
  (f31 k a_Low left).bind fun r0 =>
  bif decide (r0 < 0) then
    some (-1)
  else
    (f31 k a_High r0).bind fun r1 =>
    bif decide (r1 < 0) then
      some (-1)
    else
      some r1
noncomputable def s7 : Spec := ⟨false, [(.int .i64, false)], true, .int .i64, fun k xs => match xs with | [.agg [.int .i64 a_K, .slc 3 (.int .i64) a_Low, .slc 3 (.int .i64) a_High], .int .i64 left] => f7 k a_K a_Low a_High left | _ => none, false, none, false⟩
noncomputable def env2 : List (FuncId × Spec) := (7, s7) :: env1
theorem v7 (k : Nat) (a_K : Int) (a_Low : List (Int)) (a_High : List (Int)) (left : Int) : runFn ti (envOf env1) 18 [] (finT ti true Go.Proofs.Try.f7.results.toList [(.int .i64, false)] (.int .i64)) k (bodyOf Go.Proofs.Try.f7) (initS 0 [.agg [.int .i64 a_K, .slc 3 (.int .i64) a_Low, .slc 3 (.int .i64) a_High], .int .i64 left]) = f7 k a_K a_Low a_High left := by kernel_rfl
theorem m7 : Meets Go.Proofs.Try.prog 7 s7 := meets_of_run tiOk env1_ok mo Go.Proofs.Try.func7 (body := bodyOf Go.Proofs.Try.f7) (by kernel_rfl) (N := 18) (by kernel_rfl) (hs := []) (by
  intro k xs r h
  unfold s7 at h
  dsimp only at h
  split at h
  · exact ⟨Nat.le_of_ble_eq_true rfl, (v7 k _ _ _ _).trans h⟩
  · cases h)
theorem env2_ok : EnvOk Go.Proofs.Try.prog (envOf env2) := envOf_cons m7 Go.Proofs.Try.func7 (by kernel_rfl) (by kernel_rfl) env1_ok

-- laws.szNodeS
noncomputable def f8 (k : Nat) (a : List (Int × Int)) (left : Int) : Option (Int) :=
  bif decide (IntKind.wrap IntKind.i64 (left - (↑(List.length a) : Int)) < 0) then
    some (-1)
  else
    some (IntKind.wrap IntKind.i64 (left - (↑(List.length a) : Int)))
noncomputable def s8 : Spec := ⟨false, [(.int .i64, false)], true, .int .i64, fun k xs => match xs with | [.slc 59 (.pair (.int .i64) (.int .i64)) a, .int .i64 left] => f8 k a left | _ => none, false, none, false⟩
noncomputable def env3 : List (FuncId × Spec) := (8, s8) :: env2
theorem v8 (k : Nat) (a : List (Int × Int)) (left : Int) : runFn ti (envOf env2) 12 [] (finT ti true Go.Proofs.Try.f8.results.toList [(.int .i64, false)] (.int .i64)) k (bodyOf Go.Proofs.Try.f8) (initS 0 [.slc 59 (.pair (.int .i64) (.int .i64)) a, .int .i64 left]) = f8 k a left := by kernel_rfl
theorem m8 : Meets Go.Proofs.Try.prog 8 s8 := meets_of_run tiOk env2_ok mo Go.Proofs.Try.func8 (body := bodyOf Go.Proofs.Try.f8) (by kernel_rfl) (N := 12) (by kernel_rfl) (hs := []) (by
  intro k xs r h
  unfold s8 at h
  dsimp only at h
  split at h
  · exact ⟨Nat.le_of_ble_eq_true rfl, (v8 k _ _).trans h⟩
  · cases h)
theorem env3_ok : EnvOk Go.Proofs.Try.prog (envOf env3) := envOf_cons m8 Go.Proofs.Try.func8 (by kernel_rfl) (by kernel_rfl) env2_ok

-- spec.l1In
noncomputable def f60 (k : Nat) (n : Int) (lo : Int) (hi : Int) : Option (Bool) :=
  bif decide (lo ≤ n) then
    some (decide (n ≤ hi))
  else
    some false
noncomputable def s60 : Spec := ⟨false, [(.bool, false)], true, .bool, fun k xs => match xs with | [.int .i64 n, .int .i64 lo, .int .i64 hi] => f60 k n lo hi | _ => none, false, none, false⟩
noncomputable def env4 : List (FuncId × Spec) := (60, s60) :: env3
theorem v60 (k : Nat) (n : Int) (lo : Int) (hi : Int) : runFn ti (envOf env3) 15 [] (finT ti true Go.Proofs.Try.f60.results.toList [(.bool, false)] (.bool)) k (bodyOf Go.Proofs.Try.f60) (initS 0 [.int .i64 n, .int .i64 lo, .int .i64 hi]) = f60 k n lo hi := by kernel_rfl
theorem m60 : Meets Go.Proofs.Try.prog 60 s60 := meets_of_run tiOk env3_ok mo Go.Proofs.Try.func60 (body := bodyOf Go.Proofs.Try.f60) (by kernel_rfl) (N := 15) (by kernel_rfl) (hs := []) (by
  intro k xs r h
  unfold s60 at h
  dsimp only at h
  split at h
  · exact ⟨Nat.le_of_ble_eq_true rfl, (v60 k _ _ _).trans h⟩
  · cases h)
theorem env4_ok : EnvOk Go.Proofs.Try.prog (envOf env4) := envOf_cons m60 Go.Proofs.Try.func60 (by kernel_rfl) (by kernel_rfl) env3_ok

-- spec.dyPower
noncomputable def f61 (k : Nat) (k_ : Int) : Option (Int) :=
  bif !decide (IntKind.wrap IntKind.u64 k_ < 0) then
    some (IntKind.wrap IntKind.i64 (1 * 2 ^ min (Int.toNat (IntKind.wrap IntKind.u64 k_)) (IntKind.bits IntKind.i64)))
  else
    none
noncomputable def s61 : Spec := ⟨false, [(.int .i64, false)], true, .int .i64, fun k xs => match xs with | [.int .i64 k_] => f61 k k_ | _ => none, false, none, false⟩
noncomputable def env5 : List (FuncId × Spec) := (61, s61) :: env4
theorem v61 (k : Nat) (k_ : Int) : runFn ti (envOf env4) 6 [] (finT ti true Go.Proofs.Try.f61.results.toList [(.int .i64, false)] (.int .i64)) k (bodyOf Go.Proofs.Try.f61) (initS 0 [.int .i64 k_]) = f61 k k_ := by kernel_rfl
theorem m61 : Meets Go.Proofs.Try.prog 61 s61 := meets_of_run tiOk env4_ok mo Go.Proofs.Try.func61 (body := bodyOf Go.Proofs.Try.f61) (by kernel_rfl) (N := 6) (by kernel_rfl) (hs := []) (by
  intro k xs r h
  unfold s61 at h
  dsimp only at h
  split at h
  · exact ⟨Nat.le_of_ble_eq_true rfl, (v61 k _).trans h⟩
  · cases h)
theorem env5_ok : EnvOk Go.Proofs.Try.prog (envOf env5) := envOf_cons m61 Go.Proofs.Try.func61 (by kernel_rfl) (by kernel_rfl) env4_ok

-- spec.bxGood
def h32 : Hints := [(1006, .lab [(1, .box 31 [.v, .frz 3 (Ty.int IntKind.i64), .frz 3 (Ty.int IntKind.i64)]), (3, .one (.v)), (4, .one (.v)), (36, .one (.frz 3 (Ty.int IntKind.i64))), (37, .one (.v)), (38, .one (.v))])]
noncomputable def F32_1006 (k : Nat) (rec1006 : Int → List Int → List Int → Int → Bool → List Int → Int → Int → Option (Bool)) (is_0 : Int) (is_1 : List Int) (is_2 : List Int) (t : Int) (t4 : Bool) (t36 : List Int) (t37 : Int) (t38 : Int) : Option (Bool) :=
  bif decide (t38 < t37) then
    bif boundA t38 (List.length t36) then
      bif boundA t38 (List.length is_2) then
        (f60 k (List.getD t36 (Int.toNat t38) 0) (IntKind.wrap IntKind.i64 (0 - t)) t).bind fun r0 =>
        bif !r0 then
          some false
        else
          (f60 k (List.getD is_2 (Int.toNat t38) 0) (IntKind.wrap IntKind.i64 (0 - t)) t).bind fun r1 =>
          bif !r1 then
            some false
          else
            bif decide (List.getD is_2 (Int.toNat t38) 0 ≤ List.getD t36 (Int.toNat t38) 0) then
              some false
            else
              bif t4 then
                rec1006 is_0 is_1 is_2 t true t36 t37 (IntKind.wrap IntKind.i64 (t38 + 1))
              else
                bif !decide (Int.tmod (List.getD t36 (Int.toNat t38) 0) 2 = 0) then
                  rec1006 is_0 is_1 is_2 t true t36 t37 (IntKind.wrap IntKind.i64 (t38 + 1))
                else
                  rec1006 is_0 is_1 is_2 t (!decide (Int.tmod (List.getD is_2 (Int.toNat t38) 0) 2 = 0)) t36 t37 (IntKind.wrap IntKind.i64 (t38 + 1))
      else
        none
    else
      none
  else
    some t4
noncomputable def F32 (k : Nat) (rec1006 : Int → List Int → List Int → Int → Bool → List Int → Int → Int → Option (Bool)) (L_K : Int) (L_Low : List (Int)) (L_High : List (Int)) : Option (Bool) :=
  (f60 k L_K 0 8).bind fun r0 =>
  bif !r0 then
    some false
  else
    (f60 k (↑(List.length L_Low) : Int) 1 3).bind fun r1 =>
    bif !r1 then
      some false
    else
      bif !decide ((↑(List.length L_High) : Int) = (↑(List.length L_Low) : Int)) then
        some false
      else
        (f61 k L_K).bind fun r2 =>
        rec1006 L_K L_Low L_High (IntKind.wrap IntKind.i64 (8 * r2)) (decide (L_K = 0)) L_Low ((↑(List.length L_Low) : Int)) (0)
noncomputable def l32 : Nat → (Int → List Int → List Int → Int → Bool → List Int → Int → Int → Option (Bool))
  | 0 => fun _ _ _ _ _ _ _ _ => none
  | k + 1 => F32_1006 k (l32 k)
noncomputable def f32 (k : Nat) (L_K : Int) (L_Low : List (Int)) (L_High : List (Int)) : Option (Bool) := F32 k (l32 k) L_K L_Low L_High
noncomputable def s32 : Spec := ⟨false, [(.bool, false)], true, .bool, fun k xs => match xs with | [.agg [.int .i64 L_K, .slc 3 (.int .i64) L_Low, .slc 3 (.int .i64) L_High]] => f32 k L_K L_Low L_High | _ => none, false, none, false⟩
noncomputable def env6 : List (FuncId × Spec) := (32, s32) :: env5
noncomputable abbrev x32 := exec ti (envOf env5) 80 h32 (finT ti true Go.Proofs.Try.f32.results.toList [(.bool, false)] (.bool))
noncomputable def k32_1006 : List It := stackAt [.r, .r, .r, .r, .l, .r, .b, .lb none] (bodyOf Go.Proofs.Try.f32) []
def t32_1006 (is_0 : Int) (is_1 : List Int) (is_2 : List Int) (t : Int) (t4 : Bool) (t36 : List Int) (t37 : Int) (t38 : Int) : St := [(2, Cell.val (AVal.ptr 33 0)), (33, Cell.mem true 31 [AVal.int IntKind.i64 is_0, AVal.slc 3 (Ty.int IntKind.i64) is_1, AVal.slc 3 (Ty.int IntKind.i64) is_2]), (6, Cell.val (AVal.int IntKind.i64 t)), (8, Cell.val (AVal.bool t4)), (72, Cell.val (AVal.slc 3 (Ty.int IntKind.i64) t36)), (74, Cell.val (AVal.int IntKind.i64 t37)), (76, Cell.val (AVal.int IntKind.i64 t38))]
theorem e32_1006 (k : Nat) (is_0 : Int) (is_1 : List Int) (is_2 : List Int) (t : Int) (t4 : Bool) (t36 : List Int) (t37 : Int) (t38 : Int) : x32 (k + 1) k32_1006 (t32_1006 is_0 is_1 is_2 t t4 t36 t37 t38) = F32_1006 k (fun (is_0 : Int) (is_1 : List Int) (is_2 : List Int) (t : Int) (t4 : Bool) (t36 : List Int) (t37 : Int) (t38 : Int) => x32 k k32_1006 (t32_1006 is_0 is_1 is_2 t t4 t36 t37 t38)) is_0 is_1 is_2 t t4 t36 t37 t38 := by kernel_rfl
theorem q32 : ∀ k : Nat, (fun (is_0 : Int) (is_1 : List Int) (is_2 : List Int) (t : Int) (t4 : Bool) (t36 : List Int) (t37 : Int) (t38 : Int) => x32 k k32_1006 (t32_1006 is_0 is_1 is_2 t t4 t36 t37 t38)) = l32 k
  | 0 => rfl
  | k + 1 => by
    have h := q32 k
    show _ = F32_1006 k (l32 k)
    rw [← h]
    exact (funext fun is_0 => funext fun is_1 => funext fun is_2 => funext fun t => funext fun t4 => funext fun t36 => funext fun t37 => funext fun t38 => e32_1006 k is_0 is_1 is_2 t t4 t36 t37 t38)
theorem w32 (k : Nat) (L_K : Int) (L_Low : List (Int)) (L_High : List (Int)) : runFn ti (envOf env5) 80 h32 (finT ti true Go.Proofs.Try.f32.results.toList [(.bool, false)] (.bool)) k (bodyOf Go.Proofs.Try.f32) (initS 0 [.agg [.int .i64 L_K, .slc 3 (.int .i64) L_Low, .slc 3 (.int .i64) L_High]]) = F32 k (fun (is_0 : Int) (is_1 : List Int) (is_2 : List Int) (t : Int) (t4 : Bool) (t36 : List Int) (t37 : Int) (t38 : Int) => x32 k k32_1006 (t32_1006 is_0 is_1 is_2 t t4 t36 t37 t38)) L_K L_Low L_High := by kernel_rfl
theorem v32 (k : Nat) (L_K : Int) (L_Low : List (Int)) (L_High : List (Int)) : runFn ti (envOf env5) 80 h32 (finT ti true Go.Proofs.Try.f32.results.toList [(.bool, false)] (.bool)) k (bodyOf Go.Proofs.Try.f32) (initS 0 [.agg [.int .i64 L_K, .slc 3 (.int .i64) L_Low, .slc 3 (.int .i64) L_High]]) = f32 k L_K L_Low L_High := by
  rw [w32]
  have h := q32 k
  unfold f32
  rw [← h]
theorem m32 : Meets Go.Proofs.Try.prog 32 s32 := meets_of_run tiOk env5_ok mo Go.Proofs.Try.func32 (body := bodyOf Go.Proofs.Try.f32) (by kernel_rfl) (N := 80) (by kernel_rfl) (hs := h32) (by
  intro k xs r h
  unfold s32 at h
  dsimp only at h
  split at h
  · exact ⟨Nat.le_of_ble_eq_true rfl, (v32 k _ _ _).trans h⟩
  · cases h)
theorem env6_ok : EnvOk Go.Proofs.Try.prog (envOf env6) := envOf_cons m32 Go.Proofs.Try.func32 (by kernel_rfl) (by kernel_rfl) env5_ok

-- spec.trEnd
noncomputable def F62_0 (k : Nat) (rec0 : List (Int × Int) → Int → Int → Int → Option (Int)) (l : List (Int × Int)) (sides : Int) (at_ : Int) (depth : Int) : Option (Int) :=
  bif decide ((↑(List.length l) : Int) ≤ at_) then
    some (-1)
  else
    bif decide (20 < depth) then
      some (-1)
    else
      bif boundA at_ (List.length l) then
        bif decide ((List.getD l (Int.toNat at_) (0, 0)).fst = 0) then
          (f60 k (List.getD l (Int.toNat at_) (0, 0)).snd 0 (IntKind.wrap IntKind.i64 (sides - 1))).bind fun r0 =>
          bif !r0 then
            some (-1)
          else
            (rec0 l sides (IntKind.wrap IntKind.i64 (at_ + 1)) (IntKind.wrap IntKind.i64 (depth + 1))).bind fun r1 =>
            bif decide (r1 < 0) then
              some (-1)
            else
              (rec0 l sides r1 (IntKind.wrap IntKind.i64 (depth + 1))).bind fun r2 =>
              some r2
        else
          bif decide ((List.getD l (Int.toNat at_) (0, 0)).fst = 1) then
            bif decide ((List.getD l (Int.toNat at_) (0, 0)).fst = 1) then
              (f60 k (List.getD l (Int.toNat at_) (0, 0)).snd 0 99).bind fun r3 =>
              bif !r3 then
                some (-1)
              else
                some (IntKind.wrap IntKind.i64 (at_ + 1))
            else
              bif decide ((List.getD l (Int.toNat at_) (0, 0)).fst = 3) then
                bif !decide ((List.getD l (Int.toNat at_) (0, 0)).snd = 0) then
                  some (-1)
                else
                  some (IntKind.wrap IntKind.i64 (at_ + 1))
              else
                some (-1)
          else
            bif decide ((List.getD l (Int.toNat at_) (0, 0)).fst = 2) then
              (f60 k (List.getD l (Int.toNat at_) (0, 0)).snd 0 99).bind fun r4 =>
              bif !r4 then
                some (-1)
              else
                some (IntKind.wrap IntKind.i64 (at_ + 1))
            else
              bif decide ((List.getD l (Int.toNat at_) (0, 0)).fst = 3) then
                bif !decide ((List.getD l (Int.toNat at_) (0, 0)).snd = 0) then
                  some (-1)
                else
                  some (IntKind.wrap IntKind.i64 (at_ + 1))
              else
                some (-1)
      else
        none
noncomputable def F62 (k : Nat) (rec0 : List (Int × Int) → Int → Int → Int → Option (Int)) (l : List (Int × Int)) (sides : Int) (at_ : Int) (depth : Int) : Option (Int) :=
  rec0 l sides at_ depth
noncomputable def l62 : Nat → (List (Int × Int) → Int → Int → Int → Option (Int))
  | 0 => fun _ _ _ _ => none
  | k + 1 => F62_0 k (l62 k)
noncomputable def f62 (k : Nat) (l : List (Int × Int)) (sides : Int) (at_ : Int) (depth : Int) : Option (Int) := F62 k (l62 k) l sides at_ depth
noncomputable def g62 (k : Nat) (xs : List AVal) : Option (T (.int .i64)) := match xs with | [.slc 57 (.pair (.int .i64) (.int .i64)) l, .int .i64 sides, .int .i64 at_, .int .i64 depth] => f62 k l sides at_ depth | _ => none
noncomputable def s62 : Spec := ⟨false, [(.int .i64, false)], true, .int .i64, g62, false, none, false⟩
noncomputable def env7 : List (FuncId × Spec) := (62, s62) :: env6
theorem v62 (j : Nat) (l : List (Int × Int)) (sides : Int) (at_ : Int) (depth : Int) : runFn ti (envOf ((62, ⟨false, [(.int .i64, false)], true, .int .i64, fun _ xs => g62 j xs, false, none, false⟩) :: env6)) 64 [] (finT ti true Go.Proofs.Try.f62.results.toList [(.int .i64, false)] (.int .i64)) j (bodyOf Go.Proofs.Try.f62) (initS 0 [.slc 57 (.pair (.int .i64) (.int .i64)) l, .int .i64 sides, .int .i64 at_, .int .i64 depth]) = f62 (j + 1) l sides at_ depth := by kernel_rfl
theorem m62 : Meets Go.Proofs.Try.prog 62 s62 := meets_rec (fun xs => by unfold g62; split <;> rfl) fun j hj => meets_of_run tiOk (envOf_cons hj Go.Proofs.Try.func62 (by kernel_rfl) (by kernel_rfl) env6_ok) mo Go.Proofs.Try.func62 (body := bodyOf Go.Proofs.Try.f62) (by kernel_rfl) (N := 64) (by kernel_rfl) (hs := []) (by
  intro k xs r h
  dsimp only at h
  cases hk : Nat.beq k j with
  | false => rw [hk] at h; cases h
  | true =>
    rw [hk] at h
    obtain rfl := Nat.eq_of_beq_eq_true hk
    have h : g62 (k + 1) xs = some r := h
    unfold g62 at h
    split at h
    · exact ⟨Nat.le_of_ble_eq_true rfl, (v62 k _ _ _ _).trans h⟩
    · cases h)
theorem env7_ok : EnvOk Go.Proofs.Try.prog (envOf env7) := envOf_cons m62 Go.Proofs.Try.func62 (by kernel_rfl) (by kernel_rfl) env6_ok

-- spec.trGood
noncomputable def f33 (k : Nat) (l : List (Int × Int)) (sides : Int) : Option (Bool) :=
  (f60 k sides 1 3).bind fun r0 =>
  bif r0 then
    (f60 k (↑(List.length l) : Int) 1 200).bind fun r1 =>
    bif r1 then
      (f62 k l sides 0 0).bind fun r2 =>
      some (decide (r2 = (↑(List.length l) : Int)))
    else
      some false
  else
    some false
noncomputable def s33 : Spec := ⟨false, [(.bool, false)], true, .bool, fun k xs => match xs with | [.slc 57 (.pair (.int .i64) (.int .i64)) l, .int .i64 sides] => f33 k l sides | _ => none, false, none, false⟩
noncomputable def env8 : List (FuncId × Spec) := (33, s33) :: env7
theorem v33 (k : Nat) (l : List (Int × Int)) (sides : Int) : runFn ti (envOf env7) 20 [] (finT ti true Go.Proofs.Try.f33.results.toList [(.bool, false)] (.bool)) k (bodyOf Go.Proofs.Try.f33) (initS 0 [.slc 57 (.pair (.int .i64) (.int .i64)) l, .int .i64 sides]) = f33 k l sides := by kernel_rfl
theorem m33 : Meets Go.Proofs.Try.prog 33 s33 := meets_of_run tiOk env7_ok mo Go.Proofs.Try.func33 (body := bodyOf Go.Proofs.Try.f33) (by kernel_rfl) (N := 20) (by kernel_rfl) (hs := []) (by
  intro k xs r h
  unfold s33 at h
  dsimp only at h
  split at h
  · exact ⟨Nat.le_of_ble_eq_true rfl, (v33 k _ _).trans h⟩
  · cases h)
theorem env8_ok : EnvOk Go.Proofs.Try.prog (envOf env8) := envOf_cons m33 Go.Proofs.Try.func33 (by kernel_rfl) (by kernel_rfl) env7_ok

-- spec.l1Own
noncomputable def f63 (k : Nat) (l : List (Int)) : Option (List (Int)) :=
  bif decide (((0 : Nat) + List.length l) * 8 ≤ 140737488355328) then
    some ([] ++ l)
  else
    none
noncomputable def s63 : Spec := ⟨false, [(.slice 3 (.int .i64), false)], true, .slice 3 (.int .i64), fun k xs => match xs with | [.slc 3 (.int .i64) l] => f63 k l | _ => none, false, none, false⟩
noncomputable def env9 : List (FuncId × Spec) := (63, s63) :: env8
theorem v63 (k : Nat) (l : List (Int)) : runFn ti (envOf env8) 6 [] (finT ti true Go.Proofs.Try.f63.results.toList [(.slice 3 (.int .i64), false)] (.slice 3 (.int .i64))) k (bodyOf Go.Proofs.Try.f63) (initS 0 [.slc 3 (.int .i64) l]) = f63 k l := by kernel_rfl
theorem m63 : Meets Go.Proofs.Try.prog 63 s63 := meets_of_run tiOk env8_ok mo Go.Proofs.Try.func63 (body := bodyOf Go.Proofs.Try.f63) (by kernel_rfl) (N := 6) (by kernel_rfl) (hs := []) (by
  intro k xs r h
  unfold s63 at h
  dsimp only at h
  split at h
  · exact ⟨Nat.le_of_ble_eq_true rfl, (v63 k _).trans h⟩
  · cases h)
theorem env9_ok : EnvOk Go.Proofs.Try.prog (envOf env9) := envOf_cons m63 Go.Proofs.Try.func63 (by kernel_rfl) (by kernel_rfl) env8_ok

-- spec.bxFine
def h85 : Hints := [(1003, .lab [(1, .box 31 [.v, .frz 3 (Ty.int IntKind.i64), .frz 3 (Ty.int IntKind.i64)]), (4, .one (.own 3 (Ty.int IntKind.i64))), (5, .one (.own 3 (Ty.int IntKind.i64))), (9, .one (.frz 3 (Ty.int IntKind.i64))), (10, .one (.v)), (11, .one (.v))])]
noncomputable def F85_1003 (k : Nat) (rec1003 : Int → List Int → List Int → List Int → List Int → List Int → Int → Int → Option ((List (Int)) × List (Int))) (bs_0 : Int) (bs_1 : List Int) (bs_2 : List Int) (lows : List Int) (highs : List Int) (t9 : List Int) (t10 : Int) (t11 : Int) : Option ((List (Int)) × List (Int)) :=
  bif decide (t11 < t10) then
    bif boundA t11 (List.length t9) then
      bif decide ((List.length lows + List.length [IntKind.wrap IntKind.i64 (2 * List.getD t9 (Int.toNat t11) 0)]) * 8 ≤ 140737488355328) then
        bif boundA t11 (List.length bs_2) then
          bif decide ((List.length highs + List.length [IntKind.wrap IntKind.i64 (2 * List.getD bs_2 (Int.toNat t11) 0)]) * 8 ≤ 140737488355328) then
            rec1003 bs_0 bs_1 bs_2 (lows ++ [IntKind.wrap IntKind.i64 (2 * List.getD t9 (Int.toNat t11) 0)]) (highs ++ [IntKind.wrap IntKind.i64 (2 * List.getD bs_2 (Int.toNat t11) 0)]) t9 t10 (IntKind.wrap IntKind.i64 (t11 + 1))
          else
            none
        else
          none
      else
        none
    else
      none
  else
    some ((lows, highs))
noncomputable def F85 (k : Nat) (rec1003 : Int → List Int → List Int → List Int → List Int → List Int → Int → Int → Option ((List (Int)) × List (Int))) (b_K : Int) (b_Low : List (Int)) (b_High : List (Int)) : Option ((List (Int)) × List (Int)) :=
  rec1003 b_K b_Low b_High ([]) ([]) b_Low ((↑(List.length b_Low) : Int)) (0)
noncomputable def l85 : Nat → (Int → List Int → List Int → List Int → List Int → List Int → Int → Int → Option ((List (Int)) × List (Int)))
  | 0 => fun _ _ _ _ _ _ _ _ => none
  | k + 1 => F85_1003 k (l85 k)
noncomputable def f85 (k : Nat) (b_K : Int) (b_Low : List (Int)) (b_High : List (Int)) : Option ((List (Int)) × List (Int)) := F85 k (l85 k) b_K b_Low b_High
noncomputable def s85 : Spec := ⟨false, [(.slice 3 (.int .i64), false), (.slice 3 (.int .i64), false)], true, .pair (.slice 3 (.int .i64)) (.slice 3 (.int .i64)), fun k xs => match xs with | [.agg [.int .i64 b_K, .slc 3 (.int .i64) b_Low, .slc 3 (.int .i64) b_High]] => f85 k b_K b_Low b_High | _ => none, false, none, false⟩
noncomputable def env10 : List (FuncId × Spec) := (85, s85) :: env9
noncomputable abbrev x85 := exec ti (envOf env9) 33 h85 (finT ti true Go.Proofs.Try.f85.results.toList [(.slice 3 (.int .i64), false), (.slice 3 (.int .i64), false)] (.pair (.slice 3 (.int .i64)) (.slice 3 (.int .i64))))
noncomputable def k85_1003 : List It := stackAt [.r, .r, .l, .r, .b, .lb none] (bodyOf Go.Proofs.Try.f85) []
def t85_1003 (bs_0 : Int) (bs_1 : List Int) (bs_2 : List Int) (lows : List Int) (highs : List Int) (t9 : List Int) (t10 : Int) (t11 : Int) : St := [(2, Cell.val (AVal.ptr 33 0)), (33, Cell.mem true 31 [AVal.int IntKind.i64 bs_0, AVal.slc 3 (Ty.int IntKind.i64) bs_1, AVal.slc 3 (Ty.int IntKind.i64) bs_2]), (8, Cell.val (AVal.ref 35 none)), (35, Cell.row true 3 (Ty.int IntKind.i64) lows), (10, Cell.val (AVal.ref 37 none)), (37, Cell.row true 3 (Ty.int IntKind.i64) highs), (18, Cell.val (AVal.slc 3 (Ty.int IntKind.i64) t9)), (20, Cell.val (AVal.int IntKind.i64 t10)), (22, Cell.val (AVal.int IntKind.i64 t11))]
theorem e85_1003 (k : Nat) (bs_0 : Int) (bs_1 : List Int) (bs_2 : List Int) (lows : List Int) (highs : List Int) (t9 : List Int) (t10 : Int) (t11 : Int) : x85 (k + 1) k85_1003 (t85_1003 bs_0 bs_1 bs_2 lows highs t9 t10 t11) = F85_1003 k (fun (bs_0 : Int) (bs_1 : List Int) (bs_2 : List Int) (lows : List Int) (highs : List Int) (t9 : List Int) (t10 : Int) (t11 : Int) => x85 k k85_1003 (t85_1003 bs_0 bs_1 bs_2 lows highs t9 t10 t11)) bs_0 bs_1 bs_2 lows highs t9 t10 t11 := by kernel_rfl
theorem q85 : ∀ k : Nat, (fun (bs_0 : Int) (bs_1 : List Int) (bs_2 : List Int) (lows : List Int) (highs : List Int) (t9 : List Int) (t10 : Int) (t11 : Int) => x85 k k85_1003 (t85_1003 bs_0 bs_1 bs_2 lows highs t9 t10 t11)) = l85 k
  | 0 => rfl
  | k + 1 => by
    have h := q85 k
    show _ = F85_1003 k (l85 k)
    rw [← h]
    exact (funext fun bs_0 => funext fun bs_1 => funext fun bs_2 => funext fun lows => funext fun highs => funext fun t9 => funext fun t10 => funext fun t11 => e85_1003 k bs_0 bs_1 bs_2 lows highs t9 t10 t11)
theorem w85 (k : Nat) (b_K : Int) (b_Low : List (Int)) (b_High : List (Int)) : runFn ti (envOf env9) 33 h85 (finT ti true Go.Proofs.Try.f85.results.toList [(.slice 3 (.int .i64), false), (.slice 3 (.int .i64), false)] (.pair (.slice 3 (.int .i64)) (.slice 3 (.int .i64)))) k (bodyOf Go.Proofs.Try.f85) (initS 0 [.agg [.int .i64 b_K, .slc 3 (.int .i64) b_Low, .slc 3 (.int .i64) b_High]]) = F85 k (fun (bs_0 : Int) (bs_1 : List Int) (bs_2 : List Int) (lows : List Int) (highs : List Int) (t9 : List Int) (t10 : Int) (t11 : Int) => x85 k k85_1003 (t85_1003 bs_0 bs_1 bs_2 lows highs t9 t10 t11)) b_K b_Low b_High := by kernel_rfl
theorem v85 (k : Nat) (b_K : Int) (b_Low : List (Int)) (b_High : List (Int)) : runFn ti (envOf env9) 33 h85 (finT ti true Go.Proofs.Try.f85.results.toList [(.slice 3 (.int .i64), false), (.slice 3 (.int .i64), false)] (.pair (.slice 3 (.int .i64)) (.slice 3 (.int .i64)))) k (bodyOf Go.Proofs.Try.f85) (initS 0 [.agg [.int .i64 b_K, .slc 3 (.int .i64) b_Low, .slc 3 (.int .i64) b_High]]) = f85 k b_K b_Low b_High := by
  rw [w85]
  have h := q85 k
  unfold f85
  rw [← h]
theorem m85 : Meets Go.Proofs.Try.prog 85 s85 := meets_of_run tiOk env9_ok mo Go.Proofs.Try.func85 (body := bodyOf Go.Proofs.Try.f85) (by kernel_rfl) (N := 33) (by kernel_rfl) (hs := h85) (by
  intro k xs r h
  unfold s85 at h
  dsimp only at h
  split at h
  · exact ⟨Nat.le_of_ble_eq_true rfl, (v85 k _ _ _).trans h⟩
  · cases h)
theorem env10_ok : EnvOk Go.Proofs.Try.prog (envOf env10) := envOf_cons m85 Go.Proofs.Try.func85 (by kernel_rfl) (by kernel_rfl) env9_ok

-- spec.bxEven
def h95 : Hints := [(1002, .lab [(1, .box 31 [.v, .frz 3 (Ty.int IntKind.i64), .frz 3 (Ty.int IntKind.i64)]), (6, .one (.frz 3 (Ty.int IntKind.i64))), (7, .one (.v)), (8, .one (.v))])]
noncomputable def F95_1002 (k : Nat) (rec1002 : Int → List Int → List Int → List Int → Int → Int → Option (Bool)) (bs_0 : Int) (bs_1 : List Int) (bs_2 : List Int) (t6 : List Int) (t7 : Int) (t8 : Int) : Option (Bool) :=
  bif decide (t8 < t7) then
    bif boundA t8 (List.length t6) then
      bif !decide (Int.tmod (List.getD t6 (Int.toNat t8) 0) 2 = 0) then
        some false
      else
        bif boundA t8 (List.length bs_2) then
          bif !decide (Int.tmod (List.getD bs_2 (Int.toNat t8) 0) 2 = 0) then
            some false
          else
            rec1002 bs_0 bs_1 bs_2 t6 t7 (IntKind.wrap IntKind.i64 (t8 + 1))
        else
          none
    else
      none
  else
    some true
noncomputable def F95 (k : Nat) (rec1002 : Int → List Int → List Int → List Int → Int → Int → Option (Bool)) (b_K : Int) (b_Low : List (Int)) (b_High : List (Int)) : Option (Bool) :=
  rec1002 b_K b_Low b_High b_Low ((↑(List.length b_Low) : Int)) (0)
noncomputable def l95 : Nat → (Int → List Int → List Int → List Int → Int → Int → Option (Bool))
  | 0 => fun _ _ _ _ _ _ => none
  | k + 1 => F95_1002 k (l95 k)
noncomputable def f95 (k : Nat) (b_K : Int) (b_Low : List (Int)) (b_High : List (Int)) : Option (Bool) := F95 k (l95 k) b_K b_Low b_High
noncomputable def s95 : Spec := ⟨false, [(.bool, false)], true, .bool, fun k xs => match xs with | [.agg [.int .i64 b_K, .slc 3 (.int .i64) b_Low, .slc 3 (.int .i64) b_High]] => f95 k b_K b_Low b_High | _ => none, false, none, false⟩
noncomputable def env11 : List (FuncId × Spec) := (95, s95) :: env10
noncomputable abbrev x95 := exec ti (envOf env10) 26 h95 (finT ti true Go.Proofs.Try.f95.results.toList [(.bool, false)] (.bool))
noncomputable def k95_1002 : List It := stackAt [.r, .l, .r, .b, .lb none] (bodyOf Go.Proofs.Try.f95) []
def t95_1002 (bs_0 : Int) (bs_1 : List Int) (bs_2 : List Int) (t6 : List Int) (t7 : Int) (t8 : Int) : St := [(2, Cell.val (AVal.ptr 33 0)), (33, Cell.mem true 31 [AVal.int IntKind.i64 bs_0, AVal.slc 3 (Ty.int IntKind.i64) bs_1, AVal.slc 3 (Ty.int IntKind.i64) bs_2]), (12, Cell.val (AVal.slc 3 (Ty.int IntKind.i64) t6)), (14, Cell.val (AVal.int IntKind.i64 t7)), (16, Cell.val (AVal.int IntKind.i64 t8))]
theorem e95_1002 (k : Nat) (bs_0 : Int) (bs_1 : List Int) (bs_2 : List Int) (t6 : List Int) (t7 : Int) (t8 : Int) : x95 (k + 1) k95_1002 (t95_1002 bs_0 bs_1 bs_2 t6 t7 t8) = F95_1002 k (fun (bs_0 : Int) (bs_1 : List Int) (bs_2 : List Int) (t6 : List Int) (t7 : Int) (t8 : Int) => x95 k k95_1002 (t95_1002 bs_0 bs_1 bs_2 t6 t7 t8)) bs_0 bs_1 bs_2 t6 t7 t8 := by kernel_rfl
theorem q95 : ∀ k : Nat, (fun (bs_0 : Int) (bs_1 : List Int) (bs_2 : List Int) (t6 : List Int) (t7 : Int) (t8 : Int) => x95 k k95_1002 (t95_1002 bs_0 bs_1 bs_2 t6 t7 t8)) = l95 k
  | 0 => rfl
  | k + 1 => by
    have h := q95 k
    show _ = F95_1002 k (l95 k)
    rw [← h]
    exact (funext fun bs_0 => funext fun bs_1 => funext fun bs_2 => funext fun t6 => funext fun t7 => funext fun t8 => e95_1002 k bs_0 bs_1 bs_2 t6 t7 t8)
theorem w95 (k : Nat) (b_K : Int) (b_Low : List (Int)) (b_High : List (Int)) : runFn ti (envOf env10) 26 h95 (finT ti true Go.Proofs.Try.f95.results.toList [(.bool, false)] (.bool)) k (bodyOf Go.Proofs.Try.f95) (initS 0 [.agg [.int .i64 b_K, .slc 3 (.int .i64) b_Low, .slc 3 (.int .i64) b_High]]) = F95 k (fun (bs_0 : Int) (bs_1 : List Int) (bs_2 : List Int) (t6 : List Int) (t7 : Int) (t8 : Int) => x95 k k95_1002 (t95_1002 bs_0 bs_1 bs_2 t6 t7 t8)) b_K b_Low b_High := by kernel_rfl
theorem v95 (k : Nat) (b_K : Int) (b_Low : List (Int)) (b_High : List (Int)) : runFn ti (envOf env10) 26 h95 (finT ti true Go.Proofs.Try.f95.results.toList [(.bool, false)] (.bool)) k (bodyOf Go.Proofs.Try.f95) (initS 0 [.agg [.int .i64 b_K, .slc 3 (.int .i64) b_Low, .slc 3 (.int .i64) b_High]]) = f95 k b_K b_Low b_High := by
  rw [w95]
  have h := q95 k
  unfold f95
  rw [← h]
theorem m95 : Meets Go.Proofs.Try.prog 95 s95 := meets_of_run tiOk env10_ok mo Go.Proofs.Try.func95 (body := bodyOf Go.Proofs.Try.f95) (by kernel_rfl) (N := 26) (by kernel_rfl) (hs := h95) (by
  intro k xs r h
  unfold s95 at h
  dsimp only at h
  split at h
  · exact ⟨Nat.le_of_ble_eq_true rfl, (v95 k _ _ _).trans h⟩
  · cases h)
theorem env11_ok : EnvOk Go.Proofs.Try.prog (envOf env11) := envOf_cons m95 Go.Proofs.Try.func95 (by kernel_rfl) (by kernel_rfl) env10_ok

-- spec.bxMake
def h86 : Hints := [(1002, .lab [(6, .box 31 [.v, .v, .v]), (8, .box 31 [.v, .own 3 (Ty.int IntKind.i64), .own 3 (Ty.int IntKind.i64)])]), (1005, .lab [(6, .box 31 [.v, .v, .v]), (8, .box 31 [.v, .own 3 (Ty.int IntKind.i64), .own 3 (Ty.int IntKind.i64)]), (29, .one (.v)), (30, .one (.v))])]
noncomputable def F86_1002 (k : Nat) (rec1002 : Int → Int → List Int → List Int → Option ((Int × (List (Int)) × List (Int)) × Bool)) (rec1005 : Int → Int → List Int → List Int → Int → Int → Option ((Int × (List (Int)) × List (Int)) × Bool)) (t6s_0 : Int) (outs_0 : Int) (outs : List Int) (outs' : List Int) : Option ((Int × (List (Int)) × List (Int)) × Bool) :=
  bif decide (0 < outs_0) then
    (f95 k outs_0 outs outs').bind fun r0 =>
    bif r0 then
      rec1005 t6s_0 (IntKind.wrap IntKind.i64 (outs_0 - 1)) outs outs' ((↑(List.length outs) : Int)) (0)
    else
      (f32 k outs_0 outs outs').bind fun r1 =>
      bif !r1 then
        some (((0, [], []), false))
      else
        some (((outs_0, outs, outs'), true))
  else
    (f32 k outs_0 outs outs').bind fun r2 =>
    bif !r2 then
      some (((0, [], []), false))
    else
      some (((outs_0, outs, outs'), true))
noncomputable def F86_1005 (k : Nat) (rec1002 : Int → Int → List Int → List Int → Option ((Int × (List (Int)) × List (Int)) × Bool)) (rec1005 : Int → Int → List Int → List Int → Int → Int → Option ((Int × (List (Int)) × List (Int)) × Bool)) (t6s_0 : Int) (outs_0 : Int) (outs : List Int) (outs' : List Int) (t29 : Int) (t30 : Int) : Option ((Int × (List (Int)) × List (Int)) × Bool) :=
  bif decide (t30 < t29) then
    bif boundA t30 (List.length outs) then
      bif Nat.blt (Int.toNat t30) (List.length outs) then
        bif boundA t30 (List.length outs) then
          bif Nat.blt (Int.toNat t30) (List.length outs) then
            bif boundA t30 (List.length outs') then
              bif Nat.blt (Int.toNat t30) (List.length outs') then
                bif boundA t30 (List.length outs') then
                  bif Nat.blt (Int.toNat t30) (List.length outs') then
                    rec1005 t6s_0 outs_0 (List.set outs (Int.toNat t30) (IntKind.wrap IntKind.i64 (Int.tdiv (List.getD outs (Int.toNat t30) 0) 2))) (List.set outs' (Int.toNat t30) (IntKind.wrap IntKind.i64 (Int.tdiv (List.getD outs' (Int.toNat t30) 0) 2))) t29 (IntKind.wrap IntKind.i64 (t30 + 1))
                  else
                    none
                else
                  none
              else
                none
            else
              none
          else
            none
        else
          none
      else
        none
    else
      none
  else
    rec1002 t6s_0 outs_0 outs outs'
noncomputable def F86 (k : Nat) (rec1002 : Int → Int → List Int → List Int → Option ((Int × (List (Int)) × List (Int)) × Bool)) (rec1005 : Int → Int → List Int → List Int → Int → Int → Option ((Int × (List (Int)) × List (Int)) × Bool)) (k_ : Int) (low : List (Int)) (high : List (Int)) : Option ((Int × (List (Int)) × List (Int)) × Bool) :=
  (f63 k low).bind fun r0 =>
  (f63 k high).bind fun r1 =>
  rec1002 (0) k_ r0 r1
noncomputable def l86 : Nat → (Int → Int → List Int → List Int → Option ((Int × (List (Int)) × List (Int)) × Bool)) × (Int → Int → List Int → List Int → Int → Int → Option ((Int × (List (Int)) × List (Int)) × Bool))
  | 0 => (fun _ _ _ _ => none, fun _ _ _ _ _ _ => none)
  | k + 1 => (F86_1002 k ((l86 k).1) ((l86 k).2), F86_1005 k ((l86 k).1) ((l86 k).2))
noncomputable def f86 (k : Nat) (k_ : Int) (low : List (Int)) (high : List (Int)) : Option ((Int × (List (Int)) × List (Int)) × Bool) := F86 k ((l86 k).1) ((l86 k).2) k_ low high
noncomputable def s86 : Spec := ⟨false, [(.pair (.int .i64) (.pair (.slice 3 (.int .i64)) (.slice 3 (.int .i64))), true), (.bool, false)], true, .pair (.pair (.int .i64) (.pair (.slice 3 (.int .i64)) (.slice 3 (.int .i64)))) (.bool), fun k xs => match xs with | [.int .i64 k_, .slc 3 (.int .i64) low, .slc 3 (.int .i64) high] => f86 k k_ low high | _ => none, false, none, false⟩
noncomputable def env12 : List (FuncId × Spec) := (86, s86) :: env11
noncomputable abbrev x86 := exec ti (envOf env11) 53 h86 (finT ti true Go.Proofs.Try.f86.results.toList [(.pair (.int .i64) (.pair (.slice 3 (.int .i64)) (.slice 3 (.int .i64))), true), (.bool, false)] (.pair (.pair (.int .i64) (.pair (.slice 3 (.int .i64)) (.slice 3 (.int .i64)))) (.bool)))
noncomputable def k86_1002 : List It := stackAt [.r, .r, .l, .b, .lb none] (bodyOf Go.Proofs.Try.f86) []
def t86_1002 (t6s_0 : Int) (outs_0 : Int) (outs : List Int) (outs' : List Int) : St := [(12, Cell.val (AVal.ptr 33 0)), (33, Cell.mem true 31 [AVal.int IntKind.i64 t6s_0, AVal.nilslc, AVal.nilslc]), (16, Cell.val (AVal.ptr 35 0)), (35, Cell.mem true 31 [AVal.int IntKind.i64 outs_0, AVal.ref 37 none, AVal.ref 39 none]), (37, Cell.row true 3 (Ty.int IntKind.i64) outs), (39, Cell.row true 3 (Ty.int IntKind.i64) outs')]
noncomputable def k86_1005 : List It := stackAt [.r, .r, .l, .b, .lb none, .r, .b, .r, .r, .b, .lb none] (bodyOf Go.Proofs.Try.f86) []
def t86_1005 (t6s_0 : Int) (outs_0 : Int) (outs : List Int) (outs' : List Int) (t29 : Int) (t30 : Int) : St := [(12, Cell.val (AVal.ptr 33 0)), (33, Cell.mem true 31 [AVal.int IntKind.i64 t6s_0, AVal.nilslc, AVal.nilslc]), (16, Cell.val (AVal.ptr 35 0)), (35, Cell.mem true 31 [AVal.int IntKind.i64 outs_0, AVal.ref 37 none, AVal.ref 39 none]), (37, Cell.row true 3 (Ty.int IntKind.i64) outs), (39, Cell.row true 3 (Ty.int IntKind.i64) outs'), (58, Cell.val (AVal.int IntKind.i64 t29)), (60, Cell.val (AVal.int IntKind.i64 t30))]
theorem e86_1002 (k : Nat) (t6s_0 : Int) (outs_0 : Int) (outs : List Int) (outs' : List Int) : x86 (k + 1) k86_1002 (t86_1002 t6s_0 outs_0 outs outs') = F86_1002 k (fun (t6s_0 : Int) (outs_0 : Int) (outs : List Int) (outs' : List Int) => x86 k k86_1002 (t86_1002 t6s_0 outs_0 outs outs')) (fun (t6s_0 : Int) (outs_0 : Int) (outs : List Int) (outs' : List Int) (t29 : Int) (t30 : Int) => x86 k k86_1005 (t86_1005 t6s_0 outs_0 outs outs' t29 t30)) t6s_0 outs_0 outs outs' := by kernel_rfl
theorem e86_1005 (k : Nat) (t6s_0 : Int) (outs_0 : Int) (outs : List Int) (outs' : List Int) (t29 : Int) (t30 : Int) : x86 (k + 1) k86_1005 (t86_1005 t6s_0 outs_0 outs outs' t29 t30) = F86_1005 k (fun (t6s_0 : Int) (outs_0 : Int) (outs : List Int) (outs' : List Int) => x86 k k86_1002 (t86_1002 t6s_0 outs_0 outs outs')) (fun (t6s_0 : Int) (outs_0 : Int) (outs : List Int) (outs' : List Int) (t29 : Int) (t30 : Int) => x86 k k86_1005 (t86_1005 t6s_0 outs_0 outs outs' t29 t30)) t6s_0 outs_0 outs outs' t29 t30 := by kernel_rfl
theorem q86 : ∀ k : Nat, ((fun (t6s_0 : Int) (outs_0 : Int) (outs : List Int) (outs' : List Int) => x86 k k86_1002 (t86_1002 t6s_0 outs_0 outs outs')), (fun (t6s_0 : Int) (outs_0 : Int) (outs : List Int) (outs' : List Int) (t29 : Int) (t30 : Int) => x86 k k86_1005 (t86_1005 t6s_0 outs_0 outs outs' t29 t30))) = l86 k
  | 0 => rfl
  | k + 1 => by
    have h := q86 k
    show _ = (F86_1002 k ((l86 k).1) ((l86 k).2), F86_1005 k ((l86 k).1) ((l86 k).2))
    rw [← h]
    exact (Prod.ext (funext fun t6s_0 => funext fun outs_0 => funext fun outs => funext fun outs' => e86_1002 k t6s_0 outs_0 outs outs') (funext fun t6s_0 => funext fun outs_0 => funext fun outs => funext fun outs' => funext fun t29 => funext fun t30 => e86_1005 k t6s_0 outs_0 outs outs' t29 t30))
theorem w86 (k : Nat) (k_ : Int) (low : List (Int)) (high : List (Int)) : runFn ti (envOf env11) 53 h86 (finT ti true Go.Proofs.Try.f86.results.toList [(.pair (.int .i64) (.pair (.slice 3 (.int .i64)) (.slice 3 (.int .i64))), true), (.bool, false)] (.pair (.pair (.int .i64) (.pair (.slice 3 (.int .i64)) (.slice 3 (.int .i64)))) (.bool))) k (bodyOf Go.Proofs.Try.f86) (initS 0 [.int .i64 k_, .slc 3 (.int .i64) low, .slc 3 (.int .i64) high]) = F86 k (fun (t6s_0 : Int) (outs_0 : Int) (outs : List Int) (outs' : List Int) => x86 k k86_1002 (t86_1002 t6s_0 outs_0 outs outs')) (fun (t6s_0 : Int) (outs_0 : Int) (outs : List Int) (outs' : List Int) (t29 : Int) (t30 : Int) => x86 k k86_1005 (t86_1005 t6s_0 outs_0 outs outs' t29 t30)) k_ low high := by kernel_rfl
theorem v86 (k : Nat) (k_ : Int) (low : List (Int)) (high : List (Int)) : runFn ti (envOf env11) 53 h86 (finT ti true Go.Proofs.Try.f86.results.toList [(.pair (.int .i64) (.pair (.slice 3 (.int .i64)) (.slice 3 (.int .i64))), true), (.bool, false)] (.pair (.pair (.int .i64) (.pair (.slice 3 (.int .i64)) (.slice 3 (.int .i64)))) (.bool))) k (bodyOf Go.Proofs.Try.f86) (initS 0 [.int .i64 k_, .slc 3 (.int .i64) low, .slc 3 (.int .i64) high]) = f86 k k_ low high := by
  rw [w86]
  have h := q86 k
  unfold f86
  rw [← h]
theorem m86 : Meets Go.Proofs.Try.prog 86 s86 := meets_of_run tiOk env11_ok mo Go.Proofs.Try.func86 (body := bodyOf Go.Proofs.Try.f86) (by kernel_rfl) (N := 53) (by kernel_rfl) (hs := h86) (by
  intro k xs r h
  unfold s86 at h
  dsimp only at h
  split at h
  · exact ⟨Nat.le_of_ble_eq_true rfl, (v86 k _ _ _).trans h⟩
  · cases h)
theorem env12_ok : EnvOk Go.Proofs.Try.prog (envOf env12) := envOf_cons m86 Go.Proofs.Try.func86 (by kernel_rfl) (by kernel_rfl) env11_ok

end Go.Proofs.YtchdegcfohegfaaE
