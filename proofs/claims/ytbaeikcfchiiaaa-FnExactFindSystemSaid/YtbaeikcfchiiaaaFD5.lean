/- Functions, by the engine; printed. -/
import Derived.Test.YtbaeikcfchiiaaaFD4
set_option maxRecDepth 100000
set_option maxHeartbeats 4000000
set_option linter.unusedVariables false
namespace Go.Proofs.YtbaeikcfchiiaaaE
-- impl.inside
def f128 (k : Nat) (n : Int) (low : Int) (high : Int) : Option (Bool) :=
  bif decide (low ≤ n) then
    some (decide (n ≤ high))
  else
    some false
def s128 : Spec := ⟨false, [(.bool, false)], true, .bool, fun k xs => match xs with | [.int .i64 n, .int .i64 low, .int .i64 high] => f128 k n low high | _ => none⟩
def env49 : List (FuncId × Spec) := (128, s128) :: env48
theorem v128 (k : Nat) (n : Int) (low : Int) (high : Int) : runFn ti (envOf env48) 15 [] (finT ti true Go.Proofs.Try.f128.results.toList [(.bool, false)] (.bool)) k (bodyOf Go.Proofs.Try.f128) (initS 0 [.int .i64 n, .int .i64 low, .int .i64 high]) = f128 k n low high := by kernel_rfl
theorem m128 : Meets Go.Proofs.Try.prog 128 s128 := meets_of_run tiOk env48_ok mo Go.Proofs.Try.func128 (body := bodyOf Go.Proofs.Try.f128) (by kernel_rfl) (N := 15) (by kernel_rfl) (hs := []) (by
  intro k xs r h
  unfold s128 at h
  dsimp only at h
  split at h
  · exact ⟨Nat.le_of_ble_eq_true rfl, (v128 k _ _ _).trans h⟩
  · cases h)
theorem env49_ok : EnvOk Go.Proofs.Try.prog (envOf env49) := envOf_cons m128 Go.Proofs.Try.func128 (by kernel_rfl) (by kernel_rfl) env48_ok

-- impl.isBox
def h158 : Hints := [(1005, .lab [(0, .one (.v)), (3, .one (.v)), (4, .one (.v)), (48, .one (.frz 3 (Ty.int IntKind.i64))), (49, .one (.v)), (50, .one (.v))])]
def F158_1005 (k : Nat) (rec1005 : Int × List Int × List Int → Int → Bool → List Int → Int → Int → Option (Bool)) (L : Int × List Int × List Int) (t : Int) (t4 : Bool) (t48 : List Int) (t49 : Int) (t50 : Int) : Option (Bool) :=
  bif decide (t50 < t49) then
    bif boundA t50 (List.length t48) then
      (f128 k (List.getD t48 (Int.toNat t50) 0) (IntKind.wrap IntKind.i64 (0 - t)) t).bind fun r0 =>
      bif !r0 then
        some false
      else
        bif boundA t50 (List.length L.snd.snd) then
          (f128 k (List.getD L.snd.snd (Int.toNat t50) 0) (IntKind.wrap IntKind.i64 (List.getD t48 (Int.toNat t50) 0 + 1)) t).bind fun r1 =>
          bif !r1 then
            some false
          else
            bif t4 then
              rec1005 L t true t48 t49 (IntKind.wrap IntKind.i64 (t50 + 1))
            else
              bif !decide (Int.tmod (List.getD t48 (Int.toNat t50) 0) 2 = 0) then
                rec1005 L t true t48 t49 (IntKind.wrap IntKind.i64 (t50 + 1))
              else
                bif boundA t50 (List.length L.snd.snd) then
                  rec1005 L t (!decide (Int.tmod (List.getD L.snd.snd (Int.toNat t50) 0) 2 = 0)) t48 t49 (IntKind.wrap IntKind.i64 (t50 + 1))
                else
                  none
        else
          none
    else
      none
  else
    some t4
def F158 (k : Nat) (rec1005 : Int × List Int × List Int → Int → Bool → List Int → Int → Int → Option (Bool)) (L : Int × (List (Int)) × List (Int)) : Option (Bool) :=
  (f128 k L.fst 0 8).bind fun r0 =>
  bif !r0 then
    some false
  else
    (f128 k (↑(List.length L.snd.fst) : Int) 1 3).bind fun r1 =>
    bif !r1 then
      some false
    else
      bif !decide ((↑(List.length L.snd.snd) : Int) = (↑(List.length L.snd.fst) : Int)) then
        some false
      else
        bif !decide (L.fst < 0) then
          rec1005 L (IntKind.wrap IntKind.i64 (8 * 2 ^ min (Int.toNat L.fst) (IntKind.bits IntKind.i64))) (decide (L.fst = 0)) (L.snd.fst) ((↑(List.length L.snd.fst) : Int)) (0)
        else
          none
def l158 : Nat → (Int × List Int × List Int → Int → Bool → List Int → Int → Int → Option (Bool))
  | 0 => fun _ _ _ _ _ _ => none
  | k + 1 => F158_1005 k (l158 k)
def f158 (k : Nat) (L : Int × (List (Int)) × List (Int)) : Option (Bool) := F158 k (l158 k) L
def s158 : Spec := ⟨false, [(.bool, false)], true, .bool, fun k xs => match xs with | [.fptr (.pair (.int .i64) (.pair (.slice 3 (.int .i64)) (.slice 3 (.int .i64)))) L] => f158 k L | _ => none⟩
def env50 : List (FuncId × Spec) := (158, s158) :: env49
noncomputable abbrev x158 := exec ti (envOf env49) 94 h158 (finT ti true Go.Proofs.Try.f158.results.toList [(.bool, false)] (.bool))
noncomputable def k158_1005 : List It := stackAt [.r, .r, .r, .l, .r, .b, .lb none] (bodyOf Go.Proofs.Try.f158) []
def t158_1005 (L : Int × List Int × List Int) (t : Int) (t4 : Bool) (t48 : List Int) (t49 : Int) (t50 : Int) : St := [(0, Cell.val (AVal.fptr (Ty.pair (Ty.int IntKind.i64) (Ty.pair (Ty.slice 3 (Ty.int IntKind.i64)) (Ty.slice 3 (Ty.int IntKind.i64)))) L)), (6, Cell.val (AVal.int IntKind.i64 t)), (8, Cell.val (AVal.bool t4)), (96, Cell.val (AVal.slc 3 (Ty.int IntKind.i64) t48)), (98, Cell.val (AVal.int IntKind.i64 t49)), (100, Cell.val (AVal.int IntKind.i64 t50))]
theorem e158_1005 (k : Nat) (L : Int × List Int × List Int) (t : Int) (t4 : Bool) (t48 : List Int) (t49 : Int) (t50 : Int) : x158 (k + 1) k158_1005 (t158_1005 L t t4 t48 t49 t50) = F158_1005 k (fun (L : Int × List Int × List Int) (t : Int) (t4 : Bool) (t48 : List Int) (t49 : Int) (t50 : Int) => x158 k k158_1005 (t158_1005 L t t4 t48 t49 t50)) L t t4 t48 t49 t50 := by kernel_rfl
theorem q158 : ∀ k : Nat, (fun (L : Int × List Int × List Int) (t : Int) (t4 : Bool) (t48 : List Int) (t49 : Int) (t50 : Int) => x158 k k158_1005 (t158_1005 L t t4 t48 t49 t50)) = l158 k
  | 0 => rfl
  | k + 1 => by
    have h := q158 k
    show _ = F158_1005 k (l158 k)
    rw [← h]
    exact (funext fun L => funext fun t => funext fun t4 => funext fun t48 => funext fun t49 => funext fun t50 => e158_1005 k L t t4 t48 t49 t50)
theorem w158 (k : Nat) (L : Int × (List (Int)) × List (Int)) : runFn ti (envOf env49) 94 h158 (finT ti true Go.Proofs.Try.f158.results.toList [(.bool, false)] (.bool)) k (bodyOf Go.Proofs.Try.f158) (initS 0 [.fptr (.pair (.int .i64) (.pair (.slice 3 (.int .i64)) (.slice 3 (.int .i64)))) L]) = F158 k (fun (L : Int × List Int × List Int) (t : Int) (t4 : Bool) (t48 : List Int) (t49 : Int) (t50 : Int) => x158 k k158_1005 (t158_1005 L t t4 t48 t49 t50)) L := by kernel_rfl
theorem v158 (k : Nat) (L : Int × (List (Int)) × List (Int)) : runFn ti (envOf env49) 94 h158 (finT ti true Go.Proofs.Try.f158.results.toList [(.bool, false)] (.bool)) k (bodyOf Go.Proofs.Try.f158) (initS 0 [.fptr (.pair (.int .i64) (.pair (.slice 3 (.int .i64)) (.slice 3 (.int .i64)))) L]) = f158 k L := by
  rw [w158]
  have h := q158 k
  unfold f158
  rw [← h]
theorem m158 : Meets Go.Proofs.Try.prog 158 s158 := meets_of_run tiOk env49_ok mo Go.Proofs.Try.func158 (body := bodyOf Go.Proofs.Try.f158) (by kernel_rfl) (N := 94) (by kernel_rfl) (hs := h158) (by
  intro k xs r h
  unfold s158 at h
  dsimp only at h
  split at h
  · exact ⟨Nat.le_of_ble_eq_true rfl, (v158 k _).trans h⟩
  · cases h)
theorem env50_ok : EnvOk Go.Proofs.Try.prog (envOf env50) := envOf_cons m158 Go.Proofs.Try.func158 (by kernel_rfl) (by kernel_rfl) env49_ok

-- impl.Term).degree
def f294 (k : Nat) (t_C : Int) (t_X : Int) (t_Y : Int) (t_Z : Int) : Option (Int) :=
  some (IntKind.wrap IntKind.i64 (IntKind.wrap IntKind.i64 (t_X + t_Y) + t_Z))
def s294 : Spec := ⟨false, [(.int .i64, false)], true, .int .i64, fun k xs => match xs with | [.agg [.int .i64 t_C, .int .i64 t_X, .int .i64 t_Y, .int .i64 t_Z]] => f294 k t_C t_X t_Y t_Z | _ => none⟩
def env51 : List (FuncId × Spec) := (294, s294) :: env50
theorem v294 (k : Nat) (t_C : Int) (t_X : Int) (t_Y : Int) (t_Z : Int) : runFn ti (envOf env50) 11 [] (finT ti true Go.Proofs.Try.f294.results.toList [(.int .i64, false)] (.int .i64)) k (bodyOf Go.Proofs.Try.f294) (initS 0 [.agg [.int .i64 t_C, .int .i64 t_X, .int .i64 t_Y, .int .i64 t_Z]]) = f294 k t_C t_X t_Y t_Z := by kernel_rfl
theorem m294 : Meets Go.Proofs.Try.prog 294 s294 := meets_of_run tiOk env50_ok mo Go.Proofs.Try.func294 (body := bodyOf Go.Proofs.Try.f294) (by kernel_rfl) (N := 11) (by kernel_rfl) (hs := []) (by
  intro k xs r h
  unfold s294 at h
  dsimp only at h
  split at h
  · exact ⟨Nat.le_of_ble_eq_true rfl, (v294 k _ _ _ _).trans h⟩
  · cases h)
theorem env51_ok : EnvOk Go.Proofs.Try.prog (envOf env51) := envOf_cons m294 Go.Proofs.Try.func294 (by kernel_rfl) (by kernel_rfl) env50_ok

-- impl.hasDegree
def f291 (k : Nat) (t_C : Int) (t_X : Int) (t_Y : Int) (t_Z : Int) : Option (Bool) :=
  (f128 k t_X 0 4).bind fun r0 =>
  bif r0 then
    (f128 k t_Y 0 4).bind fun r1 =>
    bif r1 then
      (f128 k t_Z 0 4).bind fun r2 =>
      bif r2 then
        some (decide (IntKind.wrap IntKind.i64 (IntKind.wrap IntKind.i64 (t_X + t_Y) + t_Z) ≤ 4))
      else
        some false
    else
      some false
  else
    some false
def s291 : Spec := ⟨false, [(.bool, false)], true, .bool, fun k xs => match xs with | [.agg [.int .i64 t_C, .int .i64 t_X, .int .i64 t_Y, .int .i64 t_Z]] => f291 k t_C t_X t_Y t_Z | _ => none⟩
def env52 : List (FuncId × Spec) := (291, s291) :: env51
theorem v291 (k : Nat) (t_C : Int) (t_X : Int) (t_Y : Int) (t_Z : Int) : runFn ti (envOf env51) 21 [] (finT ti true Go.Proofs.Try.f291.results.toList [(.bool, false)] (.bool)) k (bodyOf Go.Proofs.Try.f291) (initS 0 [.agg [.int .i64 t_C, .int .i64 t_X, .int .i64 t_Y, .int .i64 t_Z]]) = f291 k t_C t_X t_Y t_Z := by kernel_rfl
theorem m291 : Meets Go.Proofs.Try.prog 291 s291 := meets_of_run tiOk env51_ok mo Go.Proofs.Try.func291 (body := bodyOf Go.Proofs.Try.f291) (by kernel_rfl) (N := 21) (by kernel_rfl) (hs := []) (by
  intro k xs r h
  unfold s291 at h
  dsimp only at h
  split at h
  · exact ⟨Nat.le_of_ble_eq_true rfl, (v291 k _ _ _ _).trans h⟩
  · cases h)
theorem env52_ok : EnvOk Go.Proofs.Try.prog (envOf env52) := envOf_cons m291 Go.Proofs.Try.func291 (by kernel_rfl) (by kernel_rfl) env51_ok

-- cmp.isNaN[int]
def f267 (k : Nat) (x : Int) : Option (Bool) :=
  some (!decide (x = x))
def s267 : Spec := ⟨false, [(.bool, false)], true, .bool, fun k xs => match xs with | [.int .i64 x] => f267 k x | _ => none⟩
def env53 : List (FuncId × Spec) := (267, s267) :: env52
theorem v267 (k : Nat) (x : Int) : runFn ti (envOf env52) 6 [] (finT ti true Go.Proofs.Try.f267.results.toList [(.bool, false)] (.bool)) k (bodyOf Go.Proofs.Try.f267) (initS 0 [.int .i64 x]) = f267 k x := by kernel_rfl
theorem m267 : Meets Go.Proofs.Try.prog 267 s267 := meets_of_run tiOk env52_ok mo Go.Proofs.Try.func267 (body := bodyOf Go.Proofs.Try.f267) (by kernel_rfl) (N := 6) (by kernel_rfl) (hs := []) (by
  intro k xs r h
  unfold s267 at h
  dsimp only at h
  split at h
  · exact ⟨Nat.le_of_ble_eq_true rfl, (v267 k _).trans h⟩
  · cases h)
theorem env53_ok : EnvOk Go.Proofs.Try.prog (envOf env53) := envOf_cons m267 Go.Proofs.Try.func267 (by kernel_rfl) (by kernel_rfl) env52_ok

-- cmp.Compare[int]
def f223 (k : Nat) (x : Int) (y : Int) : Option (Int) :=
  bif !decide (x = x) then
    bif !decide (y = y) then
      some (0)
    else
      some (-1)
  else
    bif !decide (y = y) then
      some (1)
    else
      bif decide (x < y) then
        some (-1)
      else
        bif decide (y < x) then
          some (1)
        else
          some (0)
def s223 : Spec := ⟨false, [(.int .i64, false)], true, .int .i64, fun k xs => match xs with | [.int .i64 x, .int .i64 y] => f223 k x y | _ => none⟩
def env54 : List (FuncId × Spec) := (223, s223) :: env53
theorem v223 (k : Nat) (x : Int) (y : Int) : runFn ti (envOf env53) 20 [] (finT ti true Go.Proofs.Try.f223.results.toList [(.int .i64, false)] (.int .i64)) k (bodyOf Go.Proofs.Try.f223) (initS 0 [.int .i64 x, .int .i64 y]) = f223 k x y := by kernel_rfl
theorem m223 : Meets Go.Proofs.Try.prog 223 s223 := meets_of_run tiOk env53_ok mo Go.Proofs.Try.func223 (body := bodyOf Go.Proofs.Try.f223) (by kernel_rfl) (N := 20) (by kernel_rfl) (hs := []) (by
  intro k xs r h
  unfold s223 at h
  dsimp only at h
  split at h
  · exact ⟨Nat.le_of_ble_eq_true rfl, (v223 k _ _).trans h⟩
  · cases h)
theorem env54_ok : EnvOk Go.Proofs.Try.prog (envOf env54) := envOf_cons m223 Go.Proofs.Try.func223 (by kernel_rfl) (by kernel_rfl) env53_ok

-- cmp.Or[int]
def h275 : Hints := [(1003, .lab [(3, .one (.v)), (6, .one (.frz 3 (Ty.int IntKind.i64))), (7, .one (.v)), (8, .one (.v))])]
def F275_1003 (k : Nat) (rec1003 : Int → List Int → Int → Int → Option (Int)) (zero : Int) (t6 : List Int) (t7 : Int) (t8 : Int) : Option (Int) :=
  bif decide (t8 < t7) then
    bif boundA t8 (List.length t6) then
      bif !decide (List.getD t6 (Int.toNat t8) 0 = zero) then
        some (List.getD t6 (Int.toNat t8) 0)
      else
        rec1003 zero t6 t7 (IntKind.wrap IntKind.i64 (t8 + 1))
    else
      none
  else
    some zero
def F275 (k : Nat) (rec1003 : Int → List Int → Int → Int → Option (Int)) (vals : List (Int)) : Option (Int) :=
  rec1003 (0) vals ((↑(List.length vals) : Int)) (0)
def l275 : Nat → (Int → List Int → Int → Int → Option (Int))
  | 0 => fun _ _ _ _ => none
  | k + 1 => F275_1003 k (l275 k)
def f275 (k : Nat) (vals : List (Int)) : Option (Int) := F275 k (l275 k) vals
def s275 : Spec := ⟨false, [(.int .i64, false)], true, .int .i64, fun k xs => match xs with | [.slc 3 (.int .i64) vals] => f275 k vals | _ => none⟩
def env55 : List (FuncId × Spec) := (275, s275) :: env54
noncomputable abbrev x275 := exec ti (envOf env54) 18 h275 (finT ti true Go.Proofs.Try.f275.results.toList [(.int .i64, false)] (.int .i64))
noncomputable def k275_1003 : List It := stackAt [.r, .r, .l, .r, .b, .lb none] (bodyOf Go.Proofs.Try.f275) []
def t275_1003 (zero : Int) (t6 : List Int) (t7 : Int) (t8 : Int) : St := [(6, Cell.val (AVal.int IntKind.i64 zero)), (12, Cell.val (AVal.slc 3 (Ty.int IntKind.i64) t6)), (14, Cell.val (AVal.int IntKind.i64 t7)), (16, Cell.val (AVal.int IntKind.i64 t8))]
theorem e275_1003 (k : Nat) (zero : Int) (t6 : List Int) (t7 : Int) (t8 : Int) : x275 (k + 1) k275_1003 (t275_1003 zero t6 t7 t8) = F275_1003 k (fun (zero : Int) (t6 : List Int) (t7 : Int) (t8 : Int) => x275 k k275_1003 (t275_1003 zero t6 t7 t8)) zero t6 t7 t8 := by kernel_rfl
theorem q275 : ∀ k : Nat, (fun (zero : Int) (t6 : List Int) (t7 : Int) (t8 : Int) => x275 k k275_1003 (t275_1003 zero t6 t7 t8)) = l275 k
  | 0 => rfl
  | k + 1 => by
    have h := q275 k
    show _ = F275_1003 k (l275 k)
    rw [← h]
    exact (funext fun zero => funext fun t6 => funext fun t7 => funext fun t8 => e275_1003 k zero t6 t7 t8)
theorem w275 (k : Nat) (vals : List (Int)) : runFn ti (envOf env54) 18 h275 (finT ti true Go.Proofs.Try.f275.results.toList [(.int .i64, false)] (.int .i64)) k (bodyOf Go.Proofs.Try.f275) (initS 0 [.slc 3 (.int .i64) vals]) = F275 k (fun (zero : Int) (t6 : List Int) (t7 : Int) (t8 : Int) => x275 k k275_1003 (t275_1003 zero t6 t7 t8)) vals := by kernel_rfl
theorem v275 (k : Nat) (vals : List (Int)) : runFn ti (envOf env54) 18 h275 (finT ti true Go.Proofs.Try.f275.results.toList [(.int .i64, false)] (.int .i64)) k (bodyOf Go.Proofs.Try.f275) (initS 0 [.slc 3 (.int .i64) vals]) = f275 k vals := by
  rw [w275]
  have h := q275 k
  unfold f275
  rw [← h]
theorem m275 : Meets Go.Proofs.Try.prog 275 s275 := meets_of_run tiOk env54_ok mo Go.Proofs.Try.func275 (body := bodyOf Go.Proofs.Try.f275) (by kernel_rfl) (N := 18) (by kernel_rfl) (hs := h275) (by
  intro k xs r h
  unfold s275 at h
  dsimp only at h
  split at h
  · exact ⟨Nat.le_of_ble_eq_true rfl, (v275 k _).trans h⟩
  · cases h)
theorem env55_ok : EnvOk Go.Proofs.Try.prog (envOf env55) := envOf_cons m275 Go.Proofs.Try.func275 (by kernel_rfl) (by kernel_rfl) env54_ok

-- impl.compareTerms
def f292 (k : Nat) (a_C : Int) (a_X : Int) (a_Y : Int) (a_Z : Int) (b_C : Int) (b_X : Int) (b_Y : Int) (b_Z : Int) : Option (Int) :=
  (f223 k a_X b_X).bind fun r0 =>
  (f223 k a_Y b_Y).bind fun r1 =>
  (f223 k a_Z b_Z).bind fun r2 =>
  (f275 k [r0, r1, r2]).bind fun r3 =>
  some r3
def s292 : Spec := ⟨false, [(.int .i64, false)], true, .int .i64, fun k xs => match xs with | [.agg [.int .i64 a_C, .int .i64 a_X, .int .i64 a_Y, .int .i64 a_Z], .agg [.int .i64 b_C, .int .i64 b_X, .int .i64 b_Y, .int .i64 b_Z]] => f292 k a_C a_X a_Y a_Z b_C b_X b_Y b_Z | _ => none⟩
def env56 : List (FuncId × Spec) := (292, s292) :: env55
theorem v292 (k : Nat) (a_C : Int) (a_X : Int) (a_Y : Int) (a_Z : Int) (b_C : Int) (b_X : Int) (b_Y : Int) (b_Z : Int) : runFn ti (envOf env55) 22 [] (finT ti true Go.Proofs.Try.f292.results.toList [(.int .i64, false)] (.int .i64)) k (bodyOf Go.Proofs.Try.f292) (initS 0 [.agg [.int .i64 a_C, .int .i64 a_X, .int .i64 a_Y, .int .i64 a_Z], .agg [.int .i64 b_C, .int .i64 b_X, .int .i64 b_Y, .int .i64 b_Z]]) = f292 k a_C a_X a_Y a_Z b_C b_X b_Y b_Z := by kernel_rfl
theorem m292 : Meets Go.Proofs.Try.prog 292 s292 := meets_of_run tiOk env55_ok mo Go.Proofs.Try.func292 (body := bodyOf Go.Proofs.Try.f292) (by kernel_rfl) (N := 22) (by kernel_rfl) (hs := []) (by
  intro k xs r h
  unfold s292 at h
  dsimp only at h
  split at h
  · exact ⟨Nat.le_of_ble_eq_true rfl, (v292 k _ _ _ _ _ _ _ _).trans h⟩
  · cases h)
theorem env56_ok : EnvOk Go.Proofs.Try.prog (envOf env56) := envOf_cons m292 Go.Proofs.Try.func292 (by kernel_rfl) (by kernel_rfl) env55_ok

-- impl.isPoly
def h279 : Hints := [(1002, .lab [(0, .one (.frz 150 (Ty.pair (Ty.int IntKind.i64) (Ty.pair (Ty.int IntKind.i64) (Ty.pair (Ty.int IntKind.i64) (Ty.int IntKind.i64)))))), (5, .one (.frz 150 (Ty.pair (Ty.int IntKind.i64) (Ty.pair (Ty.int IntKind.i64) (Ty.pair (Ty.int IntKind.i64) (Ty.int IntKind.i64)))))), (6, .one (.v)), (7, .one (.v))])]
def F279_1002 (k : Nat) (rec1002 : List (Int × Int × Int × Int) → List (Int × Int × Int × Int) → Int → Int → Option (Bool)) (p : List (Int × Int × Int × Int)) (t5 : List (Int × Int × Int × Int)) (t6 : Int) (t7 : Int) : Option (Bool) :=
  bif decide (t7 < t6) then
    bif boundA t7 (List.length t5) then
      bif decide ((List.getD t5 (Int.toNat t7) (0, 0, 0, 0)).fst = 0) then
        some false
      else
        (f128 k (List.getD t5 (Int.toNat t7) (0, 0, 0, 0)).fst (-1000) 1000).bind fun r0 =>
        bif !r0 then
          some false
        else
          (f291 k (List.getD t5 (Int.toNat t7) (0, 0, 0, 0)).fst (List.getD t5 (Int.toNat t7) (0, 0, 0, 0)).snd.fst (List.getD t5 (Int.toNat t7) (0, 0, 0, 0)).snd.snd.fst (List.getD t5 (Int.toNat t7) (0, 0, 0, 0)).snd.snd.snd).bind fun r1 =>
          bif !r1 then
            some false
          else
            bif decide (0 < t7) then
              bif boundA (IntKind.wrap IntKind.i64 (t7 - 1)) (List.length p) then
                (f292 k (List.getD p (Int.toNat (IntKind.wrap IntKind.i64 (t7 - 1))) (0, 0, 0, 0)).fst (List.getD p (Int.toNat (IntKind.wrap IntKind.i64 (t7 - 1))) (0, 0, 0, 0)).snd.fst (List.getD p (Int.toNat (IntKind.wrap IntKind.i64 (t7 - 1))) (0, 0, 0, 0)).snd.snd.fst (List.getD p (Int.toNat (IntKind.wrap IntKind.i64 (t7 - 1))) (0, 0, 0, 0)).snd.snd.snd (List.getD t5 (Int.toNat t7) (0, 0, 0, 0)).fst (List.getD t5 (Int.toNat t7) (0, 0, 0, 0)).snd.fst (List.getD t5 (Int.toNat t7) (0, 0, 0, 0)).snd.snd.fst (List.getD t5 (Int.toNat t7) (0, 0, 0, 0)).snd.snd.snd).bind fun r2 =>
                bif decide (0 ≤ r2) then
                  some false
                else
                  rec1002 p t5 t6 (IntKind.wrap IntKind.i64 (t7 + 1))
              else
                none
            else
              rec1002 p t5 t6 (IntKind.wrap IntKind.i64 (t7 + 1))
    else
      none
  else
    some (decide ((↑(List.length p) : Int) ≤ 20))
def F279 (k : Nat) (rec1002 : List (Int × Int × Int × Int) → List (Int × Int × Int × Int) → Int → Int → Option (Bool)) (p : List (Int × Int × Int × Int)) : Option (Bool) :=
  rec1002 p p ((↑(List.length p) : Int)) (0)
def l279 : Nat → (List (Int × Int × Int × Int) → List (Int × Int × Int × Int) → Int → Int → Option (Bool))
  | 0 => fun _ _ _ _ => none
  | k + 1 => F279_1002 k (l279 k)
def f279 (k : Nat) (p : List (Int × Int × Int × Int)) : Option (Bool) := F279 k (l279 k) p
def s279 : Spec := ⟨false, [(.bool, false)], true, .bool, fun k xs => match xs with | [.slc 150 (.pair (.int .i64) (.pair (.int .i64) (.pair (.int .i64) (.int .i64)))) p] => f279 k p | _ => none⟩
def env57 : List (FuncId × Spec) := (279, s279) :: env56
noncomputable abbrev x279 := exec ti (envOf env56) 44 h279 (finT ti true Go.Proofs.Try.f279.results.toList [(.bool, false)] (.bool))
noncomputable def k279_1002 : List It := stackAt [.r, .l, .r, .b, .lb none] (bodyOf Go.Proofs.Try.f279) []
def t279_1002 (p : List (Int × Int × Int × Int)) (t5 : List (Int × Int × Int × Int)) (t6 : Int) (t7 : Int) : St := [(0, Cell.val (AVal.slc 150 (Ty.pair (Ty.int IntKind.i64) (Ty.pair (Ty.int IntKind.i64) (Ty.pair (Ty.int IntKind.i64) (Ty.int IntKind.i64)))) p)), (10, Cell.val (AVal.slc 150 (Ty.pair (Ty.int IntKind.i64) (Ty.pair (Ty.int IntKind.i64) (Ty.pair (Ty.int IntKind.i64) (Ty.int IntKind.i64)))) t5)), (12, Cell.val (AVal.int IntKind.i64 t6)), (14, Cell.val (AVal.int IntKind.i64 t7))]
theorem e279_1002 (k : Nat) (p : List (Int × Int × Int × Int)) (t5 : List (Int × Int × Int × Int)) (t6 : Int) (t7 : Int) : x279 (k + 1) k279_1002 (t279_1002 p t5 t6 t7) = F279_1002 k (fun (p : List (Int × Int × Int × Int)) (t5 : List (Int × Int × Int × Int)) (t6 : Int) (t7 : Int) => x279 k k279_1002 (t279_1002 p t5 t6 t7)) p t5 t6 t7 := by kernel_rfl
theorem q279 : ∀ k : Nat, (fun (p : List (Int × Int × Int × Int)) (t5 : List (Int × Int × Int × Int)) (t6 : Int) (t7 : Int) => x279 k k279_1002 (t279_1002 p t5 t6 t7)) = l279 k
  | 0 => rfl
  | k + 1 => by
    have h := q279 k
    show _ = F279_1002 k (l279 k)
    rw [← h]
    exact (funext fun p => funext fun t5 => funext fun t6 => funext fun t7 => e279_1002 k p t5 t6 t7)
theorem w279 (k : Nat) (p : List (Int × Int × Int × Int)) : runFn ti (envOf env56) 44 h279 (finT ti true Go.Proofs.Try.f279.results.toList [(.bool, false)] (.bool)) k (bodyOf Go.Proofs.Try.f279) (initS 0 [.slc 150 (.pair (.int .i64) (.pair (.int .i64) (.pair (.int .i64) (.int .i64)))) p]) = F279 k (fun (p : List (Int × Int × Int × Int)) (t5 : List (Int × Int × Int × Int)) (t6 : Int) (t7 : Int) => x279 k k279_1002 (t279_1002 p t5 t6 t7)) p := by kernel_rfl
theorem v279 (k : Nat) (p : List (Int × Int × Int × Int)) : runFn ti (envOf env56) 44 h279 (finT ti true Go.Proofs.Try.f279.results.toList [(.bool, false)] (.bool)) k (bodyOf Go.Proofs.Try.f279) (initS 0 [.slc 150 (.pair (.int .i64) (.pair (.int .i64) (.pair (.int .i64) (.int .i64)))) p]) = f279 k p := by
  rw [w279]
  have h := q279 k
  unfold f279
  rw [← h]
theorem m279 : Meets Go.Proofs.Try.prog 279 s279 := meets_of_run tiOk env56_ok mo Go.Proofs.Try.func279 (body := bodyOf Go.Proofs.Try.f279) (by kernel_rfl) (N := 44) (by kernel_rfl) (hs := h279) (by
  intro k xs r h
  unfold s279 at h
  dsimp only at h
  split at h
  · exact ⟨Nat.le_of_ble_eq_true rfl, (v279 k _).trans h⟩
  · cases h)
theorem env57_ok : EnvOk Go.Proofs.Try.prog (envOf env57) := envOf_cons m279 Go.Proofs.Try.func279 (by kernel_rfl) (by kernel_rfl) env56_ok

-- impl.Term).exponents
def f293 (k : Nat) (t_C : Int) (t_X : Int) (t_Y : Int) (t_Z : Int) : Option (Int × Int × Int) :=
  some ((t_X, t_Y, t_Z))
def s293 : Spec := ⟨false, [(.pair (.int .i64) (.pair (.int .i64) (.int .i64)), true)], true, .pair (.int .i64) (.pair (.int .i64) (.int .i64)), fun k xs => match xs with | [.agg [.int .i64 t_C, .int .i64 t_X, .int .i64 t_Y, .int .i64 t_Z]] => f293 k t_C t_X t_Y t_Z | _ => none⟩
def env58 : List (FuncId × Spec) := (293, s293) :: env57
theorem v293 (k : Nat) (t_C : Int) (t_X : Int) (t_Y : Int) (t_Z : Int) : runFn ti (envOf env57) 10 [] (finT ti true Go.Proofs.Try.f293.results.toList [(.pair (.int .i64) (.pair (.int .i64) (.int .i64)), true)] (.pair (.int .i64) (.pair (.int .i64) (.int .i64)))) k (bodyOf Go.Proofs.Try.f293) (initS 0 [.agg [.int .i64 t_C, .int .i64 t_X, .int .i64 t_Y, .int .i64 t_Z]]) = f293 k t_C t_X t_Y t_Z := by kernel_rfl
theorem m293 : Meets Go.Proofs.Try.prog 293 s293 := meets_of_run tiOk env57_ok mo Go.Proofs.Try.func293 (body := bodyOf Go.Proofs.Try.f293) (by kernel_rfl) (N := 10) (by kernel_rfl) (hs := []) (by
  intro k xs r h
  unfold s293 at h
  dsimp only at h
  split at h
  · exact ⟨Nat.le_of_ble_eq_true rfl, (v293 k _ _ _ _).trans h⟩
  · cases h)
theorem env58_ok : EnvOk Go.Proofs.Try.prog (envOf env58) := envOf_cons m293 Go.Proofs.Try.func293 (by kernel_rfl) (by kernel_rfl) env57_ok

-- impl.needsAtMost
def h280 : Hints := [(1002, .lab [(1, .one (.v)), (9, .one (.frz 150 (Ty.pair (Ty.int IntKind.i64) (Ty.pair (Ty.int IntKind.i64) (Ty.pair (Ty.int IntKind.i64) (Ty.int IntKind.i64)))))), (10, .one (.v)), (11, .one (.v))]), (1005, .lab [(1, .one (.v)), (9, .one (.frz 150 (Ty.pair (Ty.int IntKind.i64) (Ty.pair (Ty.int IntKind.i64) (Ty.pair (Ty.int IntKind.i64) (Ty.int IntKind.i64)))))), (10, .one (.v)), (11, .one (.v)), (16, .agg [.v, .v, .v]), (17, .one (.v))])]
def F280_1002 (k : Nat) (rec1002 : Int → List (Int × Int × Int × Int) → Int → Int → Option (Bool)) (rec1005 : Int → List (Int × Int × Int × Int) → Int → Int → Int → Int → Int → Int → Option (Bool)) (n : Int) (t9 : List (Int × Int × Int × Int)) (t10 : Int) (t11 : Int) : Option (Bool) :=
  bif decide (t11 < t10) then
    bif boundA t11 (List.length t9) then
      rec1005 n t9 t10 t11 ((List.getD t9 (Int.toNat t11) (0, 0, 0, 0)).snd.fst) ((List.getD t9 (Int.toNat t11) (0, 0, 0, 0)).snd.snd.fst) ((List.getD t9 (Int.toNat t11) (0, 0, 0, 0)).snd.snd.snd) (0)
    else
      none
  else
    some true
def F280_1005 (k : Nat) (rec1002 : Int → List (Int × Int × Int × Int) → Int → Int → Option (Bool)) (rec1005 : Int → List (Int × Int × Int × Int) → Int → Int → Int → Int → Int → Int → Option (Bool)) (n : Int) (t9 : List (Int × Int × Int × Int)) (t10 : Int) (t11 : Int) (t16_0 : Int) (t16_1 : Int) (t16_2 : Int) (t17 : Int) : Option (Bool) :=
  bif decide (t17 < 3) then
    bif boundA t17 (List.length [t16_0, t16_1, t16_2]) then
      bif decide (n ≤ t17) then
        bif decide (0 < List.getD [t16_0, t16_1, t16_2] (Int.toNat t17) 0) then
          some false
        else
          rec1005 n t9 t10 t11 t16_0 t16_1 t16_2 (IntKind.wrap IntKind.i64 (t17 + 1))
      else
        rec1005 n t9 t10 t11 t16_0 t16_1 t16_2 (IntKind.wrap IntKind.i64 (t17 + 1))
    else
      none
  else
    rec1002 n t9 t10 (IntKind.wrap IntKind.i64 (t11 + 1))
def F280 (k : Nat) (rec1002 : Int → List (Int × Int × Int × Int) → Int → Int → Option (Bool)) (rec1005 : Int → List (Int × Int × Int × Int) → Int → Int → Int → Int → Int → Int → Option (Bool)) (p : List (Int × Int × Int × Int)) (n : Int) : Option (Bool) :=
  rec1002 n p ((↑(List.length p) : Int)) (0)
def l280 : Nat → (Int → List (Int × Int × Int × Int) → Int → Int → Option (Bool)) × (Int → List (Int × Int × Int × Int) → Int → Int → Int → Int → Int → Int → Option (Bool))
  | 0 => (fun _ _ _ _ => none, fun _ _ _ _ _ _ _ _ => none)
  | k + 1 => (F280_1002 k ((l280 k).1) ((l280 k).2), F280_1005 k ((l280 k).1) ((l280 k).2))
def f280 (k : Nat) (p : List (Int × Int × Int × Int)) (n : Int) : Option (Bool) := F280 k ((l280 k).1) ((l280 k).2) p n
def s280 : Spec := ⟨false, [(.bool, false)], true, .bool, fun k xs => match xs with | [.slc 150 (.pair (.int .i64) (.pair (.int .i64) (.pair (.int .i64) (.int .i64)))) p, .int .i64 n] => f280 k p n | _ => none⟩
def env59 : List (FuncId × Spec) := (280, s280) :: env58
noncomputable abbrev x280 := exec ti (envOf env58) 30 h280 (finT ti true Go.Proofs.Try.f280.results.toList [(.bool, false)] (.bool))
noncomputable def k280_1002 : List It := stackAt [.r, .l, .r, .b, .lb none] (bodyOf Go.Proofs.Try.f280) []
def t280_1002 (n : Int) (t9 : List (Int × Int × Int × Int)) (t10 : Int) (t11 : Int) : St := [(2, Cell.val (AVal.int IntKind.i64 n)), (18, Cell.val (AVal.slc 150 (Ty.pair (Ty.int IntKind.i64) (Ty.pair (Ty.int IntKind.i64) (Ty.pair (Ty.int IntKind.i64) (Ty.int IntKind.i64)))) t9)), (20, Cell.val (AVal.int IntKind.i64 t10)), (22, Cell.val (AVal.int IntKind.i64 t11))]
noncomputable def k280_1005 : List It := stackAt [.r, .l, .r, .b, .lb none, .r, .r, .l, .b, .r, .r, .b, .lb none] (bodyOf Go.Proofs.Try.f280) []
def t280_1005 (n : Int) (t9 : List (Int × Int × Int × Int)) (t10 : Int) (t11 : Int) (t16_0 : Int) (t16_1 : Int) (t16_2 : Int) (t17 : Int) : St := [(2, Cell.val (AVal.int IntKind.i64 n)), (18, Cell.val (AVal.slc 150 (Ty.pair (Ty.int IntKind.i64) (Ty.pair (Ty.int IntKind.i64) (Ty.pair (Ty.int IntKind.i64) (Ty.int IntKind.i64)))) t9)), (20, Cell.val (AVal.int IntKind.i64 t10)), (22, Cell.val (AVal.int IntKind.i64 t11)), (32, Cell.val (AVal.agg [AVal.int IntKind.i64 t16_0, AVal.int IntKind.i64 t16_1, AVal.int IntKind.i64 t16_2])), (34, Cell.val (AVal.int IntKind.i64 t17))]
theorem e280_1002 (k : Nat) (n : Int) (t9 : List (Int × Int × Int × Int)) (t10 : Int) (t11 : Int) : x280 (k + 1) k280_1002 (t280_1002 n t9 t10 t11) = F280_1002 k (fun (n : Int) (t9 : List (Int × Int × Int × Int)) (t10 : Int) (t11 : Int) => x280 k k280_1002 (t280_1002 n t9 t10 t11)) (fun (n : Int) (t9 : List (Int × Int × Int × Int)) (t10 : Int) (t11 : Int) (t16_0 : Int) (t16_1 : Int) (t16_2 : Int) (t17 : Int) => x280 k k280_1005 (t280_1005 n t9 t10 t11 t16_0 t16_1 t16_2 t17)) n t9 t10 t11 := by kernel_rfl
theorem e280_1005 (k : Nat) (n : Int) (t9 : List (Int × Int × Int × Int)) (t10 : Int) (t11 : Int) (t16_0 : Int) (t16_1 : Int) (t16_2 : Int) (t17 : Int) : x280 (k + 1) k280_1005 (t280_1005 n t9 t10 t11 t16_0 t16_1 t16_2 t17) = F280_1005 k (fun (n : Int) (t9 : List (Int × Int × Int × Int)) (t10 : Int) (t11 : Int) => x280 k k280_1002 (t280_1002 n t9 t10 t11)) (fun (n : Int) (t9 : List (Int × Int × Int × Int)) (t10 : Int) (t11 : Int) (t16_0 : Int) (t16_1 : Int) (t16_2 : Int) (t17 : Int) => x280 k k280_1005 (t280_1005 n t9 t10 t11 t16_0 t16_1 t16_2 t17)) n t9 t10 t11 t16_0 t16_1 t16_2 t17 := by kernel_rfl
theorem q280 : ∀ k : Nat, ((fun (n : Int) (t9 : List (Int × Int × Int × Int)) (t10 : Int) (t11 : Int) => x280 k k280_1002 (t280_1002 n t9 t10 t11)), (fun (n : Int) (t9 : List (Int × Int × Int × Int)) (t10 : Int) (t11 : Int) (t16_0 : Int) (t16_1 : Int) (t16_2 : Int) (t17 : Int) => x280 k k280_1005 (t280_1005 n t9 t10 t11 t16_0 t16_1 t16_2 t17))) = l280 k
  | 0 => rfl
  | k + 1 => by
    have h := q280 k
    show _ = (F280_1002 k ((l280 k).1) ((l280 k).2), F280_1005 k ((l280 k).1) ((l280 k).2))
    rw [← h]
    exact (Prod.ext (funext fun n => funext fun t9 => funext fun t10 => funext fun t11 => e280_1002 k n t9 t10 t11) (funext fun n => funext fun t9 => funext fun t10 => funext fun t11 => funext fun t16_0 => funext fun t16_1 => funext fun t16_2 => funext fun t17 => e280_1005 k n t9 t10 t11 t16_0 t16_1 t16_2 t17))
theorem w280 (k : Nat) (p : List (Int × Int × Int × Int)) (n : Int) : runFn ti (envOf env58) 30 h280 (finT ti true Go.Proofs.Try.f280.results.toList [(.bool, false)] (.bool)) k (bodyOf Go.Proofs.Try.f280) (initS 0 [.slc 150 (.pair (.int .i64) (.pair (.int .i64) (.pair (.int .i64) (.int .i64)))) p, .int .i64 n]) = F280 k (fun (n : Int) (t9 : List (Int × Int × Int × Int)) (t10 : Int) (t11 : Int) => x280 k k280_1002 (t280_1002 n t9 t10 t11)) (fun (n : Int) (t9 : List (Int × Int × Int × Int)) (t10 : Int) (t11 : Int) (t16_0 : Int) (t16_1 : Int) (t16_2 : Int) (t17 : Int) => x280 k k280_1005 (t280_1005 n t9 t10 t11 t16_0 t16_1 t16_2 t17)) p n := by kernel_rfl
theorem v280 (k : Nat) (p : List (Int × Int × Int × Int)) (n : Int) : runFn ti (envOf env58) 30 h280 (finT ti true Go.Proofs.Try.f280.results.toList [(.bool, false)] (.bool)) k (bodyOf Go.Proofs.Try.f280) (initS 0 [.slc 150 (.pair (.int .i64) (.pair (.int .i64) (.pair (.int .i64) (.int .i64)))) p, .int .i64 n]) = f280 k p n := by
  rw [w280]
  have h := q280 k
  unfold f280
  rw [← h]
theorem m280 : Meets Go.Proofs.Try.prog 280 s280 := meets_of_run tiOk env58_ok mo Go.Proofs.Try.func280 (body := bodyOf Go.Proofs.Try.f280) (by kernel_rfl) (N := 30) (by kernel_rfl) (hs := h280) (by
  intro k xs r h
  unfold s280 at h
  dsimp only at h
  split at h
  · exact ⟨Nat.le_of_ble_eq_true rfl, (v280 k _ _).trans h⟩
  · cases h)
theorem env59_ok : EnvOk Go.Proofs.Try.prog (envOf env59) := envOf_cons m280 Go.Proofs.Try.func280 (by kernel_rfl) (by kernel_rfl) env58_ok

-- impl.isSystem
def h254 : Hints := [(1002, .lab [(0, .one (.frz 152 (Ty.slice 150 (Ty.pair (Ty.int IntKind.i64) (Ty.pair (Ty.int IntKind.i64) (Ty.pair (Ty.int IntKind.i64) (Ty.int IntKind.i64))))))), (5, .one (.frz 152 (Ty.slice 150 (Ty.pair (Ty.int IntKind.i64) (Ty.pair (Ty.int IntKind.i64) (Ty.pair (Ty.int IntKind.i64) (Ty.int IntKind.i64))))))), (6, .one (.v)), (7, .one (.v))])]
def F254_1002 (k : Nat) (rec1002 : List (List (Int × Int × Int × Int)) → List (List (Int × Int × Int × Int)) → Int → Int → Option (Bool)) (s : List (List (Int × Int × Int × Int))) (t5 : List (List (Int × Int × Int × Int))) (t6 : Int) (t7 : Int) : Option (Bool) :=
  bif decide (t7 < t6) then
    bif boundA t7 (List.length t5) then
      (f279 k (List.getD t5 (Int.toNat t7) [])).bind fun r0 =>
      bif !r0 then
        some false
      else
        (f280 k (List.getD t5 (Int.toNat t7) []) (↑(List.length s) : Int)).bind fun r1 =>
        bif !r1 then
          some false
        else
          rec1002 s t5 t6 (IntKind.wrap IntKind.i64 (t7 + 1))
    else
      none
  else
    (f128 k (↑(List.length s) : Int) 1 3).bind fun r2 =>
    some r2
def F254 (k : Nat) (rec1002 : List (List (Int × Int × Int × Int)) → List (List (Int × Int × Int × Int)) → Int → Int → Option (Bool)) (s : List (List (Int × Int × Int × Int))) : Option (Bool) :=
  rec1002 s s ((↑(List.length s) : Int)) (0)
def l254 : Nat → (List (List (Int × Int × Int × Int)) → List (List (Int × Int × Int × Int)) → Int → Int → Option (Bool))
  | 0 => fun _ _ _ _ => none
  | k + 1 => F254_1002 k (l254 k)
def f254 (k : Nat) (s : List (List (Int × Int × Int × Int))) : Option (Bool) := F254 k (l254 k) s
def s254 : Spec := ⟨false, [(.bool, false)], true, .bool, fun k xs => match xs with | [.slc 152 (.slice 150 (.pair (.int .i64) (.pair (.int .i64) (.pair (.int .i64) (.int .i64))))) s] => f254 k s | _ => none⟩
def env60 : List (FuncId × Spec) := (254, s254) :: env59
noncomputable abbrev x254 := exec ti (envOf env59) 25 h254 (finT ti true Go.Proofs.Try.f254.results.toList [(.bool, false)] (.bool))
noncomputable def k254_1002 : List It := stackAt [.r, .l, .r, .b, .lb none] (bodyOf Go.Proofs.Try.f254) []
def t254_1002 (s : List (List (Int × Int × Int × Int))) (t5 : List (List (Int × Int × Int × Int))) (t6 : Int) (t7 : Int) : St := [(0, Cell.val (AVal.slc 152 (Ty.slice 150 (Ty.pair (Ty.int IntKind.i64) (Ty.pair (Ty.int IntKind.i64) (Ty.pair (Ty.int IntKind.i64) (Ty.int IntKind.i64))))) s)), (10, Cell.val (AVal.slc 152 (Ty.slice 150 (Ty.pair (Ty.int IntKind.i64) (Ty.pair (Ty.int IntKind.i64) (Ty.pair (Ty.int IntKind.i64) (Ty.int IntKind.i64))))) t5)), (12, Cell.val (AVal.int IntKind.i64 t6)), (14, Cell.val (AVal.int IntKind.i64 t7))]
theorem e254_1002 (k : Nat) (s : List (List (Int × Int × Int × Int))) (t5 : List (List (Int × Int × Int × Int))) (t6 : Int) (t7 : Int) : x254 (k + 1) k254_1002 (t254_1002 s t5 t6 t7) = F254_1002 k (fun (s : List (List (Int × Int × Int × Int))) (t5 : List (List (Int × Int × Int × Int))) (t6 : Int) (t7 : Int) => x254 k k254_1002 (t254_1002 s t5 t6 t7)) s t5 t6 t7 := by kernel_rfl
theorem q254 : ∀ k : Nat, (fun (s : List (List (Int × Int × Int × Int))) (t5 : List (List (Int × Int × Int × Int))) (t6 : Int) (t7 : Int) => x254 k k254_1002 (t254_1002 s t5 t6 t7)) = l254 k
  | 0 => rfl
  | k + 1 => by
    have h := q254 k
    show _ = F254_1002 k (l254 k)
    rw [← h]
    exact (funext fun s => funext fun t5 => funext fun t6 => funext fun t7 => e254_1002 k s t5 t6 t7)
theorem w254 (k : Nat) (s : List (List (Int × Int × Int × Int))) : runFn ti (envOf env59) 25 h254 (finT ti true Go.Proofs.Try.f254.results.toList [(.bool, false)] (.bool)) k (bodyOf Go.Proofs.Try.f254) (initS 0 [.slc 152 (.slice 150 (.pair (.int .i64) (.pair (.int .i64) (.pair (.int .i64) (.int .i64))))) s]) = F254 k (fun (s : List (List (Int × Int × Int × Int))) (t5 : List (List (Int × Int × Int × Int))) (t6 : Int) (t7 : Int) => x254 k k254_1002 (t254_1002 s t5 t6 t7)) s := by kernel_rfl
theorem v254 (k : Nat) (s : List (List (Int × Int × Int × Int))) : runFn ti (envOf env59) 25 h254 (finT ti true Go.Proofs.Try.f254.results.toList [(.bool, false)] (.bool)) k (bodyOf Go.Proofs.Try.f254) (initS 0 [.slc 152 (.slice 150 (.pair (.int .i64) (.pair (.int .i64) (.pair (.int .i64) (.int .i64))))) s]) = f254 k s := by
  rw [w254]
  have h := q254 k
  unfold f254
  rw [← h]
theorem m254 : Meets Go.Proofs.Try.prog 254 s254 := meets_of_run tiOk env59_ok mo Go.Proofs.Try.func254 (body := bodyOf Go.Proofs.Try.f254) (by kernel_rfl) (N := 25) (by kernel_rfl) (hs := h254) (by
  intro k xs r h
  unfold s254 at h
  dsimp only at h
  split at h
  · exact ⟨Nat.le_of_ble_eq_true rfl, (v254 k _).trans h⟩
  · cases h)
theorem env60_ok : EnvOk Go.Proofs.Try.prog (envOf env60) := envOf_cons m254 Go.Proofs.Try.func254 (by kernel_rfl) (by kernel_rfl) env59_ok

end Go.Proofs.YtbaeikcfchiiaaaE
