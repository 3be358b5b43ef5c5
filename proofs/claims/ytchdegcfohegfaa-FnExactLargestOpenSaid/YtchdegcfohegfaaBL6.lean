/- Functions, by the engine; printed. -/
import Derived.Test.YtchdegcfohegfaaBL5
set_option maxRecDepth 100000
set_option maxHeartbeats 4000000
set_option linter.unusedVariables false
namespace Go.Proofs.YtchdegcfohegfaaE
-- impl.boxesOfKind
def h51 : Hints := [(1004, .lab [(1, .one (.frz 57 (Ty.pair (Ty.int IntKind.i64) (Ty.int IntKind.i64)))), (2, .one (.v)), (7, .one (.deep true 31 (Ty.pair (Ty.int IntKind.i64) (Ty.pair (Ty.slice 3 (Ty.int IntKind.i64)) (Ty.slice 3 (Ty.int IntKind.i64)))))), (9, .one (.deep false 31 (Ty.pair (Ty.int IntKind.i64) (Ty.pair (Ty.slice 3 (Ty.int IntKind.i64)) (Ty.slice 3 (Ty.int IntKind.i64)))))), (19, .one (.own 3 (Ty.int IntKind.i64))), (20, .one (.v)), (21, .one (.v))])]
noncomputable def F51_1004 (k : Nat) (rec1004 : List (Int × Int) → Int → Nat → List (Int × List Int × List Int) → List (Int × List Int × List Int) → List Int → Int → Int → Option (List (Int × (List (Int)) × List (Int)))) (l : List (Int × Int)) (kind : Int) (boxess_k : Nat) (boxess : List (Int × List Int × List Int)) (outs : List (Int × List Int × List Int)) (t19s : List Int) (t20 : Int) (t21 : Int) : Option (List (Int × (List (Int)) × List (Int))) :=
  bif decide (t21 < t20) then
    bif boundA t21 (List.length t19s) then
      bif Nat.blt (Int.toNat t21) (List.length t19s) then
        bif boundA (List.getD t19s (Int.toNat t21) 0) (List.length l) then
          bif decide ((List.getD l (Int.toNat (List.getD t19s (Int.toNat t21) 0)) (0, 0)).fst = kind) then
            bif boundA t21 (List.length boxess) then
              bif Nat.blt (Int.toNat t21) (List.length boxess) then
                bif leK boxess_k (Int.toNat t21) then
                  bif decide ((List.length outs + List.length [((List.getD boxess (Int.toNat t21) (0, [], [])).fst, (List.getD boxess (Int.toNat t21) (0, [], [])).snd.fst, (List.getD boxess (Int.toNat t21) (0, [], [])).snd.snd)]) * 56 ≤ 140737488355328) then
                    rec1004 l kind (Int.toNat t21 + 1) boxess (outs ++ [((List.getD boxess (Int.toNat t21) (0, [], [])).fst, (List.getD boxess (Int.toNat t21) (0, [], [])).snd.fst, (List.getD boxess (Int.toNat t21) (0, [], [])).snd.snd)]) t19s t20 (IntKind.wrap IntKind.i64 (t21 + 1))
                  else
                    none
                else
                  none
              else
                none
            else
              none
          else
            rec1004 l kind boxess_k boxess outs t19s t20 (IntKind.wrap IntKind.i64 (t21 + 1))
        else
          none
      else
        none
    else
      none
  else
    some outs
noncomputable def F51 (k : Nat) (rec1004 : List (Int × Int) → Int → Nat → List (Int × List Int × List Int) → List (Int × List Int × List Int) → List Int → Int → Int → Option (List (Int × (List (Int)) × List (Int)))) (b : Int × (List (Int)) × List (Int)) (l : List (Int × Int)) (kind : Int) : Option (List (Int × (List (Int)) × List (Int))) :=
  (f41 k b l).bind fun r0 =>
  (f58 k l).bind fun r1 =>
  rec1004 l kind (0) (r0.fst) ([]) r1 ((↑(List.length r1) : Int)) (0)
noncomputable def l51 : Nat → (List (Int × Int) → Int → Nat → List (Int × List Int × List Int) → List (Int × List Int × List Int) → List Int → Int → Int → Option (List (Int × (List (Int)) × List (Int))))
  | 0 => fun _ _ _ _ _ _ _ _ => none
  | k + 1 => F51_1004 k (l51 k)
noncomputable def f51 (k : Nat) (b : Int × (List (Int)) × List (Int)) (l : List (Int × Int)) (kind : Int) : Option (List (Int × (List (Int)) × List (Int))) := F51 k (l51 k) b l kind
noncomputable def s51 : Spec := ⟨false, [(.slice 31 (.pair (.int .i64) (.pair (.slice 3 (.int .i64)) (.slice 3 (.int .i64)))), false)], true, .slice 31 (.pair (.int .i64) (.pair (.slice 3 (.int .i64)) (.slice 3 (.int .i64)))), fun k xs => match xs with | [.fptr (.pair (.int .i64) (.pair (.slice 3 (.int .i64)) (.slice 3 (.int .i64)))) b, .slc 57 (.pair (.int .i64) (.int .i64)) l, .int .i64 kind] => f51 k b l kind | _ => none, false, none, true⟩
noncomputable def env61 : List (FuncId × Spec) := (51, s51) :: env60
noncomputable abbrev x51 := exec ti (envOf env60) 42 h51 (finD ti Go.Proofs.Try.f51.results.toList [(.slice 31 (.pair (.int .i64) (.pair (.slice 3 (.int .i64)) (.slice 3 (.int .i64)))), false)] (.slice 31 (.pair (.int .i64) (.pair (.slice 3 (.int .i64)) (.slice 3 (.int .i64))))))
noncomputable def k51_1004 : List It := stackAt [.r, .r, .r, .l, .r, .b, .lb none] (bodyOf Go.Proofs.Try.f51) []
def t51_1004 (l : List (Int × Int)) (kind : Int) (boxess_k : Nat) (boxess : List (Int × List Int × List Int)) (outs : List (Int × List Int × List Int)) (t19s : List Int) (t20 : Int) (t21 : Int) : St := [(2, Cell.val (AVal.slc 57 (Ty.pair (Ty.int IntKind.i64) (Ty.int IntKind.i64)) l)), (4, Cell.val (AVal.int IntKind.i64 kind)), (14, Cell.val (AVal.ref 33 none)), (33, Cell.deep 31 (Ty.pair (Ty.int IntKind.i64) (Ty.pair (Ty.slice 3 (Ty.int IntKind.i64)) (Ty.slice 3 (Ty.int IntKind.i64)))) boxess_k boxess none), (18, Cell.val (AVal.ref 35 none)), (35, Cell.deep 31 (Ty.pair (Ty.int IntKind.i64) (Ty.pair (Ty.slice 3 (Ty.int IntKind.i64)) (Ty.slice 3 (Ty.int IntKind.i64)))) 0 outs none), (38, Cell.val (AVal.ref 37 none)), (37, Cell.row true 3 (Ty.int IntKind.i64) t19s), (40, Cell.val (AVal.int IntKind.i64 t20)), (42, Cell.val (AVal.int IntKind.i64 t21))]
theorem e51_1004 (k : Nat) (l : List (Int × Int)) (kind : Int) (boxess_k : Nat) (boxess : List (Int × List Int × List Int)) (outs : List (Int × List Int × List Int)) (t19s : List Int) (t20 : Int) (t21 : Int) : x51 (k + 1) k51_1004 (t51_1004 l kind boxess_k boxess outs t19s t20 t21) = F51_1004 k (fun (l : List (Int × Int)) (kind : Int) (boxess_k : Nat) (boxess : List (Int × List Int × List Int)) (outs : List (Int × List Int × List Int)) (t19s : List Int) (t20 : Int) (t21 : Int) => x51 k k51_1004 (t51_1004 l kind boxess_k boxess outs t19s t20 t21)) l kind boxess_k boxess outs t19s t20 t21 := by kernel_rfl
theorem q51 : ∀ k : Nat, (fun (l : List (Int × Int)) (kind : Int) (boxess_k : Nat) (boxess : List (Int × List Int × List Int)) (outs : List (Int × List Int × List Int)) (t19s : List Int) (t20 : Int) (t21 : Int) => x51 k k51_1004 (t51_1004 l kind boxess_k boxess outs t19s t20 t21)) = l51 k
  | 0 => rfl
  | k + 1 => by
    have h := q51 k
    show _ = F51_1004 k (l51 k)
    rw [← h]
    exact (funext fun l => funext fun kind => funext fun boxess_k => funext fun boxess => funext fun outs => funext fun t19s => funext fun t20 => funext fun t21 => e51_1004 k l kind boxess_k boxess outs t19s t20 t21)
theorem w51 (k : Nat) (b : Int × (List (Int)) × List (Int)) (l : List (Int × Int)) (kind : Int) : runFn ti (envOf env60) 42 h51 (finD ti Go.Proofs.Try.f51.results.toList [(.slice 31 (.pair (.int .i64) (.pair (.slice 3 (.int .i64)) (.slice 3 (.int .i64)))), false)] (.slice 31 (.pair (.int .i64) (.pair (.slice 3 (.int .i64)) (.slice 3 (.int .i64)))))) k (bodyOf Go.Proofs.Try.f51) (initS 0 [.fptr (.pair (.int .i64) (.pair (.slice 3 (.int .i64)) (.slice 3 (.int .i64)))) b, .slc 57 (.pair (.int .i64) (.int .i64)) l, .int .i64 kind]) = F51 k (fun (l : List (Int × Int)) (kind : Int) (boxess_k : Nat) (boxess : List (Int × List Int × List Int)) (outs : List (Int × List Int × List Int)) (t19s : List Int) (t20 : Int) (t21 : Int) => x51 k k51_1004 (t51_1004 l kind boxess_k boxess outs t19s t20 t21)) b l kind := by kernel_rfl
theorem v51 (k : Nat) (b : Int × (List (Int)) × List (Int)) (l : List (Int × Int)) (kind : Int) : runFn ti (envOf env60) 42 h51 (finD ti Go.Proofs.Try.f51.results.toList [(.slice 31 (.pair (.int .i64) (.pair (.slice 3 (.int .i64)) (.slice 3 (.int .i64)))), false)] (.slice 31 (.pair (.int .i64) (.pair (.slice 3 (.int .i64)) (.slice 3 (.int .i64)))))) k (bodyOf Go.Proofs.Try.f51) (initS 0 [.fptr (.pair (.int .i64) (.pair (.slice 3 (.int .i64)) (.slice 3 (.int .i64)))) b, .slc 57 (.pair (.int .i64) (.int .i64)) l, .int .i64 kind]) = f51 k b l kind := by
  rw [w51]
  have h := q51 k
  unfold f51
  rw [← h]
theorem m51 : Meets Go.Proofs.Try.prog 51 s51 := meets_deep_of_run tiOk env60_ok mo Go.Proofs.Try.func51 (body := bodyOf Go.Proofs.Try.f51) (by kernel_rfl) (N := 42) (by kernel_rfl) (hs := h51) (by
  intro k xs r h
  unfold s51 at h
  dsimp only at h
  split at h
  · exact ⟨Nat.le_of_ble_eq_true rfl, (v51 k _ _ _).trans h⟩
  · cases h)
theorem env61_ok : EnvOk Go.Proofs.Try.prog (envOf env61) := envOf_cons m51 Go.Proofs.Try.func51 (by kernel_rfl) (by kernel_rfl) env60_ok

-- impl.Box).length
noncomputable def f76 (k : Nat) (b : Int × (List (Int)) × List (Int)) (i : Int) : Option (Int) :=
  bif boundA i (List.length b.snd.snd) then
    bif boundA i (List.length b.snd.fst) then
      some (IntKind.wrap IntKind.i64 (List.getD b.snd.snd (Int.toNat i) 0 - List.getD b.snd.fst (Int.toNat i) 0))
    else
      none
  else
    none
noncomputable def s76 : Spec := ⟨false, [(.int .i64, false)], true, .int .i64, fun k xs => match xs with | [.fptr (.pair (.int .i64) (.pair (.slice 3 (.int .i64)) (.slice 3 (.int .i64)))) b, .int .i64 i] => f76 k b i | _ => none, false, none, false⟩
noncomputable def env62 : List (FuncId × Spec) := (76, s76) :: env61
theorem v76 (k : Nat) (b : Int × (List (Int)) × List (Int)) (i : Int) : runFn ti (envOf env61) 20 [] (finT ti true Go.Proofs.Try.f76.results.toList [(.int .i64, false)] (.int .i64)) k (bodyOf Go.Proofs.Try.f76) (initS 0 [.fptr (.pair (.int .i64) (.pair (.slice 3 (.int .i64)) (.slice 3 (.int .i64)))) b, .int .i64 i]) = f76 k b i := by kernel_rfl
theorem m76 : Meets Go.Proofs.Try.prog 76 s76 := meets_of_run tiOk env61_ok mo Go.Proofs.Try.func76 (body := bodyOf Go.Proofs.Try.f76) (by kernel_rfl) (N := 20) (by kernel_rfl) (hs := []) (by
  intro k xs r h
  unfold s76 at h
  dsimp only at h
  split at h
  · exact ⟨Nat.le_of_ble_eq_true rfl, (v76 k _ _).trans h⟩
  · cases h)
theorem env62_ok : EnvOk Go.Proofs.Try.prog (envOf env62) := envOf_cons m76 Go.Proofs.Try.func76 (by kernel_rfl) (by kernel_rfl) env61_ok

-- impl.size
noncomputable def f92 (k : Nat) (n : Int) : Option (Int) :=
  bif decide (n < 0) then
    some (IntKind.wrap IntKind.u64 (IntKind.wrap IntKind.i64 (0 - n)))
  else
    some (IntKind.wrap IntKind.u64 n)
noncomputable def s92 : Spec := ⟨false, [(.int .u64, false)], true, .int .u64, fun k xs => match xs with | [.int .i64 n] => f92 k n | _ => none, false, none, false⟩
noncomputable def env63 : List (FuncId × Spec) := (92, s92) :: env62
theorem v92 (k : Nat) (n : Int) : runFn ti (envOf env62) 10 [] (finT ti true Go.Proofs.Try.f92.results.toList [(.int .u64, false)] (.int .u64)) k (bodyOf Go.Proofs.Try.f92) (initS 0 [.int .i64 n]) = f92 k n := by kernel_rfl
theorem m92 : Meets Go.Proofs.Try.prog 92 s92 := meets_of_run tiOk env62_ok mo Go.Proofs.Try.func92 (body := bodyOf Go.Proofs.Try.f92) (by kernel_rfl) (N := 10) (by kernel_rfl) (hs := []) (by
  intro k xs r h
  unfold s92 at h
  dsimp only at h
  split at h
  · exact ⟨Nat.le_of_ble_eq_true rfl, (v92 k _).trans h⟩
  · cases h)
theorem env63_ok : EnvOk Go.Proofs.Try.prog (envOf env63) := envOf_cons m92 Go.Proofs.Try.func92 (by kernel_rfl) (by kernel_rfl) env62_ok

-- impl.wideOf
noncomputable def f77 (k : Nat) (n : Int) : Option (Bool × Int × Int) :=
  (f92 k n).bind fun r0 =>
  some ((decide (n < 0), 0, r0))
noncomputable def s77 : Spec := ⟨false, [(.pair (.bool) (.pair (.int .u64) (.int .u64)), true)], true, .pair (.bool) (.pair (.int .u64) (.int .u64)), fun k xs => match xs with | [.int .i64 n] => f77 k n | _ => none, false, none, false⟩
noncomputable def env64 : List (FuncId × Spec) := (77, s77) :: env63
theorem v77 (k : Nat) (n : Int) : runFn ti (envOf env63) 8 [] (finT ti true Go.Proofs.Try.f77.results.toList [(.pair (.bool) (.pair (.int .u64) (.int .u64)), true)] (.pair (.bool) (.pair (.int .u64) (.int .u64)))) k (bodyOf Go.Proofs.Try.f77) (initS 0 [.int .i64 n]) = f77 k n := by kernel_rfl
theorem m77 : Meets Go.Proofs.Try.prog 77 s77 := meets_of_run tiOk env63_ok mo Go.Proofs.Try.func77 (body := bodyOf Go.Proofs.Try.f77) (by kernel_rfl) (N := 8) (by kernel_rfl) (hs := []) (by
  intro k xs r h
  unfold s77 at h
  dsimp only at h
  split at h
  · exact ⟨Nat.le_of_ble_eq_true rfl, (v77 k _).trans h⟩
  · cases h)
theorem env64_ok : EnvOk Go.Proofs.Try.prog (envOf env64) := envOf_cons m77 Go.Proofs.Try.func77 (by kernel_rfl) (by kernel_rfl) env63_ok

-- impl.wide).shift
noncomputable def f80 (k : Nat) (w_negative : Bool) (w_high : Int) (w_low : Int) (k_ : Int) : Option (Bool × Int × Int) :=
  bif decide (0 ≤ k_) then
    bif decide (64 ≤ k_) then
      bif !decide (IntKind.wrap IntKind.i64 (k_ - 64) < 0) then
        some ((w_negative, IntKind.wrap IntKind.u64 (w_low * 2 ^ min (Int.toNat (IntKind.wrap IntKind.i64 (k_ - 64))) (IntKind.bits IntKind.u64)), 0))
      else
        none
    else
      bif !decide (k_ < 0) then
        bif !decide (IntKind.wrap IntKind.i64 (64 - k_) < 0) then
          bif !decide (k_ < 0) then
            some ((w_negative, IntKind.wrap IntKind.u64 (↑(BitVec.toNat (BitVec.ofInt (IntKind.bits IntKind.u64) (IntKind.wrap IntKind.u64 (w_high * 2 ^ min (Int.toNat k_) (IntKind.bits IntKind.u64))) ||| BitVec.ofInt (IntKind.bits IntKind.u64) (Int.fdiv w_low (2 ^ min (Int.toNat (IntKind.wrap IntKind.i64 (64 - k_))) (IntKind.bits IntKind.u64))))) : Int), IntKind.wrap IntKind.u64 (w_low * 2 ^ min (Int.toNat k_) (IntKind.bits IntKind.u64))))
          else
            none
        else
          none
      else
        none
  else
    bif decide (64 ≤ IntKind.wrap IntKind.i64 (0 - k_)) then
      bif !decide (IntKind.wrap IntKind.i64 (IntKind.wrap IntKind.i64 (0 - k_) - 64) < 0) then
        some ((w_negative, 0, Int.fdiv w_high (2 ^ min (Int.toNat (IntKind.wrap IntKind.i64 (IntKind.wrap IntKind.i64 (0 - k_) - 64))) (IntKind.bits IntKind.u64))))
      else
        none
    else
      bif !decide (IntKind.wrap IntKind.i64 (0 - k_) < 0) then
        bif !decide (IntKind.wrap IntKind.i64 (0 - k_) < 0) then
          bif !decide (IntKind.wrap IntKind.i64 (64 - IntKind.wrap IntKind.i64 (0 - k_)) < 0) then
            some ((w_negative, Int.fdiv w_high (2 ^ min (Int.toNat (IntKind.wrap IntKind.i64 (0 - k_))) (IntKind.bits IntKind.u64)), IntKind.wrap IntKind.u64 (↑(BitVec.toNat (BitVec.ofInt (IntKind.bits IntKind.u64) (Int.fdiv w_low (2 ^ min (Int.toNat (IntKind.wrap IntKind.i64 (0 - k_))) (IntKind.bits IntKind.u64))) ||| BitVec.ofInt (IntKind.bits IntKind.u64) (IntKind.wrap IntKind.u64 (w_high * 2 ^ min (Int.toNat (IntKind.wrap IntKind.i64 (64 - IntKind.wrap IntKind.i64 (0 - k_)))) (IntKind.bits IntKind.u64))))) : Int)))
          else
            none
        else
          none
      else
        none
noncomputable def s80 : Spec := ⟨false, [(.pair (.bool) (.pair (.int .u64) (.int .u64)), true)], true, .pair (.bool) (.pair (.int .u64) (.int .u64)), fun k xs => match xs with | [.agg [.bool w_negative, .int .u64 w_high, .int .u64 w_low], .int .i64 k_] => f80 k w_negative w_high w_low k_ | _ => none, false, none, false⟩
noncomputable def env65 : List (FuncId × Spec) := (80, s80) :: env64
theorem v80 (k : Nat) (w_negative : Bool) (w_high : Int) (w_low : Int) (k_ : Int) : runFn ti (envOf env64) 63 [] (finT ti true Go.Proofs.Try.f80.results.toList [(.pair (.bool) (.pair (.int .u64) (.int .u64)), true)] (.pair (.bool) (.pair (.int .u64) (.int .u64)))) k (bodyOf Go.Proofs.Try.f80) (initS 0 [.agg [.bool w_negative, .int .u64 w_high, .int .u64 w_low], .int .i64 k_]) = f80 k w_negative w_high w_low k_ := by kernel_rfl
theorem m80 : Meets Go.Proofs.Try.prog 80 s80 := meets_of_run tiOk env64_ok mo Go.Proofs.Try.func80 (body := bodyOf Go.Proofs.Try.f80) (by kernel_rfl) (N := 63) (by kernel_rfl) (hs := []) (by
  intro k xs r h
  unfold s80 at h
  dsimp only at h
  split at h
  · exact ⟨Nat.le_of_ble_eq_true rfl, (v80 k _ _ _ _).trans h⟩
  · cases h)
theorem env65_ok : EnvOk Go.Proofs.Try.prog (envOf env65) := envOf_cons m80 Go.Proofs.Try.func80 (by kernel_rfl) (by kernel_rfl) env64_ok

-- impl.wide).isZero
noncomputable def f93 (k : Nat) (w_negative : Bool) (w_high : Int) (w_low : Int) : Option (Bool) :=
  bif decide (w_high = 0) then
    some (decide (w_low = 0))
  else
    some false
noncomputable def s93 : Spec := ⟨false, [(.bool, false)], true, .bool, fun k xs => match xs with | [.agg [.bool w_negative, .int .u64 w_high, .int .u64 w_low]] => f93 k w_negative w_high w_low | _ => none, false, none, false⟩
noncomputable def env66 : List (FuncId × Spec) := (93, s93) :: env65
theorem v93 (k : Nat) (w_negative : Bool) (w_high : Int) (w_low : Int) : runFn ti (envOf env65) 11 [] (finT ti true Go.Proofs.Try.f93.results.toList [(.bool, false)] (.bool)) k (bodyOf Go.Proofs.Try.f93) (initS 0 [.agg [.bool w_negative, .int .u64 w_high, .int .u64 w_low]]) = f93 k w_negative w_high w_low := by kernel_rfl
theorem m93 : Meets Go.Proofs.Try.prog 93 s93 := meets_of_run tiOk env65_ok mo Go.Proofs.Try.func93 (body := bodyOf Go.Proofs.Try.f93) (by kernel_rfl) (N := 11) (by kernel_rfl) (hs := []) (by
  intro k xs r h
  unfold s93 at h
  dsimp only at h
  split at h
  · exact ⟨Nat.le_of_ble_eq_true rfl, (v93 k _ _ _).trans h⟩
  · cases h)
theorem env66_ok : EnvOk Go.Proofs.Try.prog (envOf env66) := envOf_cons m93 Go.Proofs.Try.func93 (by kernel_rfl) (by kernel_rfl) env65_ok

-- impl.wide).fit
def h78 : Hints := [(1003, .lab [(1, .one (.v)), (2, .box 93 [.v, .v, .v]), (4, .box 71 [.v, .v])])]
noncomputable def F78_1003 (k : Nat) (rec1003 : Int → Bool → Int → Int → Int → Int → Option ((Int × Int) × Bool)) (k_ : Int) (ws_0 : Bool) (ws_1 : Int) (ws_2 : Int) (t4s_0 : Int) (t4s_1 : Int) : Option ((Int × Int) × Bool) :=
  bif decide (0 < k_) then
    bif decide (Int.tmod ws_2 2 = 0) then
      rec1003 (IntKind.wrap IntKind.i64 (k_ - 1)) ws_0 (Int.fdiv ws_1 (2 ^ min (Int.toNat (IntKind.wrap IntKind.i64 (0 - -1))) (IntKind.bits IntKind.u64))) (IntKind.wrap IntKind.u64 (↑(BitVec.toNat (BitVec.ofInt (IntKind.bits IntKind.u64) (Int.fdiv ws_2 (2 ^ min (Int.toNat (IntKind.wrap IntKind.i64 (0 - -1))) (IntKind.bits IntKind.u64))) ||| BitVec.ofInt (IntKind.bits IntKind.u64) (IntKind.wrap IntKind.u64 (ws_1 * 2 ^ min (Int.toNat (IntKind.wrap IntKind.i64 (64 - IntKind.wrap IntKind.i64 (0 - -1)))) (IntKind.bits IntKind.u64))))) : Int)) t4s_0 t4s_1
    else
      bif decide (24 < k_) then
        some (((0, 0), false))
      else
        bif decide (0 < ws_1) then
          some (((0, 0), false))
        else
          bif decide (1099511627776 < ws_2) then
            some (((0, 0), false))
          else
            bif ws_0 then
              some (((IntKind.wrap IntKind.i64 (0 - IntKind.wrap IntKind.i64 ws_2), k_), true))
            else
              some (((IntKind.wrap IntKind.i64 ws_2, k_), true))
  else
    bif decide (24 < k_) then
      some (((0, 0), false))
    else
      bif decide (0 < ws_1) then
        some (((0, 0), false))
      else
        bif decide (1099511627776 < ws_2) then
          some (((0, 0), false))
        else
          bif ws_0 then
            some (((IntKind.wrap IntKind.i64 (0 - IntKind.wrap IntKind.i64 ws_2), k_), true))
          else
            some (((IntKind.wrap IntKind.i64 ws_2, k_), true))
noncomputable def F78 (k : Nat) (rec1003 : Int → Bool → Int → Int → Int → Int → Option ((Int × Int) × Bool)) (w_negative : Bool) (w_high : Int) (w_low : Int) (k_ : Int) : Option ((Int × Int) × Bool) :=
  (f93 k w_negative w_high w_low).bind fun r0 =>
  bif r0 then
    some (((0, 0), true))
  else
    rec1003 k_ w_negative w_high w_low (0) (0)
noncomputable def l78 : Nat → (Int → Bool → Int → Int → Int → Int → Option ((Int × Int) × Bool))
  | 0 => fun _ _ _ _ _ _ => none
  | k + 1 => F78_1003 k (l78 k)
noncomputable def f78 (k : Nat) (w_negative : Bool) (w_high : Int) (w_low : Int) (k_ : Int) : Option ((Int × Int) × Bool) := F78 k (l78 k) w_negative w_high w_low k_
noncomputable def s78 : Spec := ⟨false, [(.pair (.int .i64) (.int .i64), true), (.bool, false)], true, .pair (.pair (.int .i64) (.int .i64)) (.bool), fun k xs => match xs with | [.agg [.bool w_negative, .int .u64 w_high, .int .u64 w_low], .int .i64 k_] => f78 k w_negative w_high w_low k_ | _ => none, false, none, false⟩
noncomputable def env67 : List (FuncId × Spec) := (78, s78) :: env66
noncomputable abbrev x78 := exec ti (envOf env66) 45 h78 (finT ti true Go.Proofs.Try.f78.results.toList [(.pair (.int .i64) (.int .i64), true), (.bool, false)] (.pair (.pair (.int .i64) (.int .i64)) (.bool)))
noncomputable def k78_1003 : List It := stackAt [.r, .r, .l, .b, .lb none] (bodyOf Go.Proofs.Try.f78) []
def t78_1003 (k_ : Int) (ws_0 : Bool) (ws_1 : Int) (ws_2 : Int) (t4s_0 : Int) (t4s_1 : Int) : St := [(2, Cell.val (AVal.int IntKind.i64 k_)), (4, Cell.val (AVal.ptr 33 0)), (33, Cell.mem true 93 [AVal.bool ws_0, AVal.int IntKind.u64 ws_1, AVal.int IntKind.u64 ws_2]), (8, Cell.val (AVal.ptr 35 0)), (35, Cell.mem true 71 [AVal.int IntKind.i64 t4s_0, AVal.int IntKind.i64 t4s_1])]
theorem e78_1003 (k : Nat) (k_ : Int) (ws_0 : Bool) (ws_1 : Int) (ws_2 : Int) (t4s_0 : Int) (t4s_1 : Int) : x78 (k + 1) k78_1003 (t78_1003 k_ ws_0 ws_1 ws_2 t4s_0 t4s_1) = F78_1003 k (fun (k_ : Int) (ws_0 : Bool) (ws_1 : Int) (ws_2 : Int) (t4s_0 : Int) (t4s_1 : Int) => x78 k k78_1003 (t78_1003 k_ ws_0 ws_1 ws_2 t4s_0 t4s_1)) k_ ws_0 ws_1 ws_2 t4s_0 t4s_1 := by kernel_rfl
theorem q78 : ∀ k : Nat, (fun (k_ : Int) (ws_0 : Bool) (ws_1 : Int) (ws_2 : Int) (t4s_0 : Int) (t4s_1 : Int) => x78 k k78_1003 (t78_1003 k_ ws_0 ws_1 ws_2 t4s_0 t4s_1)) = l78 k
  | 0 => rfl
  | k + 1 => by
    have h := q78 k
    show _ = F78_1003 k (l78 k)
    rw [← h]
    exact (funext fun k_ => funext fun ws_0 => funext fun ws_1 => funext fun ws_2 => funext fun t4s_0 => funext fun t4s_1 => e78_1003 k k_ ws_0 ws_1 ws_2 t4s_0 t4s_1)
theorem w78 (k : Nat) (w_negative : Bool) (w_high : Int) (w_low : Int) (k_ : Int) : runFn ti (envOf env66) 45 h78 (finT ti true Go.Proofs.Try.f78.results.toList [(.pair (.int .i64) (.int .i64), true), (.bool, false)] (.pair (.pair (.int .i64) (.int .i64)) (.bool))) k (bodyOf Go.Proofs.Try.f78) (initS 0 [.agg [.bool w_negative, .int .u64 w_high, .int .u64 w_low], .int .i64 k_]) = F78 k (fun (k_ : Int) (ws_0 : Bool) (ws_1 : Int) (ws_2 : Int) (t4s_0 : Int) (t4s_1 : Int) => x78 k k78_1003 (t78_1003 k_ ws_0 ws_1 ws_2 t4s_0 t4s_1)) w_negative w_high w_low k_ := by kernel_rfl
theorem v78 (k : Nat) (w_negative : Bool) (w_high : Int) (w_low : Int) (k_ : Int) : runFn ti (envOf env66) 45 h78 (finT ti true Go.Proofs.Try.f78.results.toList [(.pair (.int .i64) (.int .i64), true), (.bool, false)] (.pair (.pair (.int .i64) (.int .i64)) (.bool))) k (bodyOf Go.Proofs.Try.f78) (initS 0 [.agg [.bool w_negative, .int .u64 w_high, .int .u64 w_low], .int .i64 k_]) = f78 k w_negative w_high w_low k_ := by
  rw [w78]
  have h := q78 k
  unfold f78
  rw [← h]
theorem m78 : Meets Go.Proofs.Try.prog 78 s78 := meets_of_run tiOk env66_ok mo Go.Proofs.Try.func78 (body := bodyOf Go.Proofs.Try.f78) (by kernel_rfl) (N := 45) (by kernel_rfl) (hs := h78) (by
  intro k xs r h
  unfold s78 at h
  dsimp only at h
  split at h
  · exact ⟨Nat.le_of_ble_eq_true rfl, (v78 k _ _ _ _).trans h⟩
  · cases h)
theorem env67_ok : EnvOk Go.Proofs.Try.prog (envOf env67) := envOf_cons m78 Go.Proofs.Try.func78 (by kernel_rfl) (by kernel_rfl) env66_ok

-- impl.Box).volume
def h54 : Hints := [(1003, .lab [(0, .one (.v)), (2, .box 71 [.v, .v]), (4, .one (.v)), (10, .one (.v)), (11, .one (.v))])]
noncomputable def F54_1003 (k : Nat) (rec1003 : Int × List Int × List Int → Int → Int → Int → Int → Int → Option ((Int × Int) × Bool)) (b : Int × List Int × List Int) (t2s_0 : Int) (t2s_1 : Int) (n : Int) (t10 : Int) (t11 : Int) : Option ((Int × Int) × Bool) :=
  bif decide (t11 < t10) then
    (f76 k b t11).bind fun r0 =>
    rec1003 b t2s_0 t2s_1 (IntKind.wrap IntKind.i64 (n * r0)) t10 (IntKind.wrap IntKind.i64 (t11 + 1))
  else
    (f77 k n).bind fun r1 =>
    (f78 k r1.fst r1.snd.fst r1.snd.snd (IntKind.wrap IntKind.i64 (b.fst * (↑(List.length b.snd.fst) : Int)))).bind fun r2 =>
    some (((r2.fst.fst, r2.fst.snd), r2.snd))
noncomputable def F54 (k : Nat) (rec1003 : Int × List Int × List Int → Int → Int → Int → Int → Int → Option ((Int × Int) × Bool)) (b : Int × (List (Int)) × List (Int)) : Option ((Int × Int) × Bool) :=
  rec1003 b (0) (0) (1) ((↑(List.length b.snd.fst) : Int)) (0)
noncomputable def l54 : Nat → (Int × List Int × List Int → Int → Int → Int → Int → Int → Option ((Int × Int) × Bool))
  | 0 => fun _ _ _ _ _ _ => none
  | k + 1 => F54_1003 k (l54 k)
noncomputable def f54 (k : Nat) (b : Int × (List (Int)) × List (Int)) : Option ((Int × Int) × Bool) := F54 k (l54 k) b
noncomputable def s54 : Spec := ⟨false, [(.pair (.int .i64) (.int .i64), true), (.bool, false)], true, .pair (.pair (.int .i64) (.int .i64)) (.bool), fun k xs => match xs with | [.fptr (.pair (.int .i64) (.pair (.slice 3 (.int .i64)) (.slice 3 (.int .i64)))) b] => f54 k b | _ => none, false, none, false⟩
noncomputable def env68 : List (FuncId × Spec) := (54, s54) :: env67
noncomputable abbrev x54 := exec ti (envOf env67) 35 h54 (finT ti true Go.Proofs.Try.f54.results.toList [(.pair (.int .i64) (.int .i64), true), (.bool, false)] (.pair (.pair (.int .i64) (.int .i64)) (.bool)))
noncomputable def k54_1003 : List It := stackAt [.r, .r, .l, .r, .b, .lb none] (bodyOf Go.Proofs.Try.f54) []
def t54_1003 (b : Int × List Int × List Int) (t2s_0 : Int) (t2s_1 : Int) (n : Int) (t10 : Int) (t11 : Int) : St := [(0, Cell.val (AVal.fptr (Ty.pair (Ty.int IntKind.i64) (Ty.pair (Ty.slice 3 (Ty.int IntKind.i64)) (Ty.slice 3 (Ty.int IntKind.i64)))) b)), (4, Cell.val (AVal.ptr 33 0)), (33, Cell.mem true 71 [AVal.int IntKind.i64 t2s_0, AVal.int IntKind.i64 t2s_1]), (8, Cell.val (AVal.int IntKind.i64 n)), (20, Cell.val (AVal.int IntKind.i64 t10)), (22, Cell.val (AVal.int IntKind.i64 t11))]
theorem e54_1003 (k : Nat) (b : Int × List Int × List Int) (t2s_0 : Int) (t2s_1 : Int) (n : Int) (t10 : Int) (t11 : Int) : x54 (k + 1) k54_1003 (t54_1003 b t2s_0 t2s_1 n t10 t11) = F54_1003 k (fun (b : Int × List Int × List Int) (t2s_0 : Int) (t2s_1 : Int) (n : Int) (t10 : Int) (t11 : Int) => x54 k k54_1003 (t54_1003 b t2s_0 t2s_1 n t10 t11)) b t2s_0 t2s_1 n t10 t11 := by kernel_rfl
theorem q54 : ∀ k : Nat, (fun (b : Int × List Int × List Int) (t2s_0 : Int) (t2s_1 : Int) (n : Int) (t10 : Int) (t11 : Int) => x54 k k54_1003 (t54_1003 b t2s_0 t2s_1 n t10 t11)) = l54 k
  | 0 => rfl
  | k + 1 => by
    have h := q54 k
    show _ = F54_1003 k (l54 k)
    rw [← h]
    exact (funext fun b => funext fun t2s_0 => funext fun t2s_1 => funext fun n => funext fun t10 => funext fun t11 => e54_1003 k b t2s_0 t2s_1 n t10 t11)
theorem w54 (k : Nat) (b : Int × (List (Int)) × List (Int)) : runFn ti (envOf env67) 35 h54 (finT ti true Go.Proofs.Try.f54.results.toList [(.pair (.int .i64) (.int .i64), true), (.bool, false)] (.pair (.pair (.int .i64) (.int .i64)) (.bool))) k (bodyOf Go.Proofs.Try.f54) (initS 0 [.fptr (.pair (.int .i64) (.pair (.slice 3 (.int .i64)) (.slice 3 (.int .i64)))) b]) = F54 k (fun (b : Int × List Int × List Int) (t2s_0 : Int) (t2s_1 : Int) (n : Int) (t10 : Int) (t11 : Int) => x54 k k54_1003 (t54_1003 b t2s_0 t2s_1 n t10 t11)) b := by kernel_rfl
theorem v54 (k : Nat) (b : Int × (List (Int)) × List (Int)) : runFn ti (envOf env67) 35 h54 (finT ti true Go.Proofs.Try.f54.results.toList [(.pair (.int .i64) (.int .i64), true), (.bool, false)] (.pair (.pair (.int .i64) (.int .i64)) (.bool))) k (bodyOf Go.Proofs.Try.f54) (initS 0 [.fptr (.pair (.int .i64) (.pair (.slice 3 (.int .i64)) (.slice 3 (.int .i64)))) b]) = f54 k b := by
  rw [w54]
  have h := q54 k
  unfold f54
  rw [← h]
theorem m54 : Meets Go.Proofs.Try.prog 54 s54 := meets_of_run tiOk env67_ok mo Go.Proofs.Try.func54 (body := bodyOf Go.Proofs.Try.f54) (by kernel_rfl) (N := 35) (by kernel_rfl) (hs := h54) (by
  intro k xs r h
  unfold s54 at h
  dsimp only at h
  split at h
  · exact ⟨Nat.le_of_ble_eq_true rfl, (v54 k _).trans h⟩
  · cases h)
theorem env68_ok : EnvOk Go.Proofs.Try.prog (envOf env68) := envOf_cons m54 Go.Proofs.Try.func54 (by kernel_rfl) (by kernel_rfl) env67_ok

-- cmp.Or[int]
def h100 : Hints := [(1003, .lab [(3, .one (.v)), (6, .one (.frz 3 (Ty.int IntKind.i64))), (7, .one (.v)), (8, .one (.v))])]
noncomputable def F100_1003 (k : Nat) (rec1003 : Int → List Int → Int → Int → Option (Int)) (zero : Int) (t6 : List Int) (t7 : Int) (t8 : Int) : Option (Int) :=
  bif decide (t8 < t7) then
    bif boundA t8 (List.length t6) then
      bif !decide (List.getD t6 (Int.toNat t8) 0 = zero) then
        some (List.getD t6 (Int.toNat t8) 0)
      else
        rec1003 zero t6 t7 (IntKind.wrap IntKind.i64 (t8 + 1))
    else
      none
  else
    some zero
noncomputable def F100 (k : Nat) (rec1003 : Int → List Int → Int → Int → Option (Int)) (vals : List (Int)) : Option (Int) :=
  rec1003 (0) vals ((↑(List.length vals) : Int)) (0)
noncomputable def l100 : Nat → (Int → List Int → Int → Int → Option (Int))
  | 0 => fun _ _ _ _ => none
  | k + 1 => F100_1003 k (l100 k)
noncomputable def f100 (k : Nat) (vals : List (Int)) : Option (Int) := F100 k (l100 k) vals
noncomputable def s100 : Spec := ⟨false, [(.int .i64, false)], true, .int .i64, fun k xs => match xs with | [.slc 3 (.int .i64) vals] => f100 k vals | _ => none, false, none, false⟩
noncomputable def env69 : List (FuncId × Spec) := (100, s100) :: env68
noncomputable abbrev x100 := exec ti (envOf env68) 18 h100 (finT ti true Go.Proofs.Try.f100.results.toList [(.int .i64, false)] (.int .i64))
noncomputable def k100_1003 : List It := stackAt [.r, .r, .l, .r, .b, .lb none] (bodyOf Go.Proofs.Try.f100) []
def t100_1003 (zero : Int) (t6 : List Int) (t7 : Int) (t8 : Int) : St := [(6, Cell.val (AVal.int IntKind.i64 zero)), (12, Cell.val (AVal.slc 3 (Ty.int IntKind.i64) t6)), (14, Cell.val (AVal.int IntKind.i64 t7)), (16, Cell.val (AVal.int IntKind.i64 t8))]
theorem e100_1003 (k : Nat) (zero : Int) (t6 : List Int) (t7 : Int) (t8 : Int) : x100 (k + 1) k100_1003 (t100_1003 zero t6 t7 t8) = F100_1003 k (fun (zero : Int) (t6 : List Int) (t7 : Int) (t8 : Int) => x100 k k100_1003 (t100_1003 zero t6 t7 t8)) zero t6 t7 t8 := by kernel_rfl
theorem q100 : ∀ k : Nat, (fun (zero : Int) (t6 : List Int) (t7 : Int) (t8 : Int) => x100 k k100_1003 (t100_1003 zero t6 t7 t8)) = l100 k
  | 0 => rfl
  | k + 1 => by
    have h := q100 k
    show _ = F100_1003 k (l100 k)
    rw [← h]
    exact (funext fun zero => funext fun t6 => funext fun t7 => funext fun t8 => e100_1003 k zero t6 t7 t8)
theorem w100 (k : Nat) (vals : List (Int)) : runFn ti (envOf env68) 18 h100 (finT ti true Go.Proofs.Try.f100.results.toList [(.int .i64, false)] (.int .i64)) k (bodyOf Go.Proofs.Try.f100) (initS 0 [.slc 3 (.int .i64) vals]) = F100 k (fun (zero : Int) (t6 : List Int) (t7 : Int) (t8 : Int) => x100 k k100_1003 (t100_1003 zero t6 t7 t8)) vals := by kernel_rfl
theorem v100 (k : Nat) (vals : List (Int)) : runFn ti (envOf env68) 18 h100 (finT ti true Go.Proofs.Try.f100.results.toList [(.int .i64, false)] (.int .i64)) k (bodyOf Go.Proofs.Try.f100) (initS 0 [.slc 3 (.int .i64) vals]) = f100 k vals := by
  rw [w100]
  have h := q100 k
  unfold f100
  rw [← h]
theorem m100 : Meets Go.Proofs.Try.prog 100 s100 := meets_of_run tiOk env68_ok mo Go.Proofs.Try.func100 (body := bodyOf Go.Proofs.Try.f100) (by kernel_rfl) (N := 18) (by kernel_rfl) (hs := h100) (by
  intro k xs r h
  unfold s100 at h
  dsimp only at h
  split at h
  · exact ⟨Nat.le_of_ble_eq_true rfl, (v100 k _).trans h⟩
  · cases h)
theorem env69_ok : EnvOk Go.Proofs.Try.prog (envOf env69) := envOf_cons m100 Go.Proofs.Try.func100 (by kernel_rfl) (by kernel_rfl) env68_ok

-- cmp.isNaN[uint64]
noncomputable def f104 (k : Nat) (x : Int) : Option (Bool) :=
  some (!decide (x = x))
noncomputable def s104 : Spec := ⟨false, [(.bool, false)], true, .bool, fun k xs => match xs with | [.int .u64 x] => f104 k x | _ => none, false, none, false⟩
noncomputable def env70 : List (FuncId × Spec) := (104, s104) :: env69
theorem v104 (k : Nat) (x : Int) : runFn ti (envOf env69) 6 [] (finT ti true Go.Proofs.Try.f104.results.toList [(.bool, false)] (.bool)) k (bodyOf Go.Proofs.Try.f104) (initS 0 [.int .u64 x]) = f104 k x := by kernel_rfl
theorem m104 : Meets Go.Proofs.Try.prog 104 s104 := meets_of_run tiOk env69_ok mo Go.Proofs.Try.func104 (body := bodyOf Go.Proofs.Try.f104) (by kernel_rfl) (N := 6) (by kernel_rfl) (hs := []) (by
  intro k xs r h
  unfold s104 at h
  dsimp only at h
  split at h
  · exact ⟨Nat.le_of_ble_eq_true rfl, (v104 k _).trans h⟩
  · cases h)
theorem env70_ok : EnvOk Go.Proofs.Try.prog (envOf env70) := envOf_cons m104 Go.Proofs.Try.func104 (by kernel_rfl) (by kernel_rfl) env69_ok

-- cmp.Compare[uint64]
noncomputable def f101 (k : Nat) (x : Int) (y : Int) : Option (Int) :=
  bif !decide (x = x) then
    bif !decide (y = y) then
      some (0)
    else
      some (-1)
  else
    bif !decide (y = y) then
      some (1)
    else
      bif decide (x < y) then
        some (-1)
      else
        bif decide (y < x) then
          some (1)
        else
          some (0)
noncomputable def s101 : Spec := ⟨false, [(.int .i64, false)], true, .int .i64, fun k xs => match xs with | [.int .u64 x, .int .u64 y] => f101 k x y | _ => none, false, none, false⟩
noncomputable def env71 : List (FuncId × Spec) := (101, s101) :: env70
theorem v101 (k : Nat) (x : Int) (y : Int) : runFn ti (envOf env70) 20 [] (finT ti true Go.Proofs.Try.f101.results.toList [(.int .i64, false)] (.int .i64)) k (bodyOf Go.Proofs.Try.f101) (initS 0 [.int .u64 x, .int .u64 y]) = f101 k x y := by kernel_rfl
theorem m101 : Meets Go.Proofs.Try.prog 101 s101 := meets_of_run tiOk env70_ok mo Go.Proofs.Try.func101 (body := bodyOf Go.Proofs.Try.f101) (by kernel_rfl) (N := 20) (by kernel_rfl) (hs := []) (by
  intro k xs r h
  unfold s101 at h
  dsimp only at h
  split at h
  · exact ⟨Nat.le_of_ble_eq_true rfl, (v101 k _ _).trans h⟩
  · cases h)
theorem env71_ok : EnvOk Go.Proofs.Try.prog (envOf env71) := envOf_cons m101 Go.Proofs.Try.func101 (by kernel_rfl) (by kernel_rfl) env70_ok

-- impl.compareSizes
noncomputable def f94 (k : Nat) (a_negative : Bool) (a_high : Int) (a_low : Int) (b_negative : Bool) (b_high : Int) (b_low : Int) : Option (Int) :=
  (f101 k a_high b_high).bind fun r0 =>
  (f101 k a_low b_low).bind fun r1 =>
  (f100 k [r0, r1]).bind fun r2 =>
  some r2
noncomputable def s94 : Spec := ⟨false, [(.int .i64, false)], true, .int .i64, fun k xs => match xs with | [.agg [.bool a_negative, .int .u64 a_high, .int .u64 a_low], .agg [.bool b_negative, .int .u64 b_high, .int .u64 b_low]] => f94 k a_negative a_high a_low b_negative b_high b_low | _ => none, false, none, false⟩
noncomputable def env72 : List (FuncId × Spec) := (94, s94) :: env71
theorem v94 (k : Nat) (a_negative : Bool) (a_high : Int) (a_low : Int) (b_negative : Bool) (b_high : Int) (b_low : Int) : runFn ti (envOf env71) 17 [] (finT ti true Go.Proofs.Try.f94.results.toList [(.int .i64, false)] (.int .i64)) k (bodyOf Go.Proofs.Try.f94) (initS 0 [.agg [.bool a_negative, .int .u64 a_high, .int .u64 a_low], .agg [.bool b_negative, .int .u64 b_high, .int .u64 b_low]]) = f94 k a_negative a_high a_low b_negative b_high b_low := by kernel_rfl
theorem m94 : Meets Go.Proofs.Try.prog 94 s94 := meets_of_run tiOk env71_ok mo Go.Proofs.Try.func94 (body := bodyOf Go.Proofs.Try.f94) (by kernel_rfl) (N := 17) (by kernel_rfl) (hs := []) (by
  intro k xs r h
  unfold s94 at h
  dsimp only at h
  split at h
  · exact ⟨Nat.le_of_ble_eq_true rfl, (v94 k _ _ _ _ _ _).trans h⟩
  · cases h)
theorem env72_ok : EnvOk Go.Proofs.Try.prog (envOf env72) := envOf_cons m94 Go.Proofs.Try.func94 (by kernel_rfl) (by kernel_rfl) env71_ok

end Go.Proofs.YtchdegcfohegfaaE
