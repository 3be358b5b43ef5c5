/- Functions, by the engine; printed. -/
import Derived.Test.YtkahcjnkmbbplaaCN8
set_option maxRecDepth 100000
set_option maxHeartbeats 4000000
set_option linter.unusedVariables false
namespace Go.Proofs.YtkahcjnkmbbplaaE
-- laws.eqDyadic
noncomputable def f62 (k : Nat) (a_N : Int) (a_K : Int) (b_N : Int) (b_K : Int) : Option (Bool) :=
  bif !decide (a_N = b_N) then
    some false
  else
    bif !decide (a_K = b_K) then
      some false
    else
      some true
noncomputable def s62 : Spec := ⟨false, [(.bool, false)], true, .bool, fun k xs => match xs with | [.agg [.int .i64 a_N, .int .i64 a_K], .agg [.int .i64 b_N, .int .i64 b_K]] => f62 k a_N a_K b_N b_K | _ => none, false, none⟩
noncomputable def env97 : List (FuncId × Spec) := (62, s62) :: env96
theorem v62 (k : Nat) (a_N : Int) (a_K : Int) (b_N : Int) (b_K : Int) : runFn ti (envOf env96) 15 [] (finT ti true Go.Proofs.Try.f62.results.toList [(.bool, false)] (.bool)) k (bodyOf Go.Proofs.Try.f62) (initS 0 [.agg [.int .i64 a_N, .int .i64 a_K], .agg [.int .i64 b_N, .int .i64 b_K]]) = f62 k a_N a_K b_N b_K := by kernel_rfl
theorem m62 : Meets Go.Proofs.Try.prog 62 s62 := meets_of_run tiOk env96_ok mo Go.Proofs.Try.func62 (body := bodyOf Go.Proofs.Try.f62) (by kernel_rfl) (N := 15) (by kernel_rfl) (hs := []) (by
  intro k xs r h
  unfold s62 at h
  dsimp only at h
  split at h
  · exact ⟨Nat.le_of_ble_eq_true rfl, (v62 k _ _ _ _).trans h⟩
  · cases h)
theorem env97_ok : EnvOk Go.Proofs.Try.prog (envOf env97) := envOf_cons m62 Go.Proofs.Try.func62 (by kernel_rfl) (by kernel_rfl) env96_ok

-- laws.eqDyadicS
def h29 : Hints := [(1004, .lab [(0, .one (.frz 68 (Ty.pair (Ty.int IntKind.i64) (Ty.int IntKind.i64)))), (1, .one (.frz 68 (Ty.pair (Ty.int IntKind.i64) (Ty.int IntKind.i64)))), (5, .one (.v))])]
noncomputable def F29_1004 (k : Nat) (rec1004 : List (Int × Int) → List (Int × Int) → Int → Option (Bool)) (a : List (Int × Int)) (b : List (Int × Int)) (i : Int) : Option (Bool) :=
  bif decide (i < (↑(List.length a) : Int)) then
    bif boundA i (List.length a) then
      bif boundA i (List.length b) then
        (f62 k (List.getD a (Int.toNat i) (0, 0)).fst (List.getD a (Int.toNat i) (0, 0)).snd (List.getD b (Int.toNat i) (0, 0)).fst (List.getD b (Int.toNat i) (0, 0)).snd).bind fun r0 =>
        bif !r0 then
          some false
        else
          rec1004 a b (IntKind.wrap IntKind.i64 (i + 1))
      else
        none
    else
      none
  else
    some true
noncomputable def F29 (k : Nat) (rec1004 : List (Int × Int) → List (Int × Int) → Int → Option (Bool)) (a : List (Int × Int)) (b : List (Int × Int)) : Option (Bool) :=
  bif !decide ((↑(List.length a) : Int) = (↑(List.length b) : Int)) then
    some false
  else
    rec1004 a b (0)
noncomputable def l29 : Nat → (List (Int × Int) → List (Int × Int) → Int → Option (Bool))
  | 0 => fun _ _ _ => none
  | k + 1 => F29_1004 k (l29 k)
noncomputable def f29 (k : Nat) (a : List (Int × Int)) (b : List (Int × Int)) : Option (Bool) := F29 k (l29 k) a b
noncomputable def s29 : Spec := ⟨false, [(.bool, false)], true, .bool, fun k xs => match xs with | [.slc 68 (.pair (.int .i64) (.int .i64)) a, .slc 68 (.pair (.int .i64) (.int .i64)) b] => f29 k a b | _ => none, false, none⟩
noncomputable def env98 : List (FuncId × Spec) := (29, s29) :: env97
noncomputable abbrev x29 := exec ti (envOf env97) 27 h29 (finT ti true Go.Proofs.Try.f29.results.toList [(.bool, false)] (.bool))
noncomputable def k29_1004 : List It := stackAt [.r, .r, .l, .r, .b, .lb none] (bodyOf Go.Proofs.Try.f29) []
def t29_1004 (a : List (Int × Int)) (b : List (Int × Int)) (i : Int) : St := [(0, Cell.val (AVal.slc 68 (Ty.pair (Ty.int IntKind.i64) (Ty.int IntKind.i64)) a)), (2, Cell.val (AVal.slc 68 (Ty.pair (Ty.int IntKind.i64) (Ty.int IntKind.i64)) b)), (10, Cell.val (AVal.int IntKind.i64 i))]
theorem e29_1004 (k : Nat) (a : List (Int × Int)) (b : List (Int × Int)) (i : Int) : x29 (k + 1) k29_1004 (t29_1004 a b i) = F29_1004 k (fun (a : List (Int × Int)) (b : List (Int × Int)) (i : Int) => x29 k k29_1004 (t29_1004 a b i)) a b i := by kernel_rfl
theorem q29 : ∀ k : Nat, (fun (a : List (Int × Int)) (b : List (Int × Int)) (i : Int) => x29 k k29_1004 (t29_1004 a b i)) = l29 k
  | 0 => rfl
  | k + 1 => by
    have h := q29 k
    show _ = F29_1004 k (l29 k)
    rw [← h]
    exact (funext fun a => funext fun b => funext fun i => e29_1004 k a b i)
theorem w29 (k : Nat) (a : List (Int × Int)) (b : List (Int × Int)) : runFn ti (envOf env97) 27 h29 (finT ti true Go.Proofs.Try.f29.results.toList [(.bool, false)] (.bool)) k (bodyOf Go.Proofs.Try.f29) (initS 0 [.slc 68 (.pair (.int .i64) (.int .i64)) a, .slc 68 (.pair (.int .i64) (.int .i64)) b]) = F29 k (fun (a : List (Int × Int)) (b : List (Int × Int)) (i : Int) => x29 k k29_1004 (t29_1004 a b i)) a b := by kernel_rfl
theorem v29 (k : Nat) (a : List (Int × Int)) (b : List (Int × Int)) : runFn ti (envOf env97) 27 h29 (finT ti true Go.Proofs.Try.f29.results.toList [(.bool, false)] (.bool)) k (bodyOf Go.Proofs.Try.f29) (initS 0 [.slc 68 (.pair (.int .i64) (.int .i64)) a, .slc 68 (.pair (.int .i64) (.int .i64)) b]) = f29 k a b := by
  rw [w29]
  have h := q29 k
  unfold f29
  rw [← h]
theorem m29 : Meets Go.Proofs.Try.prog 29 s29 := meets_of_run tiOk env97_ok mo Go.Proofs.Try.func29 (body := bodyOf Go.Proofs.Try.f29) (by kernel_rfl) (N := 27) (by kernel_rfl) (hs := h29) (by
  intro k xs r h
  unfold s29 at h
  dsimp only at h
  split at h
  · exact ⟨Nat.le_of_ble_eq_true rfl, (v29 k _ _).trans h⟩
  · cases h)
theorem env98_ok : EnvOk Go.Proofs.Try.prog (envOf env98) := envOf_cons m29 Go.Proofs.Try.func29 (by kernel_rfl) (by kernel_rfl) env97_ok

def o30 (q : T (.slice 68 (.pair (.int .i64) (.int .i64)))) : St := [(3, .row true 68 (.pair (.int .i64) (.int .i64)) (q))]
def p30 (x : St × T (.int .i64)) : Option (T (.slice 68 (.pair (.int .i64) (.int .i64))) × T (.int .i64)) := match x with | ([(3, .row true 68 (.pair (.int .i64) (.int .i64)) a)], r) => some (a, r) | _ => none
-- laws.markDyadicS
def h30 : Hints := [(1002, .lab [(0, .one (.view 68 (Ty.pair (Ty.int IntKind.i64) (Ty.int IntKind.i64)))), (1, .one (.v)), (5, .one (.v))])]
noncomputable def F30_1002 (k : Nat) (rec1002 : Nat → Int → Int → List (Int × Int) → Option (((List (Int × Int))) × Int)) (a_n : Nat) (k_ : Int) (i : Int) (p3 : List (Int × Int)) : Option (((List (Int × Int))) × Int) :=
  bif decide (i < (↑a_n : Int)) then
    bif boundA i a_n then
      bif Nat.ble a_n (List.length p3) then
        bif Nat.blt (Int.toNat i) (List.length p3) then
          bif boundA i a_n then
            bif Nat.ble a_n (List.length (List.set p3 (Int.toNat i) (k_, (List.getD p3 (Int.toNat i) (0, 0)).snd))) then
              bif Nat.blt (Int.toNat i) (List.length (List.set p3 (Int.toNat i) (k_, (List.getD p3 (Int.toNat i) (0, 0)).snd))) then
                rec1002 a_n (IntKind.wrap IntKind.i64 (IntKind.wrap IntKind.i64 (k_ + 1) + 1)) (IntKind.wrap IntKind.i64 (i + 1)) (List.set (List.set p3 (Int.toNat i) (k_, (List.getD p3 (Int.toNat i) (0, 0)).snd)) (Int.toNat i) ((List.getD (List.set p3 (Int.toNat i) (k_, (List.getD p3 (Int.toNat i) (0, 0)).snd)) (Int.toNat i) (0, 0)).fst, IntKind.wrap IntKind.i64 (k_ + 1)))
              else
                none
            else
              none
          else
            none
        else
          none
      else
        none
    else
      none
  else
    some ((p3, k_))
noncomputable def F30 (k : Nat) (rec1002 : Nat → Int → Int → List (Int × Int) → Option (((List (Int × Int))) × Int)) (a : List (Int × Int)) (a_n : Nat) (k_ : Int) : Option (((List (Int × Int))) × Int) :=
  rec1002 a_n k_ (0) a
noncomputable def l30 : Nat → (Nat → Int → Int → List (Int × Int) → Option (((List (Int × Int))) × Int))
  | 0 => fun _ _ _ _ => none
  | k + 1 => F30_1002 k (l30 k)
noncomputable def f30 (k : Nat) (a : List (Int × Int)) (a_n : Nat) (k_ : Int) : Option (((List (Int × Int))) × Int) := F30 k (l30 k) a a_n k_
-- laws.markDyadicS
def h30_0 : Hints := [(1002, .lab [(0, .one (.own 68 (Ty.pair (Ty.int IntKind.i64) (Ty.int IntKind.i64)))), (1, .one (.v)), (5, .one (.v))])]
noncomputable def F30_0_1002 (k : Nat) (rec1002 : Int → Int → List (Int × Int) → Option (((List (Int × Int))) × Int)) (k_ : Int) (i : Int) (p3 : List (Int × Int)) : Option (((List (Int × Int))) × Int) :=
  bif decide (i < (↑(List.length p3) : Int)) then
    bif boundA i (List.length p3) then
      bif Nat.blt (Int.toNat i) (List.length p3) then
        bif boundA i (List.length (List.set p3 (Int.toNat i) (k_, (List.getD p3 (Int.toNat i) (0, 0)).snd))) then
          bif Nat.blt (Int.toNat i) (List.length (List.set p3 (Int.toNat i) (k_, (List.getD p3 (Int.toNat i) (0, 0)).snd))) then
            rec1002 (IntKind.wrap IntKind.i64 (IntKind.wrap IntKind.i64 (k_ + 1) + 1)) (IntKind.wrap IntKind.i64 (i + 1)) (List.set (List.set p3 (Int.toNat i) (k_, (List.getD p3 (Int.toNat i) (0, 0)).snd)) (Int.toNat i) ((List.getD (List.set p3 (Int.toNat i) (k_, (List.getD p3 (Int.toNat i) (0, 0)).snd)) (Int.toNat i) (0, 0)).fst, IntKind.wrap IntKind.i64 (k_ + 1)))
          else
            none
        else
          none
      else
        none
    else
      none
  else
    some ((p3, k_))
noncomputable def F30_0 (k : Nat) (rec1002 : Int → Int → List (Int × Int) → Option (((List (Int × Int))) × Int)) (a : List (Int × Int)) (k_ : Int) : Option (((List (Int × Int))) × Int) :=
  rec1002 k_ (0) a
noncomputable def l30_0 : Nat → (Int → Int → List (Int × Int) → Option (((List (Int × Int))) × Int))
  | 0 => fun _ _ _ => none
  | k + 1 => F30_0_1002 k (l30_0 k)
noncomputable def f30_0 (k : Nat) (a : List (Int × Int)) (k_ : Int) : Option (((List (Int × Int))) × Int) := F30_0 k (l30_0 k) a k_
noncomputable def g30 (k : Nat) (os : St) (xs : List AVal) : Option (T (.slice 68 (.pair (.int .i64) (.int .i64))) × T (.int .i64)) := match os, xs with | [(3, .row true 68 (.pair (.int .i64) (.int .i64)) a)], [.ref 3 (some a_n), .int .i64 k_] => f30 k a a_n k_ | [(3, .row true 68 (.pair (.int .i64) (.int .i64)) a)], [.ref 3 none, .int .i64 k_] => f30_0 k a k_ | _, _ => none
noncomputable def s30 : Spec := ⟨false, [(.int .i64, false)], true, .int .i64, fun _ _ => none, false, some ⟨.slice 68 (.pair (.int .i64) (.int .i64)), g30, o30⟩⟩
noncomputable def env99 : List (FuncId × Spec) := (30, s30) :: env98
noncomputable abbrev x30 := exec ti (envOf env98) 27 h30 (finJ ti Go.Proofs.Try.f30.results.toList [(.int .i64, false)] (.int .i64) [3] p30)
noncomputable def k30_1002 : List It := stackAt [.r, .l, .r, .b, .lb none] (bodyOf Go.Proofs.Try.f30) []
def t30_1002 (a_n : Nat) (k_ : Int) (i : Int) (p3 : List (Int × Int)) : St := [(0, Cell.val (AVal.ref 3 (some a_n))), (2, Cell.val (AVal.int IntKind.i64 k_)), (10, Cell.val (AVal.int IntKind.i64 i)), (3, Cell.row true 68 (Ty.pair (Ty.int IntKind.i64) (Ty.int IntKind.i64)) p3)]
theorem e30_1002 (k : Nat) (a_n : Nat) (k_ : Int) (i : Int) (p3 : List (Int × Int)) : x30 (k + 1) k30_1002 (t30_1002 a_n k_ i p3) = F30_1002 k (fun (a_n : Nat) (k_ : Int) (i : Int) (p3 : List (Int × Int)) => x30 k k30_1002 (t30_1002 a_n k_ i p3)) a_n k_ i p3 := by kernel_rfl
theorem q30 : ∀ k : Nat, (fun (a_n : Nat) (k_ : Int) (i : Int) (p3 : List (Int × Int)) => x30 k k30_1002 (t30_1002 a_n k_ i p3)) = l30 k
  | 0 => rfl
  | k + 1 => by
    have h := q30 k
    show _ = F30_1002 k (l30 k)
    rw [← h]
    exact (funext fun a_n => funext fun k_ => funext fun i => funext fun p3 => e30_1002 k a_n k_ i p3)
theorem w30 (k : Nat) (a : List (Int × Int)) (a_n : Nat) (k_ : Int) : runFn ti (envOf env98) 27 h30 (finJ ti Go.Proofs.Try.f30.results.toList [(.int .i64, false)] (.int .i64) [3] p30) k (bodyOf Go.Proofs.Try.f30) ([(3, .row true 68 (.pair (.int .i64) (.int .i64)) a)] ++ initS 0 [.ref 3 (some a_n), .int .i64 k_]) = F30 k (fun (a_n : Nat) (k_ : Int) (i : Int) (p3 : List (Int × Int)) => x30 k k30_1002 (t30_1002 a_n k_ i p3)) a a_n k_ := by kernel_rfl
theorem v30 (k : Nat) (a : List (Int × Int)) (a_n : Nat) (k_ : Int) : runFn ti (envOf env98) 27 h30 (finJ ti Go.Proofs.Try.f30.results.toList [(.int .i64, false)] (.int .i64) [3] p30) k (bodyOf Go.Proofs.Try.f30) ([(3, .row true 68 (.pair (.int .i64) (.int .i64)) a)] ++ initS 0 [.ref 3 (some a_n), .int .i64 k_]) = f30 k a a_n k_ := by
  rw [w30]
  have h := q30 k
  unfold f30
  rw [← h]
noncomputable abbrev x30_0 := exec ti (envOf env98) 27 h30_0 (finJ ti Go.Proofs.Try.f30.results.toList [(.int .i64, false)] (.int .i64) [3] p30)
noncomputable def k30_0_1002 : List It := stackAt [.r, .l, .r, .b, .lb none] (bodyOf Go.Proofs.Try.f30) []
def t30_0_1002 (k_ : Int) (i : Int) (p3 : List (Int × Int)) : St := [(0, Cell.val (AVal.ref 3 none)), (2, Cell.val (AVal.int IntKind.i64 k_)), (10, Cell.val (AVal.int IntKind.i64 i)), (3, Cell.row true 68 (Ty.pair (Ty.int IntKind.i64) (Ty.int IntKind.i64)) p3)]
theorem e30_0_1002 (k : Nat) (k_ : Int) (i : Int) (p3 : List (Int × Int)) : x30_0 (k + 1) k30_0_1002 (t30_0_1002 k_ i p3) = F30_0_1002 k (fun (k_ : Int) (i : Int) (p3 : List (Int × Int)) => x30_0 k k30_0_1002 (t30_0_1002 k_ i p3)) k_ i p3 := by kernel_rfl
theorem q30_0 : ∀ k : Nat, (fun (k_ : Int) (i : Int) (p3 : List (Int × Int)) => x30_0 k k30_0_1002 (t30_0_1002 k_ i p3)) = l30_0 k
  | 0 => rfl
  | k + 1 => by
    have h := q30_0 k
    show _ = F30_0_1002 k (l30_0 k)
    rw [← h]
    exact (funext fun k_ => funext fun i => funext fun p3 => e30_0_1002 k k_ i p3)
theorem w30_0 (k : Nat) (a : List (Int × Int)) (k_ : Int) : runFn ti (envOf env98) 27 h30_0 (finJ ti Go.Proofs.Try.f30.results.toList [(.int .i64, false)] (.int .i64) [3] p30) k (bodyOf Go.Proofs.Try.f30) ([(3, .row true 68 (.pair (.int .i64) (.int .i64)) a)] ++ initS 0 [.ref 3 none, .int .i64 k_]) = F30_0 k (fun (k_ : Int) (i : Int) (p3 : List (Int × Int)) => x30_0 k k30_0_1002 (t30_0_1002 k_ i p3)) a k_ := by kernel_rfl
theorem v30_0 (k : Nat) (a : List (Int × Int)) (k_ : Int) : runFn ti (envOf env98) 27 h30_0 (finJ ti Go.Proofs.Try.f30.results.toList [(.int .i64, false)] (.int .i64) [3] p30) k (bodyOf Go.Proofs.Try.f30) ([(3, .row true 68 (.pair (.int .i64) (.int .i64)) a)] ++ initS 0 [.ref 3 none, .int .i64 k_]) = f30_0 k a k_ := by
  rw [w30_0]
  have h := q30_0 k
  unfold f30_0
  rw [← h]
theorem hp30 : ∀ x q, p30 x = some q → (o30 q.1, q.2) = x := by
  intro x q h
  unfold p30 at h
  split at h
  · cases h
    rfl
  · cases h
theorem m30 : MeetsIO Go.Proofs.Try.prog 30 [(.int .i64, false)] (.int .i64) (IO.G ⟨.slice 68 (.pair (.int .i64) (.int .i64)), g30, o30⟩) := meets_io_of_run tiOk env98_ok mo Go.Proofs.Try.func30 (body := bodyOf Go.Proofs.Try.f30) (by kernel_rfl) (N := 27) (by kernel_rfl) (pick := p30) (by kernel_rfl) hp30 (by
  intro k os xs r h
  have h : g30 k os xs = some r := h
  unfold g30 at h
  split at h
  · exact ⟨Nat.le_of_ble_eq_true rfl, by kernel_rfl, h30, (v30 k _ _ _).trans h⟩
  · exact ⟨Nat.le_of_ble_eq_true rfl, by kernel_rfl, h30_0, (v30_0 k _ _).trans h⟩
  · cases h)
theorem env99_ok : EnvOk Go.Proofs.Try.prog (envOf env99) := envOf_io rfl m30 Go.Proofs.Try.func30 (by kernel_rfl) (by kernel_rfl) env98_ok

-- laws.heldDyadicS
def h31 : Hints := [(1002, .lab [(0, .one (.v)), (1, .one (.v)), (5, .one (.v))])]
noncomputable def F31_1002 (k : Nat) (rec1002 : List (Int × Int) → Nat → Int → Int → Option (Int)) (a : List (Int × Int)) (a_n : Nat) (k_ : Int) (i : Int) : Option (Int) :=
  bif decide (i < (↑a_n : Int)) then
    bif boundA i a_n then
      bif !decide ((List.getD a (Int.toNat i) (0, 0)).fst = k_) then
        some (-1)
      else
        bif boundA i a_n then
          bif !decide ((List.getD a (Int.toNat i) (0, 0)).snd = IntKind.wrap IntKind.i64 (k_ + 1)) then
            some (-1)
          else
            rec1002 a a_n (IntKind.wrap IntKind.i64 (IntKind.wrap IntKind.i64 (k_ + 1) + 1)) (IntKind.wrap IntKind.i64 (i + 1))
        else
          none
    else
      none
  else
    some k_
noncomputable def F31 (k : Nat) (rec1002 : List (Int × Int) → Nat → Int → Int → Option (Int)) (a : List (Int × Int)) (a_n : Nat) (k_ : Int) : Option (Int) :=
  rec1002 a a_n k_ (0)
noncomputable def l31 : Nat → (List (Int × Int) → Nat → Int → Int → Option (Int))
  | 0 => fun _ _ _ _ => none
  | k + 1 => F31_1002 k (l31 k)
noncomputable def f31 (k : Nat) (a : List (Int × Int)) (a_n : Nat) (k_ : Int) : Option (Int) := F31 k (l31 k) a a_n k_
noncomputable def s31 : Spec := ⟨true, [(.int .i64, false)], true, .int .i64, fun k xs => match xs with | [.vslc 68 (.pair (.int .i64) (.int .i64)) a a_n, .int .i64 k_] => f31 k a a_n k_ | _ => none, false, none⟩
noncomputable def env100 : List (FuncId × Spec) := (31, s31) :: env99
noncomputable abbrev x31 := exec tiV (envOf env99) 31 h31 (finT tiV true Go.Proofs.Try.f31.results.toList [(.int .i64, false)] (.int .i64))
noncomputable def k31_1002 : List It := stackAt [.r, .l, .r, .b, .lb none] (bodyOf Go.Proofs.Try.f31) []
def t31_1002 (a : List (Int × Int)) (a_n : Nat) (k_ : Int) (i : Int) : St := [(0, Cell.val (AVal.vslc 68 (Ty.pair (Ty.int IntKind.i64) (Ty.int IntKind.i64)) a a_n)), (2, Cell.val (AVal.int IntKind.i64 k_)), (10, Cell.val (AVal.int IntKind.i64 i))]
theorem e31_1002 (k : Nat) (a : List (Int × Int)) (a_n : Nat) (k_ : Int) (i : Int) : x31 (k + 1) k31_1002 (t31_1002 a a_n k_ i) = F31_1002 k (fun (a : List (Int × Int)) (a_n : Nat) (k_ : Int) (i : Int) => x31 k k31_1002 (t31_1002 a a_n k_ i)) a a_n k_ i := by kernel_rfl
theorem q31 : ∀ k : Nat, (fun (a : List (Int × Int)) (a_n : Nat) (k_ : Int) (i : Int) => x31 k k31_1002 (t31_1002 a a_n k_ i)) = l31 k
  | 0 => rfl
  | k + 1 => by
    have h := q31 k
    show _ = F31_1002 k (l31 k)
    rw [← h]
    exact (funext fun a => funext fun a_n => funext fun k_ => funext fun i => e31_1002 k a a_n k_ i)
theorem w31 (k : Nat) (a : List (Int × Int)) (a_n : Nat) (k_ : Int) : runFn tiV (envOf env99) 31 h31 (finT tiV true Go.Proofs.Try.f31.results.toList [(.int .i64, false)] (.int .i64)) k (bodyOf Go.Proofs.Try.f31) (initS 0 [.vslc 68 (.pair (.int .i64) (.int .i64)) a a_n, .int .i64 k_]) = F31 k (fun (a : List (Int × Int)) (a_n : Nat) (k_ : Int) (i : Int) => x31 k k31_1002 (t31_1002 a a_n k_ i)) a a_n k_ := by kernel_rfl
theorem v31 (k : Nat) (a : List (Int × Int)) (a_n : Nat) (k_ : Int) : runFn tiV (envOf env99) 31 h31 (finT tiV true Go.Proofs.Try.f31.results.toList [(.int .i64, false)] (.int .i64)) k (bodyOf Go.Proofs.Try.f31) (initS 0 [.vslc 68 (.pair (.int .i64) (.int .i64)) a a_n, .int .i64 k_]) = f31 k a a_n k_ := by
  rw [w31]
  have h := q31 k
  unfold f31
  rw [← h]
theorem m31 : Meets Go.Proofs.Try.prog 31 s31 := meets_of_run tiVOk env99_ok mo Go.Proofs.Try.func31 (body := bodyOf Go.Proofs.Try.f31) (by kernel_rfl) (N := 31) (by kernel_rfl) (hs := h31) (by
  intro k xs r h
  unfold s31 at h
  dsimp only at h
  split at h
  · exact ⟨Nat.le_of_ble_eq_true rfl, (v31 k _ _ _).trans h⟩
  · cases h)
theorem env100_ok : EnvOk Go.Proofs.Try.prog (envOf env100) := envOf_cons m31 Go.Proofs.Try.func31 (by kernel_rfl) (by kernel_rfl) env99_ok

-- laws.FnExactVolumesOf
noncomputable def f6 (k : Nat) (L_K : Int) (L_Low : List (Int)) (L_High : List (Int)) (i : List (Int × Int)) : Option (Bool) :=
  (f8 k L_K L_Low L_High 1000000).bind fun r0 =>
  bif decide (r0 < 0) then
    some true
  else
    (f9 k i r0).bind fun r1 =>
    bif decide (r1 < 0) then
      some true
    else
      (f12 k L_K L_Low L_High false).bind fun r2 =>
      (f13 k i false).bind fun r3 =>
      (f27 k r2.fst (List.take r2.snd.fst.snd r2.snd.fst.fst) (List.take r2.snd.snd.snd r2.snd.snd.fst) (List.take r3.snd r3.fst)).bind fun r4 =>
      (f12 k L_K L_Low L_High false).bind fun r5 =>
      (f13 k i false).bind fun r6 =>
      (f28 k r5.fst (List.take r5.snd.fst.snd r5.snd.fst.fst) (List.take r5.snd.snd.snd r5.snd.snd.fst) (List.take r6.snd r6.fst)).bind fun r7 =>
      (f29 k r7.fst r4.fst).bind fun r8 =>
      bif !r8 then
        some false
      else
        bif !r7.snd == r4.snd then
          some false
        else
          (f12 k L_K L_Low L_High false).bind fun r9 =>
          (f16 k r5.fst r5.snd.fst.fst r5.snd.fst.snd r5.snd.snd.fst r5.snd.snd.snd r9.fst r9.snd.fst.fst r9.snd.fst.snd r9.snd.snd.fst r9.snd.snd.snd).bind fun r10 =>
          bif !r10 then
            some false
          else
            (f13 k i false).bind fun r11 =>
            (f17 k r6.fst r6.snd r11.fst r11.snd).bind fun r12 =>
            bif !r12 then
              some false
            else
              (f24 k r5.snd.fst.fst r5.snd.snd.fst r5.fst r5.snd.fst.snd r5.snd.snd.snd 101).bind fun r13 =>
              (f25 k r6.fst r6.snd r13.snd).bind fun r14 =>
              bif decide (r14.snd < 0) then
                some false
              else
                (f29 k r7.fst r4.fst).bind fun r15 =>
                bif !r15 then
                  some false
                else
                  bif !r7.snd == r4.snd then
                    some false
                  else
                    (f30_0 k r7.fst 101).bind fun r16 =>
                    (f31 k r16.fst (List.length r16.fst) 101).bind fun r17 =>
                    bif decide (r17 < 0) then
                      some false
                    else
                      bif !decide (r17 = r16.snd) then
                        some false
                      else
                        (f12 k L_K L_Low L_High true).bind fun r18 =>
                        (f13 k i true).bind fun r19 =>
                        (f28 k r18.fst (List.take r18.snd.fst.snd r18.snd.fst.fst) (List.take r18.snd.snd.snd r18.snd.snd.fst) (List.take r19.snd r19.fst)).bind fun r20 =>
                        (f29 k r20.fst r4.fst).bind fun r21 =>
                        bif !r21 then
                          some false
                        else
                          bif !r20.snd == r4.snd then
                            some false
                          else
                            (f31 k r16.fst (List.length r16.fst) 101).bind fun r22 =>
                            bif decide (r22 < 0) then
                              some false
                            else
                              bif !decide (r22 = r16.snd) then
                                some false
                              else
                                some true
noncomputable def s6 : Spec := ⟨false, [(.bool, false)], true, .bool, fun k xs => match xs with | [.agg [.int .i64 L_K, .slc 3 (.int .i64) L_Low, .slc 3 (.int .i64) L_High], .slc 65 (.pair (.int .i64) (.int .i64)) i] => f6 k L_K L_Low L_High i | _ => none, false, none⟩
noncomputable def env101 : List (FuncId × Spec) := (6, s6) :: env100
theorem v6 (k : Nat) (L_K : Int) (L_Low : List (Int)) (L_High : List (Int)) (i : List (Int × Int)) : runFn tiV (envOf env100) 119 [] (finT tiV true Go.Proofs.Try.f6.results.toList [(.bool, false)] (.bool)) k (bodyOf Go.Proofs.Try.f6) (initS 0 [.agg [.int .i64 L_K, .slc 3 (.int .i64) L_Low, .slc 3 (.int .i64) L_High], .slc 65 (.pair (.int .i64) (.int .i64)) i]) = f6 k L_K L_Low L_High i := by kernel_rfl
theorem m6 : Meets Go.Proofs.Try.prog 6 s6 := meets_of_run tiVOk env100_ok mo Go.Proofs.Try.func6 (body := bodyOf Go.Proofs.Try.f6) (by kernel_rfl) (N := 119) (by kernel_rfl) (hs := []) (by
  intro k xs r h
  unfold s6 at h
  dsimp only at h
  split at h
  · exact ⟨Nat.le_of_ble_eq_true rfl, (v6 k _ _ _ _).trans h⟩
  · cases h)
theorem env101_ok : EnvOk Go.Proofs.Try.prog (envOf env101) := envOf_cons m6 Go.Proofs.Try.func6 (by kernel_rfl) (by kernel_rfl) env100_ok

end Go.Proofs.YtkahcjnkmbbplaaE
