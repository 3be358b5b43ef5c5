/- Functions, by the engine; printed. -/
import Derived.Test.YtchdegcfohegfaaBA4
set_option maxRecDepth 100000
set_option maxHeartbeats 4000000
set_option linter.unusedVariables false
namespace Go.Proofs.YtchdegcfohegfaaE
def o16 (q : T (.pair (.slice 3 (.int .i64)) (.slice 3 (.int .i64)))) : St := [(3, .row true 3 (.int .i64) (q.1)), (5, .row true 3 (.int .i64) (q.2))]
def p16 (x : St × T (.int .i64)) : Option (T (.pair (.slice 3 (.int .i64)) (.slice 3 (.int .i64))) × T (.int .i64)) := match x with | ([(3, .row true 3 (.int .i64) a_Low), (5, .row true 3 (.int .i64) a_High)], r) => some ((a_Low, a_High), r) | _ => none
-- laws.markBox
noncomputable def f16 (k : Nat) (a_Low : List (Int)) (a_High : List (Int)) (a_K : Int) (a_Low_n : Nat) (a_High_n : Nat) (k_ : Int) : Option (((List (Int)) × (List (Int))) × Int) :=
  (f44 k a_Low a_Low_n k_).bind fun r0 =>
  (f44 k a_High a_High_n r0.snd).bind fun r1 =>
  some (((r0.fst, r1.fst), r1.snd))
-- laws.markBox
noncomputable def f16_0 (k : Nat) (a_Low : List (Int)) (a_High : List (Int)) (a_K : Int) (k_ : Int) : Option (((List (Int)) × (List (Int))) × Int) :=
  (f44_0 k a_Low k_).bind fun r0 =>
  (f44_0 k a_High r0.snd).bind fun r1 =>
  some (((r0.fst, r1.fst), r1.snd))
noncomputable def g16 (k : Nat) (os : St) (xs : List AVal) : Option (T (.pair (.slice 3 (.int .i64)) (.slice 3 (.int .i64))) × T (.int .i64)) := match os, xs with | [(3, .row true 3 (.int .i64) a_Low), (5, .row true 3 (.int .i64) a_High)], [.agg [.int .i64 a_K, .ref 3 (some a_Low_n), .ref 5 (some a_High_n)], .int .i64 k_] => f16 k a_Low a_High a_K a_Low_n a_High_n k_ | [(3, .row true 3 (.int .i64) a_Low), (5, .row true 3 (.int .i64) a_High)], [.agg [.int .i64 a_K, .ref 3 none, .ref 5 none], .int .i64 k_] => f16_0 k a_Low a_High a_K k_ | _, _ => none
noncomputable def s16 : Spec := ⟨false, [(.int .i64, false)], true, .int .i64, fun _ _ => none, false, some ⟨.pair (.slice 3 (.int .i64)) (.slice 3 (.int .i64)), g16, o16⟩, false⟩
noncomputable def env49 : List (FuncId × Spec) := (16, s16) :: env48
theorem v16 (k : Nat) (a_Low : List (Int)) (a_High : List (Int)) (a_K : Int) (a_Low_n : Nat) (a_High_n : Nat) (k_ : Int) : runFn ti (envOf env48) 14 [] (finJ ti Go.Proofs.Try.f16.results.toList [(.int .i64, false)] (.int .i64) [3, 5] p16) k (bodyOf Go.Proofs.Try.f16) ([(3, .row true 3 (.int .i64) a_Low), (5, .row true 3 (.int .i64) a_High)] ++ initS 0 [.agg [.int .i64 a_K, .ref 3 (some a_Low_n), .ref 5 (some a_High_n)], .int .i64 k_]) = f16 k a_Low a_High a_K a_Low_n a_High_n k_ := by kernel_rfl
theorem v16_0 (k : Nat) (a_Low : List (Int)) (a_High : List (Int)) (a_K : Int) (k_ : Int) : runFn ti (envOf env48) 14 [] (finJ ti Go.Proofs.Try.f16.results.toList [(.int .i64, false)] (.int .i64) [3, 5] p16) k (bodyOf Go.Proofs.Try.f16) ([(3, .row true 3 (.int .i64) a_Low), (5, .row true 3 (.int .i64) a_High)] ++ initS 0 [.agg [.int .i64 a_K, .ref 3 none, .ref 5 none], .int .i64 k_]) = f16_0 k a_Low a_High a_K k_ := by kernel_rfl
theorem hp16 : ∀ x q, p16 x = some q → (o16 q.1, q.2) = x := by
  intro x q h
  unfold p16 at h
  split at h
  · cases h
    rfl
  · cases h
theorem m16 : MeetsIO Go.Proofs.Try.prog 16 [(.int .i64, false)] (.int .i64) (IO.G ⟨.pair (.slice 3 (.int .i64)) (.slice 3 (.int .i64)), g16, o16⟩) := meets_io_of_run tiOk env48_ok mo Go.Proofs.Try.func16 (body := bodyOf Go.Proofs.Try.f16) (by kernel_rfl) (N := 14) (by kernel_rfl) (pick := p16) (by kernel_rfl) hp16 (by
  intro k os xs r h
  have h : g16 k os xs = some r := h
  unfold g16 at h
  split at h
  · exact ⟨Nat.le_of_ble_eq_true rfl, by kernel_rfl, [], (v16 k _ _ _ _ _ _).trans h⟩
  · exact ⟨Nat.le_of_ble_eq_true rfl, by kernel_rfl, [], (v16_0 k _ _ _ _).trans h⟩
  · cases h)
theorem env49_ok : EnvOk Go.Proofs.Try.prog (envOf env49) := envOf_io rfl m16 Go.Proofs.Try.func16 (by kernel_rfl) (by kernel_rfl) env48_ok

def o17 (q : T (.slice 57 (.pair (.int .i64) (.int .i64)))) : St := [(3, .row true 57 (.pair (.int .i64) (.int .i64)) (q))]
def p17 (x : St × T (.int .i64)) : Option (T (.slice 57 (.pair (.int .i64) (.int .i64))) × T (.int .i64)) := match x with | ([(3, .row true 57 (.pair (.int .i64) (.int .i64)) a)], r) => some (a, r) | _ => none
-- laws.markNodeS
def h17 : Hints := [(1002, .lab [(0, .one (.view 57 (Ty.pair (Ty.int IntKind.i64) (Ty.int IntKind.i64)))), (1, .one (.v)), (5, .one (.v))])]
noncomputable def F17_1002 (k : Nat) (rec1002 : Nat → Int → Int → List (Int × Int) → Option (((List (Int × Int))) × Int)) (a_n : Nat) (k_ : Int) (i : Int) (p3 : List (Int × Int)) : Option (((List (Int × Int))) × Int) :=
  bif decide (i < (↑a_n : Int)) then
    bif boundA i a_n then
      bif Nat.ble a_n (List.length p3) then
        bif Nat.blt (Int.toNat i) (List.length p3) then
          bif boundA i a_n then
            bif Nat.ble a_n (List.length (List.set p3 (Int.toNat i) (k_, (List.getD p3 (Int.toNat i) (0, 0)).snd))) then
              bif Nat.blt (Int.toNat i) (List.length (List.set p3 (Int.toNat i) (k_, (List.getD p3 (Int.toNat i) (0, 0)).snd))) then
                rec1002 a_n (IntKind.wrap IntKind.i64 (IntKind.wrap IntKind.i64 (k_ + 1) + 1)) (IntKind.wrap IntKind.i64 (i + 1)) (List.set (List.set p3 (Int.toNat i) (k_, (List.getD p3 (Int.toNat i) (0, 0)).snd)) (Int.toNat i) ((List.getD (List.set p3 (Int.toNat i) (k_, (List.getD p3 (Int.toNat i) (0, 0)).snd)) (Int.toNat i) (0, 0)).fst, IntKind.wrap IntKind.i64 (k_ + 1)))
              else
                none
            else
              none
          else
            none
        else
          none
      else
        none
    else
      none
  else
    some ((p3, k_))
noncomputable def F17 (k : Nat) (rec1002 : Nat → Int → Int → List (Int × Int) → Option (((List (Int × Int))) × Int)) (a : List (Int × Int)) (a_n : Nat) (k_ : Int) : Option (((List (Int × Int))) × Int) :=
  rec1002 a_n k_ (0) a
noncomputable def l17 : Nat → (Nat → Int → Int → List (Int × Int) → Option (((List (Int × Int))) × Int))
  | 0 => fun _ _ _ _ => none
  | k + 1 => F17_1002 k (l17 k)
noncomputable def f17 (k : Nat) (a : List (Int × Int)) (a_n : Nat) (k_ : Int) : Option (((List (Int × Int))) × Int) := F17 k (l17 k) a a_n k_
-- laws.markNodeS
def h17_0 : Hints := [(1002, .lab [(0, .one (.own 57 (Ty.pair (Ty.int IntKind.i64) (Ty.int IntKind.i64)))), (1, .one (.v)), (5, .one (.v))])]
noncomputable def F17_0_1002 (k : Nat) (rec1002 : Int → Int → List (Int × Int) → Option (((List (Int × Int))) × Int)) (k_ : Int) (i : Int) (p3 : List (Int × Int)) : Option (((List (Int × Int))) × Int) :=
  bif decide (i < (↑(List.length p3) : Int)) then
    bif boundA i (List.length p3) then
      bif Nat.blt (Int.toNat i) (List.length p3) then
        bif boundA i (List.length (List.set p3 (Int.toNat i) (k_, (List.getD p3 (Int.toNat i) (0, 0)).snd))) then
          bif Nat.blt (Int.toNat i) (List.length (List.set p3 (Int.toNat i) (k_, (List.getD p3 (Int.toNat i) (0, 0)).snd))) then
            rec1002 (IntKind.wrap IntKind.i64 (IntKind.wrap IntKind.i64 (k_ + 1) + 1)) (IntKind.wrap IntKind.i64 (i + 1)) (List.set (List.set p3 (Int.toNat i) (k_, (List.getD p3 (Int.toNat i) (0, 0)).snd)) (Int.toNat i) ((List.getD (List.set p3 (Int.toNat i) (k_, (List.getD p3 (Int.toNat i) (0, 0)).snd)) (Int.toNat i) (0, 0)).fst, IntKind.wrap IntKind.i64 (k_ + 1)))
          else
            none
        else
          none
      else
        none
    else
      none
  else
    some ((p3, k_))
noncomputable def F17_0 (k : Nat) (rec1002 : Int → Int → List (Int × Int) → Option (((List (Int × Int))) × Int)) (a : List (Int × Int)) (k_ : Int) : Option (((List (Int × Int))) × Int) :=
  rec1002 k_ (0) a
noncomputable def l17_0 : Nat → (Int → Int → List (Int × Int) → Option (((List (Int × Int))) × Int))
  | 0 => fun _ _ _ => none
  | k + 1 => F17_0_1002 k (l17_0 k)
noncomputable def f17_0 (k : Nat) (a : List (Int × Int)) (k_ : Int) : Option (((List (Int × Int))) × Int) := F17_0 k (l17_0 k) a k_
noncomputable def g17 (k : Nat) (os : St) (xs : List AVal) : Option (T (.slice 57 (.pair (.int .i64) (.int .i64))) × T (.int .i64)) := match os, xs with | [(3, .row true 57 (.pair (.int .i64) (.int .i64)) a)], [.ref 3 (some a_n), .int .i64 k_] => f17 k a a_n k_ | [(3, .row true 57 (.pair (.int .i64) (.int .i64)) a)], [.ref 3 none, .int .i64 k_] => f17_0 k a k_ | _, _ => none
noncomputable def s17 : Spec := ⟨false, [(.int .i64, false)], true, .int .i64, fun _ _ => none, false, some ⟨.slice 57 (.pair (.int .i64) (.int .i64)), g17, o17⟩, false⟩
noncomputable def env50 : List (FuncId × Spec) := (17, s17) :: env49
noncomputable abbrev x17 := exec ti (envOf env49) 27 h17 (finJ ti Go.Proofs.Try.f17.results.toList [(.int .i64, false)] (.int .i64) [3] p17)
noncomputable def k17_1002 : List It := stackAt [.r, .l, .r, .b, .lb none] (bodyOf Go.Proofs.Try.f17) []
def t17_1002 (a_n : Nat) (k_ : Int) (i : Int) (p3 : List (Int × Int)) : St := [(0, Cell.val (AVal.ref 3 (some a_n))), (2, Cell.val (AVal.int IntKind.i64 k_)), (10, Cell.val (AVal.int IntKind.i64 i)), (3, Cell.row true 57 (Ty.pair (Ty.int IntKind.i64) (Ty.int IntKind.i64)) p3)]
theorem e17_1002 (k : Nat) (a_n : Nat) (k_ : Int) (i : Int) (p3 : List (Int × Int)) : x17 (k + 1) k17_1002 (t17_1002 a_n k_ i p3) = F17_1002 k (fun (a_n : Nat) (k_ : Int) (i : Int) (p3 : List (Int × Int)) => x17 k k17_1002 (t17_1002 a_n k_ i p3)) a_n k_ i p3 := by kernel_rfl
theorem q17 : ∀ k : Nat, (fun (a_n : Nat) (k_ : Int) (i : Int) (p3 : List (Int × Int)) => x17 k k17_1002 (t17_1002 a_n k_ i p3)) = l17 k
  | 0 => rfl
  | k + 1 => by
    have h := q17 k
    show _ = F17_1002 k (l17 k)
    rw [← h]
    exact (funext fun a_n => funext fun k_ => funext fun i => funext fun p3 => e17_1002 k a_n k_ i p3)
theorem w17 (k : Nat) (a : List (Int × Int)) (a_n : Nat) (k_ : Int) : runFn ti (envOf env49) 27 h17 (finJ ti Go.Proofs.Try.f17.results.toList [(.int .i64, false)] (.int .i64) [3] p17) k (bodyOf Go.Proofs.Try.f17) ([(3, .row true 57 (.pair (.int .i64) (.int .i64)) a)] ++ initS 0 [.ref 3 (some a_n), .int .i64 k_]) = F17 k (fun (a_n : Nat) (k_ : Int) (i : Int) (p3 : List (Int × Int)) => x17 k k17_1002 (t17_1002 a_n k_ i p3)) a a_n k_ := by kernel_rfl
theorem v17 (k : Nat) (a : List (Int × Int)) (a_n : Nat) (k_ : Int) : runFn ti (envOf env49) 27 h17 (finJ ti Go.Proofs.Try.f17.results.toList [(.int .i64, false)] (.int .i64) [3] p17) k (bodyOf Go.Proofs.Try.f17) ([(3, .row true 57 (.pair (.int .i64) (.int .i64)) a)] ++ initS 0 [.ref 3 (some a_n), .int .i64 k_]) = f17 k a a_n k_ := by
  rw [w17]
  have h := q17 k
  unfold f17
  rw [← h]
noncomputable abbrev x17_0 := exec ti (envOf env49) 27 h17_0 (finJ ti Go.Proofs.Try.f17.results.toList [(.int .i64, false)] (.int .i64) [3] p17)
noncomputable def k17_0_1002 : List It := stackAt [.r, .l, .r, .b, .lb none] (bodyOf Go.Proofs.Try.f17) []
def t17_0_1002 (k_ : Int) (i : Int) (p3 : List (Int × Int)) : St := [(0, Cell.val (AVal.ref 3 none)), (2, Cell.val (AVal.int IntKind.i64 k_)), (10, Cell.val (AVal.int IntKind.i64 i)), (3, Cell.row true 57 (Ty.pair (Ty.int IntKind.i64) (Ty.int IntKind.i64)) p3)]
theorem e17_0_1002 (k : Nat) (k_ : Int) (i : Int) (p3 : List (Int × Int)) : x17_0 (k + 1) k17_0_1002 (t17_0_1002 k_ i p3) = F17_0_1002 k (fun (k_ : Int) (i : Int) (p3 : List (Int × Int)) => x17_0 k k17_0_1002 (t17_0_1002 k_ i p3)) k_ i p3 := by kernel_rfl
theorem q17_0 : ∀ k : Nat, (fun (k_ : Int) (i : Int) (p3 : List (Int × Int)) => x17_0 k k17_0_1002 (t17_0_1002 k_ i p3)) = l17_0 k
  | 0 => rfl
  | k + 1 => by
    have h := q17_0 k
    show _ = F17_0_1002 k (l17_0 k)
    rw [← h]
    exact (funext fun k_ => funext fun i => funext fun p3 => e17_0_1002 k k_ i p3)
theorem w17_0 (k : Nat) (a : List (Int × Int)) (k_ : Int) : runFn ti (envOf env49) 27 h17_0 (finJ ti Go.Proofs.Try.f17.results.toList [(.int .i64, false)] (.int .i64) [3] p17) k (bodyOf Go.Proofs.Try.f17) ([(3, .row true 57 (.pair (.int .i64) (.int .i64)) a)] ++ initS 0 [.ref 3 none, .int .i64 k_]) = F17_0 k (fun (k_ : Int) (i : Int) (p3 : List (Int × Int)) => x17_0 k k17_0_1002 (t17_0_1002 k_ i p3)) a k_ := by kernel_rfl
theorem v17_0 (k : Nat) (a : List (Int × Int)) (k_ : Int) : runFn ti (envOf env49) 27 h17_0 (finJ ti Go.Proofs.Try.f17.results.toList [(.int .i64, false)] (.int .i64) [3] p17) k (bodyOf Go.Proofs.Try.f17) ([(3, .row true 57 (.pair (.int .i64) (.int .i64)) a)] ++ initS 0 [.ref 3 none, .int .i64 k_]) = f17_0 k a k_ := by
  rw [w17_0]
  have h := q17_0 k
  unfold f17_0
  rw [← h]
theorem hp17 : ∀ x q, p17 x = some q → (o17 q.1, q.2) = x := by
  intro x q h
  unfold p17 at h
  split at h
  · cases h
    rfl
  · cases h
theorem m17 : MeetsIO Go.Proofs.Try.prog 17 [(.int .i64, false)] (.int .i64) (IO.G ⟨.slice 57 (.pair (.int .i64) (.int .i64)), g17, o17⟩) := meets_io_of_run tiOk env49_ok mo Go.Proofs.Try.func17 (body := bodyOf Go.Proofs.Try.f17) (by kernel_rfl) (N := 27) (by kernel_rfl) (pick := p17) (by kernel_rfl) hp17 (by
  intro k os xs r h
  have h : g17 k os xs = some r := h
  unfold g17 at h
  split at h
  · exact ⟨Nat.le_of_ble_eq_true rfl, by kernel_rfl, h17, (v17 k _ _ _).trans h⟩
  · exact ⟨Nat.le_of_ble_eq_true rfl, by kernel_rfl, h17_0, (v17_0 k _ _).trans h⟩
  · cases h)
theorem env50_ok : EnvOk Go.Proofs.Try.prog (envOf env50) := envOf_io rfl m17 Go.Proofs.Try.func17 (by kernel_rfl) (by kernel_rfl) env49_ok

def o18 (q : T (.slice 31 (.pair (.int .i64) (.pair (.slice 3 (.int .i64)) (.slice 3 (.int .i64)))))) : St := [(3, .deep 31 (.pair (.int .i64) (.pair (.slice 3 (.int .i64)) (.slice 3 (.int .i64)))) 0 (q) none)]
def p18 (x : St × T (.int .i64)) : Option (T (.slice 31 (.pair (.int .i64) (.pair (.slice 3 (.int .i64)) (.slice 3 (.int .i64))))) × T (.int .i64)) := match x with | ([(3, .deep 31 (.pair (.int .i64) (.pair (.slice 3 (.int .i64)) (.slice 3 (.int .i64)))) 0 a none)], r) => some (a, r) | _ => none
-- laws.markBoxS
def h18 : Hints := [(1002, .lab [(0, .one (.deep false 31 (Ty.pair (Ty.int IntKind.i64) (Ty.pair (Ty.slice 3 (Ty.int IntKind.i64)) (Ty.slice 3 (Ty.int IntKind.i64)))))), (1, .one (.v)), (5, .one (.v))])]
noncomputable def F18_1002 (k : Nat) (rec1002 : Int → Int → List (Int × List Int × List Int) → Option (((List (Int × (List (Int)) × List (Int)))) × Int)) (k_ : Int) (i : Int) (p3 : List (Int × List Int × List Int)) : Option (((List (Int × (List (Int)) × List (Int)))) × Int) :=
  bif decide (i < (↑(List.length p3) : Int)) then
    bif boundA i (List.length p3) then
      bif Nat.blt (Int.toNat i) (List.length p3) then
        bif boundA i (List.length (List.set p3 (Int.toNat i) (k_, (List.getD p3 (Int.toNat i) (0, [], [])).snd))) then
          bif Nat.blt (Int.toNat i) (List.length (List.set p3 (Int.toNat i) (k_, (List.getD p3 (Int.toNat i) (0, [], [])).snd))) then
            (f44_0 k (List.getD (List.set p3 (Int.toNat i) (k_, (List.getD p3 (Int.toNat i) (0, [], [])).snd)) (Int.toNat i) (0, [], [])).snd.fst (IntKind.wrap IntKind.i64 (k_ + 1))).bind fun r0 =>
            bif boundA i (List.length (List.set p3 (Int.toNat i) (k_, (List.getD p3 (Int.toNat i) (0, [], [])).snd))) then
              bif Nat.blt (Int.toNat i) (List.length (List.set (List.set p3 (Int.toNat i) (k_, (List.getD p3 (Int.toNat i) (0, [], [])).snd)) (Int.toNat i) ((List.getD (List.set p3 (Int.toNat i) (k_, (List.getD p3 (Int.toNat i) (0, [], [])).snd)) (Int.toNat i) (0, [], [])).fst, r0.fst, (List.getD (List.set p3 (Int.toNat i) (k_, (List.getD p3 (Int.toNat i) (0, [], [])).snd)) (Int.toNat i) (0, [], [])).snd.snd))) then
                (f44_0 k (List.getD (List.set (List.set p3 (Int.toNat i) (k_, (List.getD p3 (Int.toNat i) (0, [], [])).snd)) (Int.toNat i) ((List.getD (List.set p3 (Int.toNat i) (k_, (List.getD p3 (Int.toNat i) (0, [], [])).snd)) (Int.toNat i) (0, [], [])).fst, r0.fst, (List.getD (List.set p3 (Int.toNat i) (k_, (List.getD p3 (Int.toNat i) (0, [], [])).snd)) (Int.toNat i) (0, [], [])).snd.snd)) (Int.toNat i) (0, [], [])).snd.snd r0.snd).bind fun r1 =>
                rec1002 (r1.snd) (IntKind.wrap IntKind.i64 (i + 1)) (List.set (List.set (List.set p3 (Int.toNat i) (k_, (List.getD p3 (Int.toNat i) (0, [], [])).snd)) (Int.toNat i) ((List.getD (List.set p3 (Int.toNat i) (k_, (List.getD p3 (Int.toNat i) (0, [], [])).snd)) (Int.toNat i) (0, [], [])).fst, r0.fst, (List.getD (List.set p3 (Int.toNat i) (k_, (List.getD p3 (Int.toNat i) (0, [], [])).snd)) (Int.toNat i) (0, [], [])).snd.snd)) (Int.toNat i) ((List.getD (List.set (List.set p3 (Int.toNat i) (k_, (List.getD p3 (Int.toNat i) (0, [], [])).snd)) (Int.toNat i) ((List.getD (List.set p3 (Int.toNat i) (k_, (List.getD p3 (Int.toNat i) (0, [], [])).snd)) (Int.toNat i) (0, [], [])).fst, r0.fst, (List.getD (List.set p3 (Int.toNat i) (k_, (List.getD p3 (Int.toNat i) (0, [], [])).snd)) (Int.toNat i) (0, [], [])).snd.snd)) (Int.toNat i) (0, [], [])).fst, (List.getD (List.set (List.set p3 (Int.toNat i) (k_, (List.getD p3 (Int.toNat i) (0, [], [])).snd)) (Int.toNat i) ((List.getD (List.set p3 (Int.toNat i) (k_, (List.getD p3 (Int.toNat i) (0, [], [])).snd)) (Int.toNat i) (0, [], [])).fst, r0.fst, (List.getD (List.set p3 (Int.toNat i) (k_, (List.getD p3 (Int.toNat i) (0, [], [])).snd)) (Int.toNat i) (0, [], [])).snd.snd)) (Int.toNat i) (0, [], [])).snd.fst, r1.fst))
              else
                none
            else
              none
          else
            none
        else
          none
      else
        none
    else
      none
  else
    some ((p3, k_))
noncomputable def F18 (k : Nat) (rec1002 : Int → Int → List (Int × List Int × List Int) → Option (((List (Int × (List (Int)) × List (Int)))) × Int)) (a : List (Int × (List (Int)) × List (Int))) (k_ : Int) : Option (((List (Int × (List (Int)) × List (Int)))) × Int) :=
  rec1002 k_ (0) a
noncomputable def l18 : Nat → (Int → Int → List (Int × List Int × List Int) → Option (((List (Int × (List (Int)) × List (Int)))) × Int))
  | 0 => fun _ _ _ => none
  | k + 1 => F18_1002 k (l18 k)
noncomputable def f18 (k : Nat) (a : List (Int × (List (Int)) × List (Int))) (k_ : Int) : Option (((List (Int × (List (Int)) × List (Int)))) × Int) := F18 k (l18 k) a k_
noncomputable def g18 (k : Nat) (os : St) (xs : List AVal) : Option (T (.slice 31 (.pair (.int .i64) (.pair (.slice 3 (.int .i64)) (.slice 3 (.int .i64))))) × T (.int .i64)) := match os, xs with | [(3, .deep 31 (.pair (.int .i64) (.pair (.slice 3 (.int .i64)) (.slice 3 (.int .i64)))) 0 a none)], [.ref 3 none, .int .i64 k_] => f18 k a k_ | _, _ => none
noncomputable def s18 : Spec := ⟨false, [(.int .i64, false)], true, .int .i64, fun _ _ => none, false, some ⟨.slice 31 (.pair (.int .i64) (.pair (.slice 3 (.int .i64)) (.slice 3 (.int .i64)))), g18, o18⟩, false⟩
noncomputable def env51 : List (FuncId × Spec) := (18, s18) :: env50
noncomputable abbrev x18 := exec ti (envOf env50) 34 h18 (finJ ti Go.Proofs.Try.f18.results.toList [(.int .i64, false)] (.int .i64) [3] p18)
noncomputable def k18_1002 : List It := stackAt [.r, .l, .r, .b, .lb none] (bodyOf Go.Proofs.Try.f18) []
def t18_1002 (k_ : Int) (i : Int) (p3 : List (Int × List Int × List Int)) : St := [(0, Cell.val (AVal.ref 3 none)), (2, Cell.val (AVal.int IntKind.i64 k_)), (10, Cell.val (AVal.int IntKind.i64 i)), (3, Cell.deep 31 (Ty.pair (Ty.int IntKind.i64) (Ty.pair (Ty.slice 3 (Ty.int IntKind.i64)) (Ty.slice 3 (Ty.int IntKind.i64)))) 0 p3 none)]
theorem e18_1002 (k : Nat) (k_ : Int) (i : Int) (p3 : List (Int × List Int × List Int)) : x18 (k + 1) k18_1002 (t18_1002 k_ i p3) = F18_1002 k (fun (k_ : Int) (i : Int) (p3 : List (Int × List Int × List Int)) => x18 k k18_1002 (t18_1002 k_ i p3)) k_ i p3 := by kernel_rfl
theorem q18 : ∀ k : Nat, (fun (k_ : Int) (i : Int) (p3 : List (Int × List Int × List Int)) => x18 k k18_1002 (t18_1002 k_ i p3)) = l18 k
  | 0 => rfl
  | k + 1 => by
    have h := q18 k
    show _ = F18_1002 k (l18 k)
    rw [← h]
    exact (funext fun k_ => funext fun i => funext fun p3 => e18_1002 k k_ i p3)
theorem w18 (k : Nat) (a : List (Int × (List (Int)) × List (Int))) (k_ : Int) : runFn ti (envOf env50) 34 h18 (finJ ti Go.Proofs.Try.f18.results.toList [(.int .i64, false)] (.int .i64) [3] p18) k (bodyOf Go.Proofs.Try.f18) ([(3, .deep 31 (.pair (.int .i64) (.pair (.slice 3 (.int .i64)) (.slice 3 (.int .i64)))) 0 a none)] ++ initS 0 [.ref 3 none, .int .i64 k_]) = F18 k (fun (k_ : Int) (i : Int) (p3 : List (Int × List Int × List Int)) => x18 k k18_1002 (t18_1002 k_ i p3)) a k_ := by kernel_rfl
theorem v18 (k : Nat) (a : List (Int × (List (Int)) × List (Int))) (k_ : Int) : runFn ti (envOf env50) 34 h18 (finJ ti Go.Proofs.Try.f18.results.toList [(.int .i64, false)] (.int .i64) [3] p18) k (bodyOf Go.Proofs.Try.f18) ([(3, .deep 31 (.pair (.int .i64) (.pair (.slice 3 (.int .i64)) (.slice 3 (.int .i64)))) 0 a none)] ++ initS 0 [.ref 3 none, .int .i64 k_]) = f18 k a k_ := by
  rw [w18]
  have h := q18 k
  unfold f18
  rw [← h]
theorem hp18 : ∀ x q, p18 x = some q → (o18 q.1, q.2) = x := by
  intro x q h
  unfold p18 at h
  split at h
  · cases h
    rfl
  · cases h
theorem m18 : MeetsIO Go.Proofs.Try.prog 18 [(.int .i64, false)] (.int .i64) (IO.G ⟨.slice 31 (.pair (.int .i64) (.pair (.slice 3 (.int .i64)) (.slice 3 (.int .i64)))), g18, o18⟩) := meets_io_of_run tiOk env50_ok mo Go.Proofs.Try.func18 (body := bodyOf Go.Proofs.Try.f18) (by kernel_rfl) (N := 34) (by kernel_rfl) (pick := p18) (by kernel_rfl) hp18 (by
  intro k os xs r h
  have h : g18 k os xs = some r := h
  unfold g18 at h
  split at h
  · exact ⟨Nat.le_of_ble_eq_true rfl, by kernel_rfl, h18, (v18 k _ _).trans h⟩
  · cases h)
theorem env51_ok : EnvOk Go.Proofs.Try.prog (envOf env51) := envOf_io rfl m18 Go.Proofs.Try.func18 (by kernel_rfl) (by kernel_rfl) env50_ok

-- laws.heldIntS
def h45 : Hints := [(1002, .lab [(0, .one (.v)), (1, .one (.v)), (5, .one (.v))])]
noncomputable def F45_1002 (k : Nat) (rec1002 : List Int → Nat → Int → Int → Option (Int)) (a : List Int) (a_n : Nat) (k_ : Int) (i : Int) : Option (Int) :=
  bif decide (i < (↑a_n : Int)) then
    bif boundA i a_n then
      bif !decide (List.getD a (Int.toNat i) 0 = k_) then
        some (-1)
      else
        rec1002 a a_n (IntKind.wrap IntKind.i64 (k_ + 1)) (IntKind.wrap IntKind.i64 (i + 1))
    else
      none
  else
    some k_
noncomputable def F45 (k : Nat) (rec1002 : List Int → Nat → Int → Int → Option (Int)) (a : List (Int)) (a_n : Nat) (k_ : Int) : Option (Int) :=
  rec1002 a a_n k_ (0)
noncomputable def l45 : Nat → (List Int → Nat → Int → Int → Option (Int))
  | 0 => fun _ _ _ _ => none
  | k + 1 => F45_1002 k (l45 k)
noncomputable def f45 (k : Nat) (a : List (Int)) (a_n : Nat) (k_ : Int) : Option (Int) := F45 k (l45 k) a a_n k_
noncomputable def s45 : Spec := ⟨true, [(.int .i64, false)], true, .int .i64, fun k xs => match xs with | [.vslc 3 (.int .i64) a a_n, .int .i64 k_] => f45 k a a_n k_ | _ => none, false, none, false⟩
noncomputable def env52 : List (FuncId × Spec) := (45, s45) :: env51
noncomputable abbrev x45 := exec tiV (envOf env51) 21 h45 (finT tiV true Go.Proofs.Try.f45.results.toList [(.int .i64, false)] (.int .i64))
noncomputable def k45_1002 : List It := stackAt [.r, .l, .r, .b, .lb none] (bodyOf Go.Proofs.Try.f45) []
def t45_1002 (a : List Int) (a_n : Nat) (k_ : Int) (i : Int) : St := [(0, Cell.val (AVal.vslc 3 (Ty.int IntKind.i64) a a_n)), (2, Cell.val (AVal.int IntKind.i64 k_)), (10, Cell.val (AVal.int IntKind.i64 i))]
theorem e45_1002 (k : Nat) (a : List Int) (a_n : Nat) (k_ : Int) (i : Int) : x45 (k + 1) k45_1002 (t45_1002 a a_n k_ i) = F45_1002 k (fun (a : List Int) (a_n : Nat) (k_ : Int) (i : Int) => x45 k k45_1002 (t45_1002 a a_n k_ i)) a a_n k_ i := by kernel_rfl
theorem q45 : ∀ k : Nat, (fun (a : List Int) (a_n : Nat) (k_ : Int) (i : Int) => x45 k k45_1002 (t45_1002 a a_n k_ i)) = l45 k
  | 0 => rfl
  | k + 1 => by
    have h := q45 k
    show _ = F45_1002 k (l45 k)
    rw [← h]
    exact (funext fun a => funext fun a_n => funext fun k_ => funext fun i => e45_1002 k a a_n k_ i)
theorem w45 (k : Nat) (a : List (Int)) (a_n : Nat) (k_ : Int) : runFn tiV (envOf env51) 21 h45 (finT tiV true Go.Proofs.Try.f45.results.toList [(.int .i64, false)] (.int .i64)) k (bodyOf Go.Proofs.Try.f45) (initS 0 [.vslc 3 (.int .i64) a a_n, .int .i64 k_]) = F45 k (fun (a : List Int) (a_n : Nat) (k_ : Int) (i : Int) => x45 k k45_1002 (t45_1002 a a_n k_ i)) a a_n k_ := by kernel_rfl
theorem v45 (k : Nat) (a : List (Int)) (a_n : Nat) (k_ : Int) : runFn tiV (envOf env51) 21 h45 (finT tiV true Go.Proofs.Try.f45.results.toList [(.int .i64, false)] (.int .i64)) k (bodyOf Go.Proofs.Try.f45) (initS 0 [.vslc 3 (.int .i64) a a_n, .int .i64 k_]) = f45 k a a_n k_ := by
  rw [w45]
  have h := q45 k
  unfold f45
  rw [← h]
theorem m45 : Meets Go.Proofs.Try.prog 45 s45 := meets_of_run tiVOk env51_ok mo Go.Proofs.Try.func45 (body := bodyOf Go.Proofs.Try.f45) (by kernel_rfl) (N := 21) (by kernel_rfl) (hs := h45) (by
  intro k xs r h
  unfold s45 at h
  dsimp only at h
  split at h
  · exact ⟨Nat.le_of_ble_eq_true rfl, (v45 k _ _ _).trans h⟩
  · cases h)
theorem env52_ok : EnvOk Go.Proofs.Try.prog (envOf env52) := envOf_cons m45 Go.Proofs.Try.func45 (by kernel_rfl) (by kernel_rfl) env51_ok

-- laws.heldBoxS
def h19 : Hints := [(1002, .lab [(0, .one (.frz 31 (Ty.pair (Ty.int IntKind.i64) (Ty.pair (Ty.slice 3 (Ty.int IntKind.i64)) (Ty.slice 3 (Ty.int IntKind.i64)))))), (1, .one (.v)), (5, .one (.v))])]
noncomputable def F19_1002 (k : Nat) (rec1002 : List (Int × List Int × List Int) → Int → Int → Option (Int)) (a : List (Int × List Int × List Int)) (k_ : Int) (i : Int) : Option (Int) :=
  bif decide (i < (↑(List.length a) : Int)) then
    bif boundA i (List.length a) then
      bif !decide ((List.getD a (Int.toNat i) (0, [], [])).fst = k_) then
        some (-1)
      else
        bif boundA i (List.length a) then
          (f45 k (List.getD a (Int.toNat i) (0, [], [])).snd.fst (List.length (List.getD a (Int.toNat i) (0, [], [])).snd.fst) (IntKind.wrap IntKind.i64 (k_ + 1))).bind fun r0 =>
          bif decide (r0 < 0) then
            some (-1)
          else
            bif boundA i (List.length a) then
              (f45 k (List.getD a (Int.toNat i) (0, [], [])).snd.snd (List.length (List.getD a (Int.toNat i) (0, [], [])).snd.snd) r0).bind fun r1 =>
              bif decide (r1 < 0) then
                some (-1)
              else
                rec1002 a r1 (IntKind.wrap IntKind.i64 (i + 1))
            else
              none
        else
          none
    else
      none
  else
    some k_
noncomputable def F19 (k : Nat) (rec1002 : List (Int × List Int × List Int) → Int → Int → Option (Int)) (a : List (Int × (List (Int)) × List (Int))) (k_ : Int) : Option (Int) :=
  rec1002 a k_ (0)
noncomputable def l19 : Nat → (List (Int × List Int × List Int) → Int → Int → Option (Int))
  | 0 => fun _ _ _ => none
  | k + 1 => F19_1002 k (l19 k)
noncomputable def f19 (k : Nat) (a : List (Int × (List (Int)) × List (Int))) (k_ : Int) : Option (Int) := F19 k (l19 k) a k_
noncomputable def s19 : Spec := ⟨false, [(.int .i64, false)], true, .int .i64, fun k xs => match xs with | [.slc 31 (.pair (.int .i64) (.pair (.slice 3 (.int .i64)) (.slice 3 (.int .i64)))) a, .int .i64 k_] => f19 k a k_ | _ => none, false, none, false⟩
noncomputable def env53 : List (FuncId × Spec) := (19, s19) :: env52
noncomputable abbrev x19 := exec ti (envOf env52) 40 h19 (finT ti true Go.Proofs.Try.f19.results.toList [(.int .i64, false)] (.int .i64))
noncomputable def k19_1002 : List It := stackAt [.r, .l, .r, .b, .lb none] (bodyOf Go.Proofs.Try.f19) []
def t19_1002 (a : List (Int × List Int × List Int)) (k_ : Int) (i : Int) : St := [(0, Cell.val (AVal.slc 31 (Ty.pair (Ty.int IntKind.i64) (Ty.pair (Ty.slice 3 (Ty.int IntKind.i64)) (Ty.slice 3 (Ty.int IntKind.i64)))) a)), (2, Cell.val (AVal.int IntKind.i64 k_)), (10, Cell.val (AVal.int IntKind.i64 i))]
theorem e19_1002 (k : Nat) (a : List (Int × List Int × List Int)) (k_ : Int) (i : Int) : x19 (k + 1) k19_1002 (t19_1002 a k_ i) = F19_1002 k (fun (a : List (Int × List Int × List Int)) (k_ : Int) (i : Int) => x19 k k19_1002 (t19_1002 a k_ i)) a k_ i := by kernel_rfl
theorem q19 : ∀ k : Nat, (fun (a : List (Int × List Int × List Int)) (k_ : Int) (i : Int) => x19 k k19_1002 (t19_1002 a k_ i)) = l19 k
  | 0 => rfl
  | k + 1 => by
    have h := q19 k
    show _ = F19_1002 k (l19 k)
    rw [← h]
    exact (funext fun a => funext fun k_ => funext fun i => e19_1002 k a k_ i)
theorem w19 (k : Nat) (a : List (Int × (List (Int)) × List (Int))) (k_ : Int) : runFn ti (envOf env52) 40 h19 (finT ti true Go.Proofs.Try.f19.results.toList [(.int .i64, false)] (.int .i64)) k (bodyOf Go.Proofs.Try.f19) (initS 0 [.slc 31 (.pair (.int .i64) (.pair (.slice 3 (.int .i64)) (.slice 3 (.int .i64)))) a, .int .i64 k_]) = F19 k (fun (a : List (Int × List Int × List Int)) (k_ : Int) (i : Int) => x19 k k19_1002 (t19_1002 a k_ i)) a k_ := by kernel_rfl
theorem v19 (k : Nat) (a : List (Int × (List (Int)) × List (Int))) (k_ : Int) : runFn ti (envOf env52) 40 h19 (finT ti true Go.Proofs.Try.f19.results.toList [(.int .i64, false)] (.int .i64)) k (bodyOf Go.Proofs.Try.f19) (initS 0 [.slc 31 (.pair (.int .i64) (.pair (.slice 3 (.int .i64)) (.slice 3 (.int .i64)))) a, .int .i64 k_]) = f19 k a k_ := by
  rw [w19]
  have h := q19 k
  unfold f19
  rw [← h]
theorem m19 : Meets Go.Proofs.Try.prog 19 s19 := meets_of_run tiOk env52_ok mo Go.Proofs.Try.func19 (body := bodyOf Go.Proofs.Try.f19) (by kernel_rfl) (N := 40) (by kernel_rfl) (hs := h19) (by
  intro k xs r h
  unfold s19 at h
  dsimp only at h
  split at h
  · exact ⟨Nat.le_of_ble_eq_true rfl, (v19 k _ _).trans h⟩
  · cases h)
theorem env53_ok : EnvOk Go.Proofs.Try.prog (envOf env53) := envOf_cons m19 Go.Proofs.Try.func19 (by kernel_rfl) (by kernel_rfl) env52_ok

-- laws.FnExactBoxesOf
noncomputable def f3 (k : Nat) (L_K : Int) (L_Low : List (Int)) (L_High : List (Int)) (i : List (Int × Int)) : Option (Bool) :=
  (f7 k L_K L_Low L_High 1000000).bind fun r0 =>
  bif decide (r0 < 0) then
    some true
  else
    (f8 k i r0).bind fun r1 =>
    bif decide (r1 < 0) then
      some true
    else
      (f10 k L_K L_Low L_High false).bind fun r2 =>
      (f11 k i false).bind fun r3 =>
      (f9 k r2.fst (List.take r2.snd.fst.snd r2.snd.fst.fst) (List.take r2.snd.snd.snd r2.snd.snd.fst) (List.take r3.snd r3.fst)).bind fun r4 =>
      (f10 k L_K L_Low L_High false).bind fun r5 =>
      (f11 k i false).bind fun r6 =>
      (f12 k r5.fst (List.take r5.snd.fst.snd r5.snd.fst.fst) (List.take r5.snd.snd.snd r5.snd.snd.fst) (List.take r6.snd r6.fst)).bind fun r7 =>
      (f13 k r7.fst r4.fst).bind fun r8 =>
      bif !r8 then
        some false
      else
        bif !r7.snd == r4.snd then
          some false
        else
          (f10 k L_K L_Low L_High false).bind fun r9 =>
          (f14 k r5.fst r5.snd.fst.fst r5.snd.fst.snd r5.snd.snd.fst r5.snd.snd.snd r9.fst r9.snd.fst.fst r9.snd.fst.snd r9.snd.snd.fst r9.snd.snd.snd).bind fun r10 =>
          bif !r10 then
            some false
          else
            (f11 k i false).bind fun r11 =>
            (f15 k r6.fst r6.snd r11.fst r11.snd).bind fun r12 =>
            bif !r12 then
              some false
            else
              (f16 k r5.snd.fst.fst r5.snd.snd.fst r5.fst r5.snd.fst.snd r5.snd.snd.snd 101).bind fun r13 =>
              (f17 k r6.fst r6.snd r13.snd).bind fun r14 =>
              bif decide (r14.snd < 0) then
                some false
              else
                (f13 k r7.fst r4.fst).bind fun r15 =>
                bif !r15 then
                  some false
                else
                  bif !r7.snd == r4.snd then
                    some false
                  else
                    (f18 k r7.fst 101).bind fun r16 =>
                    (f19 k r16.fst 101).bind fun r17 =>
                    bif decide (r17 < 0) then
                      some false
                    else
                      bif !decide (r17 = r16.snd) then
                        some false
                      else
                        (f10 k L_K L_Low L_High true).bind fun r18 =>
                        (f11 k i true).bind fun r19 =>
                        (f12 k r18.fst (List.take r18.snd.fst.snd r18.snd.fst.fst) (List.take r18.snd.snd.snd r18.snd.snd.fst) (List.take r19.snd r19.fst)).bind fun r20 =>
                        (f13 k r20.fst r4.fst).bind fun r21 =>
                        bif !r21 then
                          some false
                        else
                          bif !r20.snd == r4.snd then
                            some false
                          else
                            (f19 k r16.fst 101).bind fun r22 =>
                            bif decide (r22 < 0) then
                              some false
                            else
                              bif !decide (r22 = r16.snd) then
                                some false
                              else
                                some true
noncomputable def s3 : Spec := ⟨false, [(.bool, false)], true, .bool, fun k xs => match xs with | [.agg [.int .i64 L_K, .slc 3 (.int .i64) L_Low, .slc 3 (.int .i64) L_High], .slc 59 (.pair (.int .i64) (.int .i64)) i] => f3 k L_K L_Low L_High i | _ => none, false, none, false⟩
noncomputable def env54 : List (FuncId × Spec) := (3, s3) :: env53
theorem v3 (k : Nat) (L_K : Int) (L_Low : List (Int)) (L_High : List (Int)) (i : List (Int × Int)) : runFn tiV (envOf env53) 119 [] (finT tiV true Go.Proofs.Try.f3.results.toList [(.bool, false)] (.bool)) k (bodyOf Go.Proofs.Try.f3) (initS 0 [.agg [.int .i64 L_K, .slc 3 (.int .i64) L_Low, .slc 3 (.int .i64) L_High], .slc 59 (.pair (.int .i64) (.int .i64)) i]) = f3 k L_K L_Low L_High i := by kernel_rfl
theorem m3 : Meets Go.Proofs.Try.prog 3 s3 := meets_of_run tiVOk env53_ok mo Go.Proofs.Try.func3 (body := bodyOf Go.Proofs.Try.f3) (by kernel_rfl) (N := 119) (by kernel_rfl) (hs := []) (by
  intro k xs r h
  unfold s3 at h
  dsimp only at h
  split at h
  · exact ⟨Nat.le_of_ble_eq_true rfl, (v3 k _ _ _ _).trans h⟩
  · cases h)
theorem env54_ok : EnvOk Go.Proofs.Try.prog (envOf env54) := envOf_cons m3 Go.Proofs.Try.func3 (by kernel_rfl) (by kernel_rfl) env53_ok

-- spec.rpAsked
noncomputable def f46 (k : Nat) (b_K : Int) (b_Low : List (Int)) (b_High : List (Int)) (l : List (Int × Int)) : Option ((List (Int × (List (Int)) × List (Int))) × Bool) :=
  (f32 k b_K b_Low b_High).bind fun r0 =>
  bif !r0 then
    some (([], false))
  else
    (f33 k l (↑(List.length b_Low) : Int)).bind fun r1 =>
    bif !r1 then
      some (([], false))
    else
      (f34 k b_K b_Low b_High l).bind fun r2 =>
      some ((r2.fst, r2.snd))
noncomputable def s46 : Spec := ⟨false, [(.slice 31 (.pair (.int .i64) (.pair (.slice 3 (.int .i64)) (.slice 3 (.int .i64)))), false), (.bool, false)], true, .pair (.slice 31 (.pair (.int .i64) (.pair (.slice 3 (.int .i64)) (.slice 3 (.int .i64))))) (.bool), fun k xs => match xs with | [.agg [.int .i64 b_K, .slc 3 (.int .i64) b_Low, .slc 3 (.int .i64) b_High], .slc 57 (.pair (.int .i64) (.int .i64)) l] => f46 k b_K b_Low b_High l | _ => none, false, none, false⟩
noncomputable def env55 : List (FuncId × Spec) := (46, s46) :: env54
theorem v46 (k : Nat) (b_K : Int) (b_Low : List (Int)) (b_High : List (Int)) (l : List (Int × Int)) : runFn ti (envOf env54) 22 [] (finT ti true Go.Proofs.Try.f46.results.toList [(.slice 31 (.pair (.int .i64) (.pair (.slice 3 (.int .i64)) (.slice 3 (.int .i64)))), false), (.bool, false)] (.pair (.slice 31 (.pair (.int .i64) (.pair (.slice 3 (.int .i64)) (.slice 3 (.int .i64))))) (.bool))) k (bodyOf Go.Proofs.Try.f46) (initS 0 [.agg [.int .i64 b_K, .slc 3 (.int .i64) b_Low, .slc 3 (.int .i64) b_High], .slc 57 (.pair (.int .i64) (.int .i64)) l]) = f46 k b_K b_Low b_High l := by kernel_rfl
theorem m46 : Meets Go.Proofs.Try.prog 46 s46 := meets_of_run tiOk env54_ok mo Go.Proofs.Try.func46 (body := bodyOf Go.Proofs.Try.f46) (by kernel_rfl) (N := 22) (by kernel_rfl) (hs := []) (by
  intro k xs r h
  unfold s46 at h
  dsimp only at h
  split at h
  · exact ⟨Nat.le_of_ble_eq_true rfl, (v46 k _ _ _ _).trans h⟩
  · cases h)
theorem env55_ok : EnvOk Go.Proofs.Try.prog (envOf env55) := envOf_cons m46 Go.Proofs.Try.func46 (by kernel_rfl) (by kernel_rfl) env54_ok

-- spec.rpKind
noncomputable def f47 (k : Nat) (kind : Int) : Option (Bool) :=
  (f60 k kind 1 3).bind fun r0 =>
  some r0
noncomputable def s47 : Spec := ⟨false, [(.bool, false)], true, .bool, fun k xs => match xs with | [.int .i64 kind] => f47 k kind | _ => none, false, none, false⟩
noncomputable def env56 : List (FuncId × Spec) := (47, s47) :: env55
theorem v47 (k : Nat) (kind : Int) : runFn ti (envOf env55) 5 [] (finT ti true Go.Proofs.Try.f47.results.toList [(.bool, false)] (.bool)) k (bodyOf Go.Proofs.Try.f47) (initS 0 [.int .i64 kind]) = f47 k kind := by kernel_rfl
theorem m47 : Meets Go.Proofs.Try.prog 47 s47 := meets_of_run tiOk env55_ok mo Go.Proofs.Try.func47 (body := bodyOf Go.Proofs.Try.f47) (by kernel_rfl) (N := 5) (by kernel_rfl) (hs := []) (by
  intro k xs r h
  unfold s47 at h
  dsimp only at h
  split at h
  · exact ⟨Nat.le_of_ble_eq_true rfl, (v47 k _).trans h⟩
  · cases h)
theorem env56_ok : EnvOk Go.Proofs.Try.prog (envOf env56) := envOf_cons m47 Go.Proofs.Try.func47 (by kernel_rfl) (by kernel_rfl) env55_ok

-- spec.rpLeaves
def h48 : Hints := [(1003, .lab [(3, .one (.own 57 (Ty.pair (Ty.int IntKind.i64) (Ty.int IntKind.i64)))), (6, .one (.frz 57 (Ty.pair (Ty.int IntKind.i64) (Ty.int IntKind.i64)))), (7, .one (.v)), (8, .one (.v))])]
noncomputable def F48_1003 (k : Nat) (rec1003 : List (Int × Int) → List (Int × Int) → Int → Int → Option (List (Int × Int))) (outs : List (Int × Int)) (t6 : List (Int × Int)) (t7 : Int) (t8 : Int) : Option (List (Int × Int)) :=
  bif decide (t8 < t7) then
    bif boundA t8 (List.length t6) then
      bif !decide ((List.getD t6 (Int.toNat t8) (0, 0)).fst = 0) then
        bif decide ((List.length outs + List.length [((List.getD t6 (Int.toNat t8) (0, 0)).fst, (List.getD t6 (Int.toNat t8) (0, 0)).snd)]) * 16 ≤ 140737488355328) then
          rec1003 (outs ++ [((List.getD t6 (Int.toNat t8) (0, 0)).fst, (List.getD t6 (Int.toNat t8) (0, 0)).snd)]) t6 t7 (IntKind.wrap IntKind.i64 (t8 + 1))
        else
          none
      else
        rec1003 outs t6 t7 (IntKind.wrap IntKind.i64 (t8 + 1))
    else
      none
  else
    some outs
noncomputable def F48 (k : Nat) (rec1003 : List (Int × Int) → List (Int × Int) → Int → Int → Option (List (Int × Int))) (l : List (Int × Int)) : Option (List (Int × Int)) :=
  rec1003 ([]) l ((↑(List.length l) : Int)) (0)
noncomputable def l48 : Nat → (List (Int × Int) → List (Int × Int) → Int → Int → Option (List (Int × Int)))
  | 0 => fun _ _ _ _ => none
  | k + 1 => F48_1003 k (l48 k)
noncomputable def f48 (k : Nat) (l : List (Int × Int)) : Option (List (Int × Int)) := F48 k (l48 k) l
noncomputable def s48 : Spec := ⟨false, [(.slice 57 (.pair (.int .i64) (.int .i64)), false)], true, .slice 57 (.pair (.int .i64) (.int .i64)), fun k xs => match xs with | [.slc 57 (.pair (.int .i64) (.int .i64)) l] => f48 k l | _ => none, false, none, false⟩
noncomputable def env57 : List (FuncId × Spec) := (48, s48) :: env56
noncomputable abbrev x48 := exec ti (envOf env56) 21 h48 (finT ti true Go.Proofs.Try.f48.results.toList [(.slice 57 (.pair (.int .i64) (.int .i64)), false)] (.slice 57 (.pair (.int .i64) (.int .i64))))
noncomputable def k48_1003 : List It := stackAt [.r, .r, .l, .r, .b, .lb none] (bodyOf Go.Proofs.Try.f48) []
def t48_1003 (outs : List (Int × Int)) (t6 : List (Int × Int)) (t7 : Int) (t8 : Int) : St := [(6, Cell.val (AVal.ref 33 none)), (33, Cell.row true 57 (Ty.pair (Ty.int IntKind.i64) (Ty.int IntKind.i64)) outs), (12, Cell.val (AVal.slc 57 (Ty.pair (Ty.int IntKind.i64) (Ty.int IntKind.i64)) t6)), (14, Cell.val (AVal.int IntKind.i64 t7)), (16, Cell.val (AVal.int IntKind.i64 t8))]
theorem e48_1003 (k : Nat) (outs : List (Int × Int)) (t6 : List (Int × Int)) (t7 : Int) (t8 : Int) : x48 (k + 1) k48_1003 (t48_1003 outs t6 t7 t8) = F48_1003 k (fun (outs : List (Int × Int)) (t6 : List (Int × Int)) (t7 : Int) (t8 : Int) => x48 k k48_1003 (t48_1003 outs t6 t7 t8)) outs t6 t7 t8 := by kernel_rfl
theorem q48 : ∀ k : Nat, (fun (outs : List (Int × Int)) (t6 : List (Int × Int)) (t7 : Int) (t8 : Int) => x48 k k48_1003 (t48_1003 outs t6 t7 t8)) = l48 k
  | 0 => rfl
  | k + 1 => by
    have h := q48 k
    show _ = F48_1003 k (l48 k)
    rw [← h]
    exact (funext fun outs => funext fun t6 => funext fun t7 => funext fun t8 => e48_1003 k outs t6 t7 t8)
theorem w48 (k : Nat) (l : List (Int × Int)) : runFn ti (envOf env56) 21 h48 (finT ti true Go.Proofs.Try.f48.results.toList [(.slice 57 (.pair (.int .i64) (.int .i64)), false)] (.slice 57 (.pair (.int .i64) (.int .i64)))) k (bodyOf Go.Proofs.Try.f48) (initS 0 [.slc 57 (.pair (.int .i64) (.int .i64)) l]) = F48 k (fun (outs : List (Int × Int)) (t6 : List (Int × Int)) (t7 : Int) (t8 : Int) => x48 k k48_1003 (t48_1003 outs t6 t7 t8)) l := by kernel_rfl
theorem v48 (k : Nat) (l : List (Int × Int)) : runFn ti (envOf env56) 21 h48 (finT ti true Go.Proofs.Try.f48.results.toList [(.slice 57 (.pair (.int .i64) (.int .i64)), false)] (.slice 57 (.pair (.int .i64) (.int .i64)))) k (bodyOf Go.Proofs.Try.f48) (initS 0 [.slc 57 (.pair (.int .i64) (.int .i64)) l]) = f48 k l := by
  rw [w48]
  have h := q48 k
  unfold f48
  rw [← h]
theorem m48 : Meets Go.Proofs.Try.prog 48 s48 := meets_of_run tiOk env56_ok mo Go.Proofs.Try.func48 (body := bodyOf Go.Proofs.Try.f48) (by kernel_rfl) (N := 21) (by kernel_rfl) (hs := h48) (by
  intro k xs r h
  unfold s48 at h
  dsimp only at h
  split at h
  · exact ⟨Nat.le_of_ble_eq_true rfl, (v48 k _).trans h⟩
  · cases h)
theorem env57_ok : EnvOk Go.Proofs.Try.prog (envOf env57) := envOf_cons m48 Go.Proofs.Try.func48 (by kernel_rfl) (by kernel_rfl) env56_ok

-- spec.BoxesOfKind
def h20 : Hints := [(1006, .lab [(2, .one (.v)), (8, .one (.own 31 (Ty.pair (Ty.int IntKind.i64) (Ty.pair (Ty.slice 3 (Ty.int IntKind.i64)) (Ty.slice 3 (Ty.int IntKind.i64)))))), (10, .one (.own 31 (Ty.pair (Ty.int IntKind.i64) (Ty.pair (Ty.slice 3 (Ty.int IntKind.i64)) (Ty.slice 3 (Ty.int IntKind.i64)))))), (27, .one (.own 57 (Ty.pair (Ty.int IntKind.i64) (Ty.int IntKind.i64)))), (28, .one (.v)), (29, .one (.v))])]
noncomputable def F20_1006 (k : Nat) (rec1006 : Int → List (Int × List Int × List Int) → List (Int × List Int × List Int) → List (Int × Int) → Int → Int → Option ((List (Int × (List (Int)) × List (Int))) × Bool)) (kind : Int) (boxess : List (Int × List Int × List Int)) (outs : List (Int × List Int × List Int)) (t27s : List (Int × Int)) (t28 : Int) (t29 : Int) : Option ((List (Int × (List (Int)) × List (Int))) × Bool) :=
  bif decide (t29 < t28) then
    bif boundA t29 (List.length t27s) then
      bif Nat.blt (Int.toNat t29) (List.length t27s) then
        bif decide ((List.getD t27s (Int.toNat t29) (0, 0)).fst = kind) then
          bif boundA t29 (List.length boxess) then
            bif Nat.blt (Int.toNat t29) (List.length boxess) then
              bif decide ((List.length outs + List.length [((List.getD boxess (Int.toNat t29) (0, [], [])).fst, (List.getD boxess (Int.toNat t29) (0, [], [])).snd.fst, (List.getD boxess (Int.toNat t29) (0, [], [])).snd.snd)]) * 56 ≤ 140737488355328) then
                rec1006 kind boxess (outs ++ [((List.getD boxess (Int.toNat t29) (0, [], [])).fst, (List.getD boxess (Int.toNat t29) (0, [], [])).snd.fst, (List.getD boxess (Int.toNat t29) (0, [], [])).snd.snd)]) t27s t28 (IntKind.wrap IntKind.i64 (t29 + 1))
              else
                none
            else
              none
          else
            none
        else
          rec1006 kind boxess outs t27s t28 (IntKind.wrap IntKind.i64 (t29 + 1))
      else
        none
    else
      none
  else
    some ((outs, true))
noncomputable def F20 (k : Nat) (rec1006 : Int → List (Int × List Int × List Int) → List (Int × List Int × List Int) → List (Int × Int) → Int → Int → Option ((List (Int × (List (Int)) × List (Int))) × Bool)) (b_K : Int) (b_Low : List (Int)) (b_High : List (Int)) (l : List (Int × Int)) (kind : Int) : Option ((List (Int × (List (Int)) × List (Int))) × Bool) :=
  (f46 k b_K b_Low b_High l).bind fun r0 =>
  bif !r0.snd then
    some (([], false))
  else
    (f47 k kind).bind fun r1 =>
    bif !r1 then
      some (([], false))
    else
      (f48 k l).bind fun r2 =>
      rec1006 kind (r0.fst) ([]) r2 ((↑(List.length r2) : Int)) (0)
noncomputable def l20 : Nat → (Int → List (Int × List Int × List Int) → List (Int × List Int × List Int) → List (Int × Int) → Int → Int → Option ((List (Int × (List (Int)) × List (Int))) × Bool))
  | 0 => fun _ _ _ _ _ _ => none
  | k + 1 => F20_1006 k (l20 k)
noncomputable def f20 (k : Nat) (b_K : Int) (b_Low : List (Int)) (b_High : List (Int)) (l : List (Int × Int)) (kind : Int) : Option ((List (Int × (List (Int)) × List (Int))) × Bool) := F20 k (l20 k) b_K b_Low b_High l kind
noncomputable def s20 : Spec := ⟨false, [(.slice 31 (.pair (.int .i64) (.pair (.slice 3 (.int .i64)) (.slice 3 (.int .i64)))), false), (.bool, false)], true, .pair (.slice 31 (.pair (.int .i64) (.pair (.slice 3 (.int .i64)) (.slice 3 (.int .i64))))) (.bool), fun k xs => match xs with | [.agg [.int .i64 b_K, .slc 3 (.int .i64) b_Low, .slc 3 (.int .i64) b_High], .slc 57 (.pair (.int .i64) (.int .i64)) l, .int .i64 kind] => f20 k b_K b_Low b_High l kind | _ => none, false, none, false⟩
noncomputable def env58 : List (FuncId × Spec) := (20, s20) :: env57
noncomputable abbrev x20 := exec ti (envOf env57) 47 h20 (finT ti true Go.Proofs.Try.f20.results.toList [(.slice 31 (.pair (.int .i64) (.pair (.slice 3 (.int .i64)) (.slice 3 (.int .i64)))), false), (.bool, false)] (.pair (.slice 31 (.pair (.int .i64) (.pair (.slice 3 (.int .i64)) (.slice 3 (.int .i64))))) (.bool)))
noncomputable def k20_1006 : List It := stackAt [.r, .r, .r, .r, .l, .r, .b, .lb none] (bodyOf Go.Proofs.Try.f20) []
def t20_1006 (kind : Int) (boxess : List (Int × List Int × List Int)) (outs : List (Int × List Int × List Int)) (t27s : List (Int × Int)) (t28 : Int) (t29 : Int) : St := [(4, Cell.val (AVal.int IntKind.i64 kind)), (16, Cell.val (AVal.ref 33 none)), (33, Cell.row true 31 (Ty.pair (Ty.int IntKind.i64) (Ty.pair (Ty.slice 3 (Ty.int IntKind.i64)) (Ty.slice 3 (Ty.int IntKind.i64)))) boxess), (20, Cell.val (AVal.ref 35 none)), (35, Cell.row true 31 (Ty.pair (Ty.int IntKind.i64) (Ty.pair (Ty.slice 3 (Ty.int IntKind.i64)) (Ty.slice 3 (Ty.int IntKind.i64)))) outs), (54, Cell.val (AVal.ref 37 none)), (37, Cell.row true 57 (Ty.pair (Ty.int IntKind.i64) (Ty.int IntKind.i64)) t27s), (56, Cell.val (AVal.int IntKind.i64 t28)), (58, Cell.val (AVal.int IntKind.i64 t29))]
theorem e20_1006 (k : Nat) (kind : Int) (boxess : List (Int × List Int × List Int)) (outs : List (Int × List Int × List Int)) (t27s : List (Int × Int)) (t28 : Int) (t29 : Int) : x20 (k + 1) k20_1006 (t20_1006 kind boxess outs t27s t28 t29) = F20_1006 k (fun (kind : Int) (boxess : List (Int × List Int × List Int)) (outs : List (Int × List Int × List Int)) (t27s : List (Int × Int)) (t28 : Int) (t29 : Int) => x20 k k20_1006 (t20_1006 kind boxess outs t27s t28 t29)) kind boxess outs t27s t28 t29 := by kernel_rfl
theorem q20 : ∀ k : Nat, (fun (kind : Int) (boxess : List (Int × List Int × List Int)) (outs : List (Int × List Int × List Int)) (t27s : List (Int × Int)) (t28 : Int) (t29 : Int) => x20 k k20_1006 (t20_1006 kind boxess outs t27s t28 t29)) = l20 k
  | 0 => rfl
  | k + 1 => by
    have h := q20 k
    show _ = F20_1006 k (l20 k)
    rw [← h]
    exact (funext fun kind => funext fun boxess => funext fun outs => funext fun t27s => funext fun t28 => funext fun t29 => e20_1006 k kind boxess outs t27s t28 t29)
theorem w20 (k : Nat) (b_K : Int) (b_Low : List (Int)) (b_High : List (Int)) (l : List (Int × Int)) (kind : Int) : runFn ti (envOf env57) 47 h20 (finT ti true Go.Proofs.Try.f20.results.toList [(.slice 31 (.pair (.int .i64) (.pair (.slice 3 (.int .i64)) (.slice 3 (.int .i64)))), false), (.bool, false)] (.pair (.slice 31 (.pair (.int .i64) (.pair (.slice 3 (.int .i64)) (.slice 3 (.int .i64))))) (.bool))) k (bodyOf Go.Proofs.Try.f20) (initS 0 [.agg [.int .i64 b_K, .slc 3 (.int .i64) b_Low, .slc 3 (.int .i64) b_High], .slc 57 (.pair (.int .i64) (.int .i64)) l, .int .i64 kind]) = F20 k (fun (kind : Int) (boxess : List (Int × List Int × List Int)) (outs : List (Int × List Int × List Int)) (t27s : List (Int × Int)) (t28 : Int) (t29 : Int) => x20 k k20_1006 (t20_1006 kind boxess outs t27s t28 t29)) b_K b_Low b_High l kind := by kernel_rfl
theorem v20 (k : Nat) (b_K : Int) (b_Low : List (Int)) (b_High : List (Int)) (l : List (Int × Int)) (kind : Int) : runFn ti (envOf env57) 47 h20 (finT ti true Go.Proofs.Try.f20.results.toList [(.slice 31 (.pair (.int .i64) (.pair (.slice 3 (.int .i64)) (.slice 3 (.int .i64)))), false), (.bool, false)] (.pair (.slice 31 (.pair (.int .i64) (.pair (.slice 3 (.int .i64)) (.slice 3 (.int .i64))))) (.bool))) k (bodyOf Go.Proofs.Try.f20) (initS 0 [.agg [.int .i64 b_K, .slc 3 (.int .i64) b_Low, .slc 3 (.int .i64) b_High], .slc 57 (.pair (.int .i64) (.int .i64)) l, .int .i64 kind]) = f20 k b_K b_Low b_High l kind := by
  rw [w20]
  have h := q20 k
  unfold f20
  rw [← h]
theorem m20 : Meets Go.Proofs.Try.prog 20 s20 := meets_of_run tiOk env57_ok mo Go.Proofs.Try.func20 (body := bodyOf Go.Proofs.Try.f20) (by kernel_rfl) (N := 47) (by kernel_rfl) (hs := h20) (by
  intro k xs r h
  unfold s20 at h
  dsimp only at h
  split at h
  · exact ⟨Nat.le_of_ble_eq_true rfl, (v20 k _ _ _ _ _).trans h⟩
  · cases h)
theorem env58_ok : EnvOk Go.Proofs.Try.prog (envOf env58) := envOf_cons m20 Go.Proofs.Try.func20 (by kernel_rfl) (by kernel_rfl) env57_ok

-- impl.treeFits
noncomputable def f49 (k : Nat) (b : Int × (List (Int)) × List (Int)) (l : List (Int × Int)) : Option (Bool) :=
  (f39 k b).bind fun r0 =>
  bif !r0 then
    some false
  else
    (f40 k l (↑(List.length b.snd.fst) : Int)).bind fun r1 =>
    bif !r1 then
      some false
    else
      (f41 k b l).bind fun r2 =>
      some (r2.snd)
noncomputable def s49 : Spec := ⟨false, [(.bool, false)], true, .bool, fun k xs => match xs with | [.fptr (.pair (.int .i64) (.pair (.slice 3 (.int .i64)) (.slice 3 (.int .i64)))) b, .slc 57 (.pair (.int .i64) (.int .i64)) l] => f49 k b l | _ => none, false, none, false⟩
noncomputable def env59 : List (FuncId × Spec) := (49, s49) :: env58
theorem v49 (k : Nat) (b : Int × (List (Int)) × List (Int)) (l : List (Int × Int)) : runFn ti (envOf env58) 27 [] (finT ti true Go.Proofs.Try.f49.results.toList [(.bool, false)] (.bool)) k (bodyOf Go.Proofs.Try.f49) (initS 0 [.fptr (.pair (.int .i64) (.pair (.slice 3 (.int .i64)) (.slice 3 (.int .i64)))) b, .slc 57 (.pair (.int .i64) (.int .i64)) l]) = f49 k b l := by kernel_rfl
theorem m49 : Meets Go.Proofs.Try.prog 49 s49 := meets_of_run tiOk env58_ok mo Go.Proofs.Try.func49 (body := bodyOf Go.Proofs.Try.f49) (by kernel_rfl) (N := 27) (by kernel_rfl) (hs := []) (by
  intro k xs r h
  unfold s49 at h
  dsimp only at h
  split at h
  · exact ⟨Nat.le_of_ble_eq_true rfl, (v49 k _ _).trans h⟩
  · cases h)
theorem env59_ok : EnvOk Go.Proofs.Try.prog (envOf env59) := envOf_cons m49 Go.Proofs.Try.func49 (by kernel_rfl) (by kernel_rfl) env58_ok

-- impl.isLeafKind
noncomputable def f50 (k : Nat) (kind : Int) : Option (Bool) :=
  (f65 k kind 1 3).bind fun r0 =>
  some r0
noncomputable def s50 : Spec := ⟨false, [(.bool, false)], true, .bool, fun k xs => match xs with | [.int .i64 kind] => f50 k kind | _ => none, false, none, false⟩
noncomputable def env60 : List (FuncId × Spec) := (50, s50) :: env59
theorem v50 (k : Nat) (kind : Int) : runFn ti (envOf env59) 5 [] (finT ti true Go.Proofs.Try.f50.results.toList [(.bool, false)] (.bool)) k (bodyOf Go.Proofs.Try.f50) (initS 0 [.int .i64 kind]) = f50 k kind := by kernel_rfl
theorem m50 : Meets Go.Proofs.Try.prog 50 s50 := meets_of_run tiOk env59_ok mo Go.Proofs.Try.func50 (body := bodyOf Go.Proofs.Try.f50) (by kernel_rfl) (N := 5) (by kernel_rfl) (hs := []) (by
  intro k xs r h
  unfold s50 at h
  dsimp only at h
  split at h
  · exact ⟨Nat.le_of_ble_eq_true rfl, (v50 k _).trans h⟩
  · cases h)
theorem env60_ok : EnvOk Go.Proofs.Try.prog (envOf env60) := envOf_cons m50 Go.Proofs.Try.func50 (by kernel_rfl) (by kernel_rfl) env59_ok

end Go.Proofs.YtchdegcfohegfaaE
