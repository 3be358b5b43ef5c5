/- Functions without a count of rounds; printed. -/
import Derived.Test.YtkahcjnkmbbplaaE24
import Derived.Test.YtkahcjnkmbbplaaCN9
set_option maxRecDepth 100000
set_option maxHeartbeats 4000000
set_option linter.unusedVariables false
namespace Go.Proofs.YtkahcjnkmbbplaaE
-- laws.szIntS
noncomputable def w_szIntS (a : List (Int)) (left : Int) : Option (Int) :=
  bif decide (IntKind.wrap IntKind.i64 (left - (↑(List.length a) : Int)) < 0) then
    some (-1)
  else
    some (IntKind.wrap IntKind.i64 (left - (↑(List.length a) : Int)))
theorem Mw_szIntS (k : Nat) (a : List (Int)) (left : Int) : Le (f34 k a left) (f34 (k + 1) a left) := by
  unfold f34
  repeat' first | with_reducible exact Le.rfl _ | with_reducible refine Le.cond ?_ ?_ | with_reducible refine Le.bind ?_ fun _ => ?_
theorem Rw_szIntS (a : List (Int)) (left : Int) : Lim (fun k => f34 k a left) (w_szIntS a left) := by
  unfold f34 w_szIntS
  repeat' first | with_reducible exact Lim.ret _ | with_reducible refine Lim.cond ?_ ?_ | with_reducible refine Lim.bind ?_ fun _ => ?_

-- laws.szBox
noncomputable def w_szBox (a_K : Int) (a_Low : List (Int)) (a_High : List (Int)) (left : Int) : Option (Int) :=
  (w_szIntS a_Low left).bind fun r0 =>
  bif decide (r0 < 0) then
    some (-1)
  else
    (w_szIntS a_High r0).bind fun r1 =>
    bif decide (r1 < 0) then
      some (-1)
    else
      some r1
theorem Mw_szBox (k : Nat) (a_K : Int) (a_Low : List (Int)) (a_High : List (Int)) (left : Int) : Le (f8 k a_K a_Low a_High left) (f8 (k + 1) a_K a_Low a_High left) := by
  unfold f8
  repeat' first | with_reducible exact Le.rfl _ | with_reducible exact Mw_szIntS _ _ _ | with_reducible refine Le.cond ?_ ?_ | with_reducible refine Le.bind ?_ fun _ => ?_
theorem Rw_szBox (a_K : Int) (a_Low : List (Int)) (a_High : List (Int)) (left : Int) : Lim (fun k => f8 k a_K a_Low a_High left) (w_szBox a_K a_Low a_High left) := by
  unfold f8 w_szBox
  repeat' first | with_reducible exact Lim.ret _ | with_reducible exact Rw_szIntS _ _ | with_reducible refine Lim.cond ?_ ?_ | with_reducible refine Lim.bind ?_ fun _ => ?_

-- laws.szNodeS
noncomputable def w_szNodeS (a : List (Int × Int)) (left : Int) : Option (Int) :=
  bif decide (IntKind.wrap IntKind.i64 (left - (↑(List.length a) : Int)) < 0) then
    some (-1)
  else
    some (IntKind.wrap IntKind.i64 (left - (↑(List.length a) : Int)))
theorem Mw_szNodeS (k : Nat) (a : List (Int × Int)) (left : Int) : Le (f9 k a left) (f9 (k + 1) a left) := by
  unfold f9
  repeat' first | with_reducible exact Le.rfl _ | with_reducible refine Le.cond ?_ ?_ | with_reducible refine Le.bind ?_ fun _ => ?_
theorem Rw_szNodeS (a : List (Int × Int)) (left : Int) : Lim (fun k => f9 k a left) (w_szNodeS a left) := by
  unfold f9 w_szNodeS
  repeat' first | with_reducible exact Lim.ret _ | with_reducible refine Lim.cond ?_ ?_ | with_reducible refine Lim.bind ?_ fun _ => ?_

-- laws.roomBehind
noncomputable def w_roomBehind (n : Int) : Option (Int) :=
  bif decide (Int.tmod n 6 = 5) then
    some (0)
  else
    bif decide (Int.tmod n 3 = 0) then
      some (1)
    else
      some n
theorem Mw_roomBehind (k : Nat) (n : Int) : Le (f39 k n) (f39 (k + 1) n) := by
  unfold f39
  repeat' first | with_reducible exact Le.rfl _ | with_reducible refine Le.cond ?_ ?_ | with_reducible refine Le.bind ?_ fun _ => ?_
theorem Rw_roomBehind (n : Int) : Lim (fun k => f39 k n) (w_roomBehind n) := by
  unfold f39 w_roomBehind
  repeat' first | with_reducible exact Lim.ret _ | with_reducible refine Lim.cond ?_ ?_ | with_reducible refine Lim.bind ?_ fun _ => ?_

-- laws.toIntS
theorem MFw_toIntS_1005 (k : Nat) {r1005 q1005 : List Int → List Int → Int → Option (List (Int) × Nat)} (h1005 : ∀ (a : List Int) (outs : List Int) (i : Int), Le (r1005 a outs i) (q1005 a outs i)) {r1009 q1009 : List Int → List Int → Int → Option (List (Int) × Nat)} (h1009 : ∀ (a : List Int) (outs : List Int) (i : Int), Le (r1009 a outs i) (q1009 a outs i)) (a : List Int) (outs : List Int) (i : Int) : Le (F38_1005 k r1005 r1009 a outs i) (F38_1005 (k + 1) q1005 q1009 a outs i) := by
  unfold F38_1005
  repeat' first | with_reducible exact Le.rfl _ | with_reducible exact h1005 _ _ _ | with_reducible exact h1009 _ _ _ | with_reducible refine Le.cond ?_ ?_ | with_reducible refine Le.bind ?_ fun _ => ?_
theorem MFw_toIntS_1009 (k : Nat) {r1005 q1005 : List Int → List Int → Int → Option (List (Int) × Nat)} (h1005 : ∀ (a : List Int) (outs : List Int) (i : Int), Le (r1005 a outs i) (q1005 a outs i)) {r1009 q1009 : List Int → List Int → Int → Option (List (Int) × Nat)} (h1009 : ∀ (a : List Int) (outs : List Int) (i : Int), Le (r1009 a outs i) (q1009 a outs i)) (a : List Int) (outs : List Int) (i : Int) : Le (F38_1009 k r1005 r1009 a outs i) (F38_1009 (k + 1) q1005 q1009 a outs i) := by
  unfold F38_1009
  repeat' first | with_reducible exact Le.rfl _ | with_reducible exact h1005 _ _ _ | with_reducible exact h1009 _ _ _ | with_reducible refine Le.cond ?_ ?_ | with_reducible refine Le.bind ?_ fun _ => ?_
theorem Mlw_toIntS : ∀ k : Nat, (∀ (a : List Int) (outs : List Int) (i : Int), Le ((l38 k).1 a outs i) ((l38 (k + 1)).1 a outs i)) ∧ (∀ (a : List Int) (outs : List Int) (i : Int), Le ((l38 k).2 a outs i) ((l38 (k + 1)).2 a outs i))
  | 0 => ⟨fun a outs i => Le.no _, fun a outs i => Le.no _⟩
  | k + 1 => by
    have h := Mlw_toIntS k
    exact ⟨fun a outs i => MFw_toIntS_1005 k h.1 h.2 a outs i, fun a outs i => MFw_toIntS_1009 k h.1 h.2 a outs i⟩
noncomputable def w_toIntS_1005 (a : List Int) (outs : List Int) (i : Int) : Option (List (Int) × Nat) := lim fun k => (l38 k).1 a outs i
theorem Rlw_toIntS_1005 (a : List Int) (outs : List Int) (i : Int) : Lim (fun k => (l38 k).1 a outs i) (w_toIntS_1005 a outs i) := Lim.of_mono fun k => (Mlw_toIntS k).1 a outs i
noncomputable def w_toIntS_1009 (a : List Int) (outs : List Int) (i : Int) : Option (List (Int) × Nat) := lim fun k => (l38 k).2 a outs i
theorem Rlw_toIntS_1009 (a : List Int) (outs : List Int) (i : Int) : Lim (fun k => (l38 k).2 a outs i) (w_toIntS_1009 a outs i) := Lim.of_mono fun k => (Mlw_toIntS k).2 a outs i
theorem Ew_toIntS_1005 (a : List Int) (outs : List Int) (i : Int) : w_toIntS_1005 a outs i =
  bif decide (i < (↑(List.length a) : Int)) then
    bif boundA i (List.length a) then
      bif boundA i (List.length outs) then
        bif Nat.blt (Int.toNat i) (List.length outs) then
          w_toIntS_1005 a (List.set outs (Int.toNat i) (List.getD a (Int.toNat i) 0)) (IntKind.wrap IntKind.i64 (i + 1))
        else
          none
      else
        none
    else
      none
  else
    w_toIntS_1009 a outs ((↑(List.length a) : Int)) := by
  refine Lim.uniq (Lim.shift (Rlw_toIntS_1005 a outs i)) (?_ : Lim (fun k => F38_1005 k ((l38 k).1) ((l38 k).2) a outs i) _)
  unfold F38_1005
  repeat' first | with_reducible exact Lim.ret _ | with_reducible exact Rlw_toIntS_1005 _ _ _ | with_reducible exact Rlw_toIntS_1009 _ _ _ | with_reducible refine Lim.cond ?_ ?_ | with_reducible refine Lim.bind ?_ fun _ => ?_
theorem Ew_toIntS_1009 (a : List Int) (outs : List Int) (i : Int) : w_toIntS_1009 a outs i =
  bif decide (i < (↑(List.length outs) : Int)) then
    bif boundA i (List.length outs) then
      bif Nat.blt (Int.toNat i) (List.length outs) then
        w_toIntS_1009 a (List.set outs (Int.toNat i) (-7000000000000000101)) (IntKind.wrap IntKind.i64 (i + 1))
      else
        none
    else
      none
  else
    bif boundE (↑(List.length a) : Int) (List.length outs) then
      some ((outs, Option.getD (some (Int.toNat (↑(List.length a) : Int))) (List.length outs)))
    else
      none := by
  refine Lim.uniq (Lim.shift (Rlw_toIntS_1009 a outs i)) (?_ : Lim (fun k => F38_1009 k ((l38 k).1) ((l38 k).2) a outs i) _)
  unfold F38_1009
  repeat' first | with_reducible exact Lim.ret _ | with_reducible exact Rlw_toIntS_1005 _ _ _ | with_reducible exact Rlw_toIntS_1009 _ _ _ | with_reducible refine Lim.cond ?_ ?_ | with_reducible refine Lim.bind ?_ fun _ => ?_
noncomputable def w_toIntS (a : List (Int)) (bare : Bool) : Option (List (Int) × Nat) :=
  bif bare then
    bif decide ((↑(List.length a) : Int) = 0) then
      some (([], 0))
    else
      (w_roomBehind (↑(List.length a) : Int)).bind fun r0 =>
      bif decide (0 ≤ IntKind.wrap IntKind.i64 ((↑(List.length a) : Int) + r0)) then
        bif decide (IntKind.wrap IntKind.i64 ((↑(List.length a) : Int) + r0) ≤ IntKind.wrap IntKind.i64 ((↑(List.length a) : Int) + r0)) then
          bif decide (IntKind.wrap IntKind.i64 ((↑(List.length a) : Int) + r0) * (↑8 : Int) ≤ 140737488355328) then
            w_toIntS_1005 a (List.replicate (Int.toNat (IntKind.wrap IntKind.i64 ((↑(List.length a) : Int) + r0))) (dflt (Ty.int IntKind.i64))) (0)
          else
            none
        else
          none
      else
        none
  else
    (w_roomBehind (↑(List.length a) : Int)).bind fun r1 =>
    bif decide (0 ≤ IntKind.wrap IntKind.i64 ((↑(List.length a) : Int) + r1)) then
      bif decide (IntKind.wrap IntKind.i64 ((↑(List.length a) : Int) + r1) ≤ IntKind.wrap IntKind.i64 ((↑(List.length a) : Int) + r1)) then
        bif decide (IntKind.wrap IntKind.i64 ((↑(List.length a) : Int) + r1) * (↑8 : Int) ≤ 140737488355328) then
          w_toIntS_1005 a (List.replicate (Int.toNat (IntKind.wrap IntKind.i64 ((↑(List.length a) : Int) + r1))) (dflt (Ty.int IntKind.i64))) (0)
        else
          none
      else
        none
    else
      none
theorem Mw_toIntS (k : Nat) (a : List (Int)) (bare : Bool) : Le (f38 k a bare) (f38 (k + 1) a bare) := by
  have h := Mlw_toIntS k
  unfold f38 F38
  repeat' first | with_reducible exact Le.rfl _ | with_reducible exact Mw_roomBehind _ _ | with_reducible exact h.1 _ _ _ | with_reducible exact h.2 _ _ _ | with_reducible refine Le.cond ?_ ?_ | with_reducible refine Le.bind ?_ fun _ => ?_
theorem Rw_toIntS (a : List (Int)) (bare : Bool) : Lim (fun k => f38 k a bare) (w_toIntS a bare) := by
  unfold f38 F38 w_toIntS
  repeat' first | with_reducible exact Lim.ret _ | with_reducible exact Rw_roomBehind _ | with_reducible exact Rlw_toIntS_1005 _ _ _ | with_reducible exact Rlw_toIntS_1009 _ _ _ | with_reducible refine Lim.cond ?_ ?_ | with_reducible refine Lim.bind ?_ fun _ => ?_

-- laws.toBox
noncomputable def w_toBox (a_K : Int) (a_Low : List (Int)) (a_High : List (Int)) (bare : Bool) : Option (Int × (List (Int) × Nat) × List (Int) × Nat) :=
  (w_toIntS a_Low bare).bind fun r0 =>
  (w_toIntS a_High bare).bind fun r1 =>
  some ((a_K, (r0.fst, Option.getD (some r0.snd) (List.length r0.fst)), r1.fst, Option.getD (some r1.snd) (List.length r1.fst)))
theorem Mw_toBox (k : Nat) (a_K : Int) (a_Low : List (Int)) (a_High : List (Int)) (bare : Bool) : Le (f12 k a_K a_Low a_High bare) (f12 (k + 1) a_K a_Low a_High bare) := by
  unfold f12
  repeat' first | with_reducible exact Le.rfl _ | with_reducible exact Mw_toIntS _ _ _ | with_reducible refine Le.cond ?_ ?_ | with_reducible refine Le.bind ?_ fun _ => ?_
theorem Rw_toBox (a_K : Int) (a_Low : List (Int)) (a_High : List (Int)) (bare : Bool) : Lim (fun k => f12 k a_K a_Low a_High bare) (w_toBox a_K a_Low a_High bare) := by
  unfold f12 w_toBox
  repeat' first | with_reducible exact Lim.ret _ | with_reducible exact Rw_toIntS _ _ | with_reducible refine Lim.cond ?_ ?_ | with_reducible refine Lim.bind ?_ fun _ => ?_

-- laws.toNode
noncomputable def w_toNode (a_Kind : Int) (a_Number : Int) : Option (Int × Int) :=
  some ((a_Kind, a_Number))
theorem Mw_toNode (k : Nat) (a_Kind : Int) (a_Number : Int) : Le (f40 k a_Kind a_Number) (f40 (k + 1) a_Kind a_Number) := by
  unfold f40
  repeat' first | with_reducible exact Le.rfl _ | with_reducible refine Le.cond ?_ ?_ | with_reducible refine Le.bind ?_ fun _ => ?_
theorem Rw_toNode (a_Kind : Int) (a_Number : Int) : Lim (fun k => f40 k a_Kind a_Number) (w_toNode a_Kind a_Number) := by
  unfold f40 w_toNode
  repeat' first | with_reducible exact Lim.ret _ | with_reducible refine Lim.cond ?_ ?_ | with_reducible refine Lim.bind ?_ fun _ => ?_

-- laws.fillerNode
noncomputable def w_fillerNode  : Option (Int × Int) :=
  some ((-7000000000000000101, -7000000000000000101))
theorem Mw_fillerNode (k : Nat)  : Le (f41 k ) (f41 (k + 1) ) := by
  unfold f41
  repeat' first | with_reducible exact Le.rfl _ | with_reducible refine Le.cond ?_ ?_ | with_reducible refine Le.bind ?_ fun _ => ?_
theorem Rw_fillerNode  : Lim (fun k => f41 k ) (w_fillerNode ) := by
  unfold f41 w_fillerNode
  repeat' first | with_reducible exact Lim.ret _ | with_reducible refine Lim.cond ?_ ?_ | with_reducible refine Lim.bind ?_ fun _ => ?_

-- laws.toNodeS
theorem MFw_toNodeS_1005 (k : Nat) {r1005 q1005 : List (Int × Int) → List (Int × Int) → Int → Option (List (Int × Int) × Nat)} (h1005 : ∀ (a : List (Int × Int)) (outs : List (Int × Int)) (i : Int), Le (r1005 a outs i) (q1005 a outs i)) {r1009 q1009 : List (Int × Int) → List (Int × Int) → Int → Option (List (Int × Int) × Nat)} (h1009 : ∀ (a : List (Int × Int)) (outs : List (Int × Int)) (i : Int), Le (r1009 a outs i) (q1009 a outs i)) (a : List (Int × Int)) (outs : List (Int × Int)) (i : Int) : Le (F13_1005 k r1005 r1009 a outs i) (F13_1005 (k + 1) q1005 q1009 a outs i) := by
  unfold F13_1005
  repeat' first | with_reducible exact Le.rfl _ | with_reducible exact h1005 _ _ _ | with_reducible exact h1009 _ _ _ | with_reducible refine Le.cond ?_ ?_ | with_reducible refine Le.bind ?_ fun _ => ?_
theorem MFw_toNodeS_1009 (k : Nat) {r1005 q1005 : List (Int × Int) → List (Int × Int) → Int → Option (List (Int × Int) × Nat)} (h1005 : ∀ (a : List (Int × Int)) (outs : List (Int × Int)) (i : Int), Le (r1005 a outs i) (q1005 a outs i)) {r1009 q1009 : List (Int × Int) → List (Int × Int) → Int → Option (List (Int × Int) × Nat)} (h1009 : ∀ (a : List (Int × Int)) (outs : List (Int × Int)) (i : Int), Le (r1009 a outs i) (q1009 a outs i)) (a : List (Int × Int)) (outs : List (Int × Int)) (i : Int) : Le (F13_1009 k r1005 r1009 a outs i) (F13_1009 (k + 1) q1005 q1009 a outs i) := by
  unfold F13_1009
  repeat' first | with_reducible exact Le.rfl _ | with_reducible exact h1005 _ _ _ | with_reducible exact h1009 _ _ _ | with_reducible refine Le.cond ?_ ?_ | with_reducible refine Le.bind ?_ fun _ => ?_
theorem Mlw_toNodeS : ∀ k : Nat, (∀ (a : List (Int × Int)) (outs : List (Int × Int)) (i : Int), Le ((l13 k).1 a outs i) ((l13 (k + 1)).1 a outs i)) ∧ (∀ (a : List (Int × Int)) (outs : List (Int × Int)) (i : Int), Le ((l13 k).2 a outs i) ((l13 (k + 1)).2 a outs i))
  | 0 => ⟨fun a outs i => Le.no _, fun a outs i => Le.no _⟩
  | k + 1 => by
    have h := Mlw_toNodeS k
    exact ⟨fun a outs i => MFw_toNodeS_1005 k h.1 h.2 a outs i, fun a outs i => MFw_toNodeS_1009 k h.1 h.2 a outs i⟩
noncomputable def w_toNodeS_1005 (a : List (Int × Int)) (outs : List (Int × Int)) (i : Int) : Option (List (Int × Int) × Nat) := lim fun k => (l13 k).1 a outs i
theorem Rlw_toNodeS_1005 (a : List (Int × Int)) (outs : List (Int × Int)) (i : Int) : Lim (fun k => (l13 k).1 a outs i) (w_toNodeS_1005 a outs i) := Lim.of_mono fun k => (Mlw_toNodeS k).1 a outs i
noncomputable def w_toNodeS_1009 (a : List (Int × Int)) (outs : List (Int × Int)) (i : Int) : Option (List (Int × Int) × Nat) := lim fun k => (l13 k).2 a outs i
theorem Rlw_toNodeS_1009 (a : List (Int × Int)) (outs : List (Int × Int)) (i : Int) : Lim (fun k => (l13 k).2 a outs i) (w_toNodeS_1009 a outs i) := Lim.of_mono fun k => (Mlw_toNodeS k).2 a outs i
theorem Ew_toNodeS_1005 (a : List (Int × Int)) (outs : List (Int × Int)) (i : Int) : w_toNodeS_1005 a outs i =
  bif decide (i < (↑(List.length a) : Int)) then
    bif boundA i (List.length a) then
      bif boundA i (List.length outs) then
        bif Nat.blt (Int.toNat i) (List.length outs) then
          w_toNodeS_1005 a (List.set outs (Int.toNat i) ((List.getD a (Int.toNat i) (0, 0)).fst, (List.getD a (Int.toNat i) (0, 0)).snd)) (IntKind.wrap IntKind.i64 (i + 1))
        else
          none
      else
        none
    else
      none
  else
    w_toNodeS_1009 a outs ((↑(List.length a) : Int)) := by
  refine Lim.uniq (Lim.shift (Rlw_toNodeS_1005 a outs i)) (?_ : Lim (fun k => F13_1005 k ((l13 k).1) ((l13 k).2) a outs i) _)
  unfold F13_1005
  repeat' first | with_reducible exact Lim.ret _ | with_reducible exact Rlw_toNodeS_1005 _ _ _ | with_reducible exact Rlw_toNodeS_1009 _ _ _ | with_reducible refine Lim.cond ?_ ?_ | with_reducible refine Lim.bind ?_ fun _ => ?_
theorem Ew_toNodeS_1009 (a : List (Int × Int)) (outs : List (Int × Int)) (i : Int) : w_toNodeS_1009 a outs i =
  bif decide (i < (↑(List.length outs) : Int)) then
    bif boundA i (List.length outs) then
      bif Nat.blt (Int.toNat i) (List.length outs) then
        w_toNodeS_1009 a (List.set outs (Int.toNat i) (-7000000000000000101, -7000000000000000101)) (IntKind.wrap IntKind.i64 (i + 1))
      else
        none
    else
      none
  else
    bif boundE (↑(List.length a) : Int) (List.length outs) then
      some ((outs, Option.getD (some (Int.toNat (↑(List.length a) : Int))) (List.length outs)))
    else
      none := by
  refine Lim.uniq (Lim.shift (Rlw_toNodeS_1009 a outs i)) (?_ : Lim (fun k => F13_1009 k ((l13 k).1) ((l13 k).2) a outs i) _)
  unfold F13_1009
  repeat' first | with_reducible exact Lim.ret _ | with_reducible exact Rlw_toNodeS_1005 _ _ _ | with_reducible exact Rlw_toNodeS_1009 _ _ _ | with_reducible refine Lim.cond ?_ ?_ | with_reducible refine Lim.bind ?_ fun _ => ?_
noncomputable def w_toNodeS (a : List (Int × Int)) (bare : Bool) : Option (List (Int × Int) × Nat) :=
  bif bare then
    bif decide ((↑(List.length a) : Int) = 0) then
      some (([], 0))
    else
      (w_roomBehind (↑(List.length a) : Int)).bind fun r0 =>
      bif decide (0 ≤ IntKind.wrap IntKind.i64 ((↑(List.length a) : Int) + r0)) then
        bif decide (IntKind.wrap IntKind.i64 ((↑(List.length a) : Int) + r0) ≤ IntKind.wrap IntKind.i64 ((↑(List.length a) : Int) + r0)) then
          bif decide (IntKind.wrap IntKind.i64 ((↑(List.length a) : Int) + r0) * (↑16 : Int) ≤ 140737488355328) then
            w_toNodeS_1005 a (List.replicate (Int.toNat (IntKind.wrap IntKind.i64 ((↑(List.length a) : Int) + r0))) (dflt (Ty.pair (Ty.int IntKind.i64) (Ty.int IntKind.i64)))) (0)
          else
            none
        else
          none
      else
        none
  else
    (w_roomBehind (↑(List.length a) : Int)).bind fun r1 =>
    bif decide (0 ≤ IntKind.wrap IntKind.i64 ((↑(List.length a) : Int) + r1)) then
      bif decide (IntKind.wrap IntKind.i64 ((↑(List.length a) : Int) + r1) ≤ IntKind.wrap IntKind.i64 ((↑(List.length a) : Int) + r1)) then
        bif decide (IntKind.wrap IntKind.i64 ((↑(List.length a) : Int) + r1) * (↑16 : Int) ≤ 140737488355328) then
          w_toNodeS_1005 a (List.replicate (Int.toNat (IntKind.wrap IntKind.i64 ((↑(List.length a) : Int) + r1))) (dflt (Ty.pair (Ty.int IntKind.i64) (Ty.int IntKind.i64)))) (0)
        else
          none
      else
        none
    else
      none
theorem Mw_toNodeS (k : Nat) (a : List (Int × Int)) (bare : Bool) : Le (f13 k a bare) (f13 (k + 1) a bare) := by
  have h := Mlw_toNodeS k
  unfold f13 F13
  repeat' first | with_reducible exact Le.rfl _ | with_reducible exact Mw_roomBehind _ _ | with_reducible exact h.1 _ _ _ | with_reducible exact h.2 _ _ _ | with_reducible refine Le.cond ?_ ?_ | with_reducible refine Le.bind ?_ fun _ => ?_
theorem Rw_toNodeS (a : List (Int × Int)) (bare : Bool) : Lim (fun k => f13 k a bare) (w_toNodeS a bare) := by
  unfold f13 F13 w_toNodeS
  repeat' first | with_reducible exact Lim.ret _ | with_reducible exact Rw_roomBehind _ | with_reducible exact Rlw_toNodeS_1005 _ _ _ | with_reducible exact Rlw_toNodeS_1009 _ _ _ | with_reducible refine Lim.cond ?_ ?_ | with_reducible refine Lim.bind ?_ fun _ => ?_

-- laws.eqIntS
theorem MFw_eqIntS_1004 (k : Nat) {r1004 q1004 : List Int → List Int → Int → Option (Bool)} (h1004 : ∀ (a : List Int) (b : List Int) (i : Int), Le (r1004 a b i) (q1004 a b i)) (a : List Int) (b : List Int) (i : Int) : Le (F57_1004 k r1004 a b i) (F57_1004 (k + 1) q1004 a b i) := by
  unfold F57_1004
  repeat' first | with_reducible exact Le.rfl _ | with_reducible exact h1004 _ _ _ | with_reducible refine Le.cond ?_ ?_ | with_reducible refine Le.bind ?_ fun _ => ?_
theorem Mlw_eqIntS : ∀ k : Nat, ∀ (a : List Int) (b : List Int) (i : Int), Le ((l57 k) a b i) ((l57 (k + 1)) a b i)
  | 0 => fun a b i => Le.no _
  | k + 1 => by
    have h := Mlw_eqIntS k
    exact fun a b i => MFw_eqIntS_1004 k h a b i
noncomputable def w_eqIntS_1004 (a : List Int) (b : List Int) (i : Int) : Option (Bool) := lim fun k => (l57 k) a b i
theorem Rlw_eqIntS_1004 (a : List Int) (b : List Int) (i : Int) : Lim (fun k => (l57 k) a b i) (w_eqIntS_1004 a b i) := Lim.of_mono fun k => Mlw_eqIntS k a b i
theorem Ew_eqIntS_1004 (a : List Int) (b : List Int) (i : Int) : w_eqIntS_1004 a b i =
  bif decide (i < (↑(List.length a) : Int)) then
    bif boundA i (List.length a) then
      bif boundA i (List.length b) then
        bif !decide (List.getD a (Int.toNat i) 0 = List.getD b (Int.toNat i) 0) then
          some false
        else
          w_eqIntS_1004 a b (IntKind.wrap IntKind.i64 (i + 1))
      else
        none
    else
      none
  else
    some true := by
  refine Lim.uniq (Lim.shift (Rlw_eqIntS_1004 a b i)) (?_ : Lim (fun k => F57_1004 k ((l57 k)) a b i) _)
  unfold F57_1004
  repeat' first | with_reducible exact Lim.ret _ | with_reducible exact Rlw_eqIntS_1004 _ _ _ | with_reducible refine Lim.cond ?_ ?_ | with_reducible refine Lim.bind ?_ fun _ => ?_
noncomputable def w_eqIntS (a : List (Int)) (b : List (Int)) : Option (Bool) :=
  bif !decide ((↑(List.length a) : Int) = (↑(List.length b) : Int)) then
    some false
  else
    w_eqIntS_1004 a b (0)
theorem Mw_eqIntS (k : Nat) (a : List (Int)) (b : List (Int)) : Le (f57 k a b) (f57 (k + 1) a b) := by
  have h := Mlw_eqIntS k
  unfold f57 F57
  repeat' first | with_reducible exact Le.rfl _ | with_reducible exact h _ _ _ | with_reducible refine Le.cond ?_ ?_ | with_reducible refine Le.bind ?_ fun _ => ?_
theorem Rw_eqIntS (a : List (Int)) (b : List (Int)) : Lim (fun k => f57 k a b) (w_eqIntS a b) := by
  unfold f57 F57 w_eqIntS
  repeat' first | with_reducible exact Lim.ret _ | with_reducible exact Rlw_eqIntS_1004 _ _ _ | with_reducible refine Lim.cond ?_ ?_ | with_reducible refine Lim.bind ?_ fun _ => ?_

-- laws.intactIntS
noncomputable def w_intactIntS (x : List (Int)) (x_n : Nat) (y : List (Int)) (y_n : Nat) : Option (Bool) :=
  (w_roomBehind (↑y_n : Int)).bind fun r0 =>
  bif decide ((↑x_n : Int) = (↑y_n : Int)) then
    bif boundE (IntKind.wrap IntKind.i64 ((↑y_n : Int) + r0)) (List.length x) then
      bif decide (0 ≤ 0) && decide (0 ≤ IntKind.wrap IntKind.i64 ((↑y_n : Int) + r0)) then
        bif boundE (IntKind.wrap IntKind.i64 ((↑y_n : Int) + r0)) (List.length y) then
          bif decide (0 ≤ 0) && decide (0 ≤ IntKind.wrap IntKind.i64 ((↑y_n : Int) + r0)) then
            (w_eqIntS (List.drop (Int.toNat 0) (List.take (Int.toNat (IntKind.wrap IntKind.i64 ((↑y_n : Int) + r0))) x)) (List.drop (Int.toNat 0) (List.take (Int.toNat (IntKind.wrap IntKind.i64 ((↑y_n : Int) + r0))) y))).bind fun r1 =>
            some r1
          else
            none
        else
          none
      else
        none
    else
      none
  else
    some false
theorem Mw_intactIntS (k : Nat) (x : List (Int)) (x_n : Nat) (y : List (Int)) (y_n : Nat) : Le (f47 k x x_n y y_n) (f47 (k + 1) x x_n y y_n) := by
  unfold f47
  repeat' first | with_reducible exact Le.rfl _ | with_reducible exact Mw_roomBehind _ _ | with_reducible exact Mw_eqIntS _ _ _ | with_reducible refine Le.cond ?_ ?_ | with_reducible refine Le.bind ?_ fun _ => ?_
theorem Rw_intactIntS (x : List (Int)) (x_n : Nat) (y : List (Int)) (y_n : Nat) : Lim (fun k => f47 k x x_n y y_n) (w_intactIntS x x_n y y_n) := by
  unfold f47 w_intactIntS
  repeat' first | with_reducible exact Lim.ret _ | with_reducible exact Rw_roomBehind _ | with_reducible exact Rw_eqIntS _ _ | with_reducible refine Lim.cond ?_ ?_ | with_reducible refine Lim.bind ?_ fun _ => ?_

-- laws.intactBox
noncomputable def w_intactBox (x_K : Int) (x_Low : List (Int)) (x_Low_n : Nat) (x_High : List (Int)) (x_High_n : Nat) (y_K : Int) (y_Low : List (Int)) (y_Low_n : Nat) (y_High : List (Int)) (y_High_n : Nat) : Option (Bool) :=
  bif !decide (x_K = y_K) then
    some false
  else
    (w_intactIntS x_Low x_Low_n y_Low y_Low_n).bind fun r0 =>
    bif !r0 then
      some false
    else
      (w_intactIntS x_High x_High_n y_High y_High_n).bind fun r1 =>
      bif !r1 then
        some false
      else
        some true
theorem Mw_intactBox (k : Nat) (x_K : Int) (x_Low : List (Int)) (x_Low_n : Nat) (x_High : List (Int)) (x_High_n : Nat) (y_K : Int) (y_Low : List (Int)) (y_Low_n : Nat) (y_High : List (Int)) (y_High_n : Nat) : Le (f16 k x_K x_Low x_Low_n x_High x_High_n y_K y_Low y_Low_n y_High y_High_n) (f16 (k + 1) x_K x_Low x_Low_n x_High x_High_n y_K y_Low y_Low_n y_High y_High_n) := by
  unfold f16
  repeat' first | with_reducible exact Le.rfl _ | with_reducible exact Mw_intactIntS _ _ _ _ _ | with_reducible refine Le.cond ?_ ?_ | with_reducible refine Le.bind ?_ fun _ => ?_
theorem Rw_intactBox (x_K : Int) (x_Low : List (Int)) (x_Low_n : Nat) (x_High : List (Int)) (x_High_n : Nat) (y_K : Int) (y_Low : List (Int)) (y_Low_n : Nat) (y_High : List (Int)) (y_High_n : Nat) : Lim (fun k => f16 k x_K x_Low x_Low_n x_High x_High_n y_K y_Low y_Low_n y_High y_High_n) (w_intactBox x_K x_Low x_Low_n x_High x_High_n y_K y_Low y_Low_n y_High y_High_n) := by
  unfold f16 w_intactBox
  repeat' first | with_reducible exact Lim.ret _ | with_reducible exact Rw_intactIntS _ _ _ _ | with_reducible refine Lim.cond ?_ ?_ | with_reducible refine Lim.bind ?_ fun _ => ?_

-- laws.eqNode
noncomputable def w_eqNode (a_Kind : Int) (a_Number : Int) (b_Kind : Int) (b_Number : Int) : Option (Bool) :=
  bif !decide (a_Kind = b_Kind) then
    some false
  else
    bif !decide (a_Number = b_Number) then
      some false
    else
      some true
theorem Mw_eqNode (k : Nat) (a_Kind : Int) (a_Number : Int) (b_Kind : Int) (b_Number : Int) : Le (f78 k a_Kind a_Number b_Kind b_Number) (f78 (k + 1) a_Kind a_Number b_Kind b_Number) := by
  unfold f78
  repeat' first | with_reducible exact Le.rfl _ | with_reducible refine Le.cond ?_ ?_ | with_reducible refine Le.bind ?_ fun _ => ?_
theorem Rw_eqNode (a_Kind : Int) (a_Number : Int) (b_Kind : Int) (b_Number : Int) : Lim (fun k => f78 k a_Kind a_Number b_Kind b_Number) (w_eqNode a_Kind a_Number b_Kind b_Number) := by
  unfold f78 w_eqNode
  repeat' first | with_reducible exact Lim.ret _ | with_reducible refine Lim.cond ?_ ?_ | with_reducible refine Lim.bind ?_ fun _ => ?_

-- laws.eqNodeS
theorem MFw_eqNodeS_1004 (k : Nat) {r1004 q1004 : List (Int × Int) → List (Int × Int) → Int → Option (Bool)} (h1004 : ∀ (a : List (Int × Int)) (b : List (Int × Int)) (i : Int), Le (r1004 a b i) (q1004 a b i)) (a : List (Int × Int)) (b : List (Int × Int)) (i : Int) : Le (F48_1004 k r1004 a b i) (F48_1004 (k + 1) q1004 a b i) := by
  unfold F48_1004
  repeat' first | with_reducible exact Le.rfl _ | with_reducible exact Mw_eqNode _ _ _ _ _ | with_reducible exact h1004 _ _ _ | with_reducible refine Le.cond ?_ ?_ | with_reducible refine Le.bind ?_ fun _ => ?_
theorem Mlw_eqNodeS : ∀ k : Nat, ∀ (a : List (Int × Int)) (b : List (Int × Int)) (i : Int), Le ((l48 k) a b i) ((l48 (k + 1)) a b i)
  | 0 => fun a b i => Le.no _
  | k + 1 => by
    have h := Mlw_eqNodeS k
    exact fun a b i => MFw_eqNodeS_1004 k h a b i
noncomputable def w_eqNodeS_1004 (a : List (Int × Int)) (b : List (Int × Int)) (i : Int) : Option (Bool) := lim fun k => (l48 k) a b i
theorem Rlw_eqNodeS_1004 (a : List (Int × Int)) (b : List (Int × Int)) (i : Int) : Lim (fun k => (l48 k) a b i) (w_eqNodeS_1004 a b i) := Lim.of_mono fun k => Mlw_eqNodeS k a b i
theorem Ew_eqNodeS_1004 (a : List (Int × Int)) (b : List (Int × Int)) (i : Int) : w_eqNodeS_1004 a b i =
  bif decide (i < (↑(List.length a) : Int)) then
    bif boundA i (List.length a) then
      bif boundA i (List.length b) then
        (w_eqNode (List.getD a (Int.toNat i) (0, 0)).fst (List.getD a (Int.toNat i) (0, 0)).snd (List.getD b (Int.toNat i) (0, 0)).fst (List.getD b (Int.toNat i) (0, 0)).snd).bind fun r0 =>
        bif !r0 then
          some false
        else
          w_eqNodeS_1004 a b (IntKind.wrap IntKind.i64 (i + 1))
      else
        none
    else
      none
  else
    some true := by
  refine Lim.uniq (Lim.shift (Rlw_eqNodeS_1004 a b i)) (?_ : Lim (fun k => F48_1004 k ((l48 k)) a b i) _)
  unfold F48_1004
  repeat' first | with_reducible exact Lim.ret _ | with_reducible exact Rw_eqNode _ _ _ _ | with_reducible exact Rlw_eqNodeS_1004 _ _ _ | with_reducible refine Lim.cond ?_ ?_ | with_reducible refine Lim.bind ?_ fun _ => ?_
noncomputable def w_eqNodeS (a : List (Int × Int)) (b : List (Int × Int)) : Option (Bool) :=
  bif !decide ((↑(List.length a) : Int) = (↑(List.length b) : Int)) then
    some false
  else
    w_eqNodeS_1004 a b (0)
theorem Mw_eqNodeS (k : Nat) (a : List (Int × Int)) (b : List (Int × Int)) : Le (f48 k a b) (f48 (k + 1) a b) := by
  have h := Mlw_eqNodeS k
  unfold f48 F48
  repeat' first | with_reducible exact Le.rfl _ | with_reducible exact h _ _ _ | with_reducible refine Le.cond ?_ ?_ | with_reducible refine Le.bind ?_ fun _ => ?_
theorem Rw_eqNodeS (a : List (Int × Int)) (b : List (Int × Int)) : Lim (fun k => f48 k a b) (w_eqNodeS a b) := by
  unfold f48 F48 w_eqNodeS
  repeat' first | with_reducible exact Lim.ret _ | with_reducible exact Rlw_eqNodeS_1004 _ _ _ | with_reducible refine Lim.cond ?_ ?_ | with_reducible refine Lim.bind ?_ fun _ => ?_

-- laws.intactNodeS
noncomputable def w_intactNodeS (x : List (Int × Int)) (x_n : Nat) (y : List (Int × Int)) (y_n : Nat) : Option (Bool) :=
  (w_roomBehind (↑y_n : Int)).bind fun r0 =>
  bif decide ((↑x_n : Int) = (↑y_n : Int)) then
    bif boundE (IntKind.wrap IntKind.i64 ((↑y_n : Int) + r0)) (List.length x) then
      bif decide (0 ≤ 0) && decide (0 ≤ IntKind.wrap IntKind.i64 ((↑y_n : Int) + r0)) then
        bif boundE (IntKind.wrap IntKind.i64 ((↑y_n : Int) + r0)) (List.length y) then
          bif decide (0 ≤ 0) && decide (0 ≤ IntKind.wrap IntKind.i64 ((↑y_n : Int) + r0)) then
            (w_eqNodeS (List.drop (Int.toNat 0) (List.take (Int.toNat (IntKind.wrap IntKind.i64 ((↑y_n : Int) + r0))) x)) (List.drop (Int.toNat 0) (List.take (Int.toNat (IntKind.wrap IntKind.i64 ((↑y_n : Int) + r0))) y))).bind fun r1 =>
            some r1
          else
            none
        else
          none
      else
        none
    else
      none
  else
    some false
theorem Mw_intactNodeS (k : Nat) (x : List (Int × Int)) (x_n : Nat) (y : List (Int × Int)) (y_n : Nat) : Le (f17 k x x_n y y_n) (f17 (k + 1) x x_n y y_n) := by
  unfold f17
  repeat' first | with_reducible exact Le.rfl _ | with_reducible exact Mw_roomBehind _ _ | with_reducible exact Mw_eqNodeS _ _ _ | with_reducible refine Le.cond ?_ ?_ | with_reducible refine Le.bind ?_ fun _ => ?_
theorem Rw_intactNodeS (x : List (Int × Int)) (x_n : Nat) (y : List (Int × Int)) (y_n : Nat) : Lim (fun k => f17 k x x_n y y_n) (w_intactNodeS x x_n y y_n) := by
  unfold f17 w_intactNodeS
  repeat' first | with_reducible exact Lim.ret _ | with_reducible exact Rw_roomBehind _ | with_reducible exact Rw_eqNodeS _ _ | with_reducible refine Lim.cond ?_ ?_ | with_reducible refine Lim.bind ?_ fun _ => ?_

-- spec.dyPower
noncomputable def s_dyPower (k_ : Int) : Option (Int) :=
  bif !decide (IntKind.wrap IntKind.u64 k_ < 0) then
    some (IntKind.wrap IntKind.i64 (1 * 2 ^ min (Int.toNat (IntKind.wrap IntKind.u64 k_)) (IntKind.bits IntKind.i64)))
  else
    none
theorem Ms_dyPower (k : Nat) (k_ : Int) : Le (f81 k k_) (f81 (k + 1) k_) := by
  unfold f81
  repeat' first | with_reducible exact Le.rfl _ | with_reducible refine Le.cond ?_ ?_ | with_reducible refine Le.bind ?_ fun _ => ?_
theorem Rs_dyPower (k_ : Int) : Lim (fun k => f81 k k_) (s_dyPower k_) := by
  unfold f81 s_dyPower
  repeat' first | with_reducible exact Lim.ret _ | with_reducible refine Lim.cond ?_ ?_ | with_reducible refine Lim.bind ?_ fun _ => ?_

-- spec.l1In
noncomputable def s_l1In (n : Int) (lo : Int) (hi : Int) : Option (Bool) :=
  bif decide (lo ≤ n) then
    some (decide (n ≤ hi))
  else
    some false
theorem Ms_l1In (k : Nat) (n : Int) (lo : Int) (hi : Int) : Le (f95 k n lo hi) (f95 (k + 1) n lo hi) := by
  unfold f95
  repeat' first | with_reducible exact Le.rfl _ | with_reducible refine Le.cond ?_ ?_ | with_reducible refine Le.bind ?_ fun _ => ?_
theorem Rs_l1In (n : Int) (lo : Int) (hi : Int) : Lim (fun k => f95 k n lo hi) (s_l1In n lo hi) := by
  unfold f95 s_l1In
  repeat' first | with_reducible exact Lim.ret _ | with_reducible refine Lim.cond ?_ ?_ | with_reducible refine Lim.bind ?_ fun _ => ?_

-- spec.bxGood
theorem MFs_bxGood_1006 (k : Nat) {r1006 q1006 : Int → List Int → List Int → Int → Bool → List Int → Int → Int → Option (Bool)} (h1006 : ∀ (is_0 : Int) (is_1 : List Int) (is_2 : List Int) (t : Int) (t4 : Bool) (t36 : List Int) (t37 : Int) (t38 : Int), Le (r1006 is_0 is_1 is_2 t t4 t36 t37 t38) (q1006 is_0 is_1 is_2 t t4 t36 t37 t38)) (is_0 : Int) (is_1 : List Int) (is_2 : List Int) (t : Int) (t4 : Bool) (t36 : List Int) (t37 : Int) (t38 : Int) : Le (F67_1006 k r1006 is_0 is_1 is_2 t t4 t36 t37 t38) (F67_1006 (k + 1) q1006 is_0 is_1 is_2 t t4 t36 t37 t38) := by
  unfold F67_1006
  repeat' first | with_reducible exact Le.rfl _ | with_reducible exact Ms_l1In _ _ _ _ | with_reducible exact h1006 _ _ _ _ _ _ _ _ | with_reducible refine Le.cond ?_ ?_ | with_reducible refine Le.bind ?_ fun _ => ?_
theorem Mls_bxGood : ∀ k : Nat, ∀ (is_0 : Int) (is_1 : List Int) (is_2 : List Int) (t : Int) (t4 : Bool) (t36 : List Int) (t37 : Int) (t38 : Int), Le ((l67 k) is_0 is_1 is_2 t t4 t36 t37 t38) ((l67 (k + 1)) is_0 is_1 is_2 t t4 t36 t37 t38)
  | 0 => fun is_0 is_1 is_2 t t4 t36 t37 t38 => Le.no _
  | k + 1 => by
    have h := Mls_bxGood k
    exact fun is_0 is_1 is_2 t t4 t36 t37 t38 => MFs_bxGood_1006 k h is_0 is_1 is_2 t t4 t36 t37 t38
noncomputable def s_bxGood_1006 (is_0 : Int) (is_1 : List Int) (is_2 : List Int) (t : Int) (t4 : Bool) (t36 : List Int) (t37 : Int) (t38 : Int) : Option (Bool) := lim fun k => (l67 k) is_0 is_1 is_2 t t4 t36 t37 t38
theorem Rls_bxGood_1006 (is_0 : Int) (is_1 : List Int) (is_2 : List Int) (t : Int) (t4 : Bool) (t36 : List Int) (t37 : Int) (t38 : Int) : Lim (fun k => (l67 k) is_0 is_1 is_2 t t4 t36 t37 t38) (s_bxGood_1006 is_0 is_1 is_2 t t4 t36 t37 t38) := Lim.of_mono fun k => Mls_bxGood k is_0 is_1 is_2 t t4 t36 t37 t38
theorem Es_bxGood_1006 (is_0 : Int) (is_1 : List Int) (is_2 : List Int) (t : Int) (t4 : Bool) (t36 : List Int) (t37 : Int) (t38 : Int) : s_bxGood_1006 is_0 is_1 is_2 t t4 t36 t37 t38 =
  bif decide (t38 < t37) then
    bif boundA t38 (List.length t36) then
      bif boundA t38 (List.length is_2) then
        (s_l1In (List.getD t36 (Int.toNat t38) 0) (IntKind.wrap IntKind.i64 (0 - t)) t).bind fun r0 =>
        bif !r0 then
          some false
        else
          (s_l1In (List.getD is_2 (Int.toNat t38) 0) (IntKind.wrap IntKind.i64 (0 - t)) t).bind fun r1 =>
          bif !r1 then
            some false
          else
            bif decide (List.getD is_2 (Int.toNat t38) 0 ≤ List.getD t36 (Int.toNat t38) 0) then
              some false
            else
              bif t4 then
                s_bxGood_1006 is_0 is_1 is_2 t true t36 t37 (IntKind.wrap IntKind.i64 (t38 + 1))
              else
                bif !decide (Int.tmod (List.getD t36 (Int.toNat t38) 0) 2 = 0) then
                  s_bxGood_1006 is_0 is_1 is_2 t true t36 t37 (IntKind.wrap IntKind.i64 (t38 + 1))
                else
                  s_bxGood_1006 is_0 is_1 is_2 t (!decide (Int.tmod (List.getD is_2 (Int.toNat t38) 0) 2 = 0)) t36 t37 (IntKind.wrap IntKind.i64 (t38 + 1))
      else
        none
    else
      none
  else
    some t4 := by
  refine Lim.uniq (Lim.shift (Rls_bxGood_1006 is_0 is_1 is_2 t t4 t36 t37 t38)) (?_ : Lim (fun k => F67_1006 k ((l67 k)) is_0 is_1 is_2 t t4 t36 t37 t38) _)
  unfold F67_1006
  repeat' first | with_reducible exact Lim.ret _ | with_reducible exact Rs_l1In _ _ _ | with_reducible exact Rls_bxGood_1006 _ _ _ _ _ _ _ _ | with_reducible refine Lim.cond ?_ ?_ | with_reducible refine Lim.bind ?_ fun _ => ?_
noncomputable def s_bxGood (L_K : Int) (L_Low : List (Int)) (L_High : List (Int)) : Option (Bool) :=
  (s_l1In L_K 0 8).bind fun r0 =>
  bif !r0 then
    some false
  else
    (s_l1In (↑(List.length L_Low) : Int) 1 3).bind fun r1 =>
    bif !r1 then
      some false
    else
      bif !decide ((↑(List.length L_High) : Int) = (↑(List.length L_Low) : Int)) then
        some false
      else
        (s_dyPower L_K).bind fun r2 =>
        s_bxGood_1006 L_K L_Low L_High (IntKind.wrap IntKind.i64 (8 * r2)) (decide (L_K = 0)) L_Low ((↑(List.length L_Low) : Int)) (0)
theorem Ms_bxGood (k : Nat) (L_K : Int) (L_Low : List (Int)) (L_High : List (Int)) : Le (f67 k L_K L_Low L_High) (f67 (k + 1) L_K L_Low L_High) := by
  have h := Mls_bxGood k
  unfold f67 F67
  repeat' first | with_reducible exact Le.rfl _ | with_reducible exact Ms_dyPower _ _ | with_reducible exact Ms_l1In _ _ _ _ | with_reducible exact h _ _ _ _ _ _ _ _ | with_reducible refine Le.cond ?_ ?_ | with_reducible refine Le.bind ?_ fun _ => ?_
theorem Rs_bxGood (L_K : Int) (L_Low : List (Int)) (L_High : List (Int)) : Lim (fun k => f67 k L_K L_Low L_High) (s_bxGood L_K L_Low L_High) := by
  unfold f67 F67 s_bxGood
  repeat' first | with_reducible exact Lim.ret _ | with_reducible exact Rs_dyPower _ | with_reducible exact Rs_l1In _ _ _ | with_reducible exact Rls_bxGood_1006 _ _ _ _ _ _ _ _ | with_reducible refine Lim.cond ?_ ?_ | with_reducible refine Lim.bind ?_ fun _ => ?_

-- spec.trEnd
theorem MFs_trEnd_0 (k : Nat) {r0 q0 : List (Int × Int) → Int → Int → Int → Option (Int)} (h0 : ∀ (l : List (Int × Int)) (sides : Int) (at_ : Int) (depth : Int), Le (r0 l sides at_ depth) (q0 l sides at_ depth)) (l : List (Int × Int)) (sides : Int) (at_ : Int) (depth : Int) : Le (F100_0 k r0 l sides at_ depth) (F100_0 (k + 1) q0 l sides at_ depth) := by
  unfold F100_0
  repeat' first | with_reducible exact Le.rfl _ | with_reducible exact Ms_l1In _ _ _ _ | with_reducible exact h0 _ _ _ _ | with_reducible refine Le.cond ?_ ?_ | with_reducible refine Le.bind ?_ fun _ => ?_
theorem Mls_trEnd : ∀ k : Nat, ∀ (l : List (Int × Int)) (sides : Int) (at_ : Int) (depth : Int), Le ((l100 k) l sides at_ depth) ((l100 (k + 1)) l sides at_ depth)
  | 0 => fun l sides at_ depth => Le.no _
  | k + 1 => by
    have h := Mls_trEnd k
    exact fun l sides at_ depth => MFs_trEnd_0 k h l sides at_ depth
noncomputable def s_trEnd_0 (l : List (Int × Int)) (sides : Int) (at_ : Int) (depth : Int) : Option (Int) := lim fun k => (l100 k) l sides at_ depth
theorem Rls_trEnd_0 (l : List (Int × Int)) (sides : Int) (at_ : Int) (depth : Int) : Lim (fun k => (l100 k) l sides at_ depth) (s_trEnd_0 l sides at_ depth) := Lim.of_mono fun k => Mls_trEnd k l sides at_ depth
theorem Es_trEnd_0 (l : List (Int × Int)) (sides : Int) (at_ : Int) (depth : Int) : s_trEnd_0 l sides at_ depth =
  bif decide ((↑(List.length l) : Int) ≤ at_) then
    some (-1)
  else
    bif decide (20 < depth) then
      some (-1)
    else
      bif boundA at_ (List.length l) then
        bif decide ((List.getD l (Int.toNat at_) (0, 0)).fst = 0) then
          (s_l1In (List.getD l (Int.toNat at_) (0, 0)).snd 0 (IntKind.wrap IntKind.i64 (sides - 1))).bind fun r0 =>
          bif !r0 then
            some (-1)
          else
            (s_trEnd_0 l sides (IntKind.wrap IntKind.i64 (at_ + 1)) (IntKind.wrap IntKind.i64 (depth + 1))).bind fun r1 =>
            bif decide (r1 < 0) then
              some (-1)
            else
              (s_trEnd_0 l sides r1 (IntKind.wrap IntKind.i64 (depth + 1))).bind fun r2 =>
              some r2
        else
          bif decide ((List.getD l (Int.toNat at_) (0, 0)).fst = 1) then
            bif decide ((List.getD l (Int.toNat at_) (0, 0)).fst = 1) then
              (s_l1In (List.getD l (Int.toNat at_) (0, 0)).snd 0 99).bind fun r3 =>
              bif !r3 then
                some (-1)
              else
                some (IntKind.wrap IntKind.i64 (at_ + 1))
            else
              bif decide ((List.getD l (Int.toNat at_) (0, 0)).fst = 3) then
                bif !decide ((List.getD l (Int.toNat at_) (0, 0)).snd = 0) then
                  some (-1)
                else
                  some (IntKind.wrap IntKind.i64 (at_ + 1))
              else
                some (-1)
          else
            bif decide ((List.getD l (Int.toNat at_) (0, 0)).fst = 2) then
              (s_l1In (List.getD l (Int.toNat at_) (0, 0)).snd 0 99).bind fun r4 =>
              bif !r4 then
                some (-1)
              else
                some (IntKind.wrap IntKind.i64 (at_ + 1))
            else
              bif decide ((List.getD l (Int.toNat at_) (0, 0)).fst = 3) then
                bif !decide ((List.getD l (Int.toNat at_) (0, 0)).snd = 0) then
                  some (-1)
                else
                  some (IntKind.wrap IntKind.i64 (at_ + 1))
              else
                some (-1)
      else
        none := by
  refine Lim.uniq (Lim.shift (Rls_trEnd_0 l sides at_ depth)) (?_ : Lim (fun k => F100_0 k ((l100 k)) l sides at_ depth) _)
  unfold F100_0
  repeat' first | with_reducible exact Lim.ret _ | with_reducible exact Rs_l1In _ _ _ | with_reducible exact Rls_trEnd_0 _ _ _ _ | with_reducible refine Lim.cond ?_ ?_ | with_reducible refine Lim.bind ?_ fun _ => ?_
noncomputable def s_trEnd (l : List (Int × Int)) (sides : Int) (at_ : Int) (depth : Int) : Option (Int) :=
  s_trEnd_0 l sides at_ depth
theorem Ms_trEnd (k : Nat) (l : List (Int × Int)) (sides : Int) (at_ : Int) (depth : Int) : Le (f100 k l sides at_ depth) (f100 (k + 1) l sides at_ depth) := by
  have h := Mls_trEnd k
  unfold f100 F100
  repeat' first | with_reducible exact Le.rfl _ | with_reducible exact h _ _ _ _ | with_reducible refine Le.cond ?_ ?_ | with_reducible refine Le.bind ?_ fun _ => ?_
theorem Rs_trEnd (l : List (Int × Int)) (sides : Int) (at_ : Int) (depth : Int) : Lim (fun k => f100 k l sides at_ depth) (s_trEnd l sides at_ depth) := by
  unfold f100 F100 s_trEnd
  repeat' first | with_reducible exact Lim.ret _ | with_reducible exact Rls_trEnd_0 _ _ _ _ | with_reducible refine Lim.cond ?_ ?_ | with_reducible refine Lim.bind ?_ fun _ => ?_

-- spec.trGood
noncomputable def s_trGood (l : List (Int × Int)) (sides : Int) : Option (Bool) :=
  (s_l1In sides 1 3).bind fun r0 =>
  bif r0 then
    (s_l1In (↑(List.length l) : Int) 1 200).bind fun r1 =>
    bif r1 then
      (s_trEnd l sides 0 0).bind fun r2 =>
      some (decide (r2 = (↑(List.length l) : Int)))
    else
      some false
  else
    some false
theorem Ms_trGood (k : Nat) (l : List (Int × Int)) (sides : Int) : Le (f68 k l sides) (f68 (k + 1) l sides) := by
  unfold f68
  repeat' first | with_reducible exact Le.rfl _ | with_reducible exact Ms_trEnd _ _ _ _ _ | with_reducible exact Ms_l1In _ _ _ _ | with_reducible refine Le.cond ?_ ?_ | with_reducible refine Le.bind ?_ fun _ => ?_
theorem Rs_trGood (l : List (Int × Int)) (sides : Int) : Lim (fun k => f68 k l sides) (s_trGood l sides) := by
  unfold f68 s_trGood
  repeat' first | with_reducible exact Lim.ret _ | with_reducible exact Rs_trEnd _ _ _ _ | with_reducible exact Rs_l1In _ _ _ | with_reducible refine Lim.cond ?_ ?_ | with_reducible refine Lim.bind ?_ fun _ => ?_

-- spec.l1Own
noncomputable def s_l1Own (l : List (Int)) : Option (List (Int)) :=
  bif decide (((0 : Nat) + List.length l) * 8 ≤ 140737488355328) then
    some ([] ++ l)
  else
    none
theorem Ms_l1Own (k : Nat) (l : List (Int)) : Le (f101 k l) (f101 (k + 1) l) := by
  unfold f101
  repeat' first | with_reducible exact Le.rfl _ | with_reducible refine Le.cond ?_ ?_ | with_reducible refine Le.bind ?_ fun _ => ?_
theorem Rs_l1Own (l : List (Int)) : Lim (fun k => f101 k l) (s_l1Own l) := by
  unfold f101 s_l1Own
  repeat' first | with_reducible exact Lim.ret _ | with_reducible refine Lim.cond ?_ ?_ | with_reducible refine Lim.bind ?_ fun _ => ?_

-- spec.bxFine
theorem MFs_bxFine_1003 (k : Nat) {r1003 q1003 : Int → List Int → List Int → List Int → List Int → List Int → Int → Int → Option ((List (Int)) × List (Int))} (h1003 : ∀ (bs_0 : Int) (bs_1 : List Int) (bs_2 : List Int) (lows : List Int) (highs : List Int) (t9 : List Int) (t10 : Int) (t11 : Int), Le (r1003 bs_0 bs_1 bs_2 lows highs t9 t10 t11) (q1003 bs_0 bs_1 bs_2 lows highs t9 t10 t11)) (bs_0 : Int) (bs_1 : List Int) (bs_2 : List Int) (lows : List Int) (highs : List Int) (t9 : List Int) (t10 : Int) (t11 : Int) : Le (F119_1003 k r1003 bs_0 bs_1 bs_2 lows highs t9 t10 t11) (F119_1003 (k + 1) q1003 bs_0 bs_1 bs_2 lows highs t9 t10 t11) := by
  unfold F119_1003
  repeat' first | with_reducible exact Le.rfl _ | with_reducible exact h1003 _ _ _ _ _ _ _ _ | with_reducible refine Le.cond ?_ ?_ | with_reducible refine Le.bind ?_ fun _ => ?_
theorem Mls_bxFine : ∀ k : Nat, ∀ (bs_0 : Int) (bs_1 : List Int) (bs_2 : List Int) (lows : List Int) (highs : List Int) (t9 : List Int) (t10 : Int) (t11 : Int), Le ((l119 k) bs_0 bs_1 bs_2 lows highs t9 t10 t11) ((l119 (k + 1)) bs_0 bs_1 bs_2 lows highs t9 t10 t11)
  | 0 => fun bs_0 bs_1 bs_2 lows highs t9 t10 t11 => Le.no _
  | k + 1 => by
    have h := Mls_bxFine k
    exact fun bs_0 bs_1 bs_2 lows highs t9 t10 t11 => MFs_bxFine_1003 k h bs_0 bs_1 bs_2 lows highs t9 t10 t11
noncomputable def s_bxFine_1003 (bs_0 : Int) (bs_1 : List Int) (bs_2 : List Int) (lows : List Int) (highs : List Int) (t9 : List Int) (t10 : Int) (t11 : Int) : Option ((List (Int)) × List (Int)) := lim fun k => (l119 k) bs_0 bs_1 bs_2 lows highs t9 t10 t11
theorem Rls_bxFine_1003 (bs_0 : Int) (bs_1 : List Int) (bs_2 : List Int) (lows : List Int) (highs : List Int) (t9 : List Int) (t10 : Int) (t11 : Int) : Lim (fun k => (l119 k) bs_0 bs_1 bs_2 lows highs t9 t10 t11) (s_bxFine_1003 bs_0 bs_1 bs_2 lows highs t9 t10 t11) := Lim.of_mono fun k => Mls_bxFine k bs_0 bs_1 bs_2 lows highs t9 t10 t11
theorem Es_bxFine_1003 (bs_0 : Int) (bs_1 : List Int) (bs_2 : List Int) (lows : List Int) (highs : List Int) (t9 : List Int) (t10 : Int) (t11 : Int) : s_bxFine_1003 bs_0 bs_1 bs_2 lows highs t9 t10 t11 =
  bif decide (t11 < t10) then
    bif boundA t11 (List.length t9) then
      bif decide ((List.length lows + List.length [IntKind.wrap IntKind.i64 (2 * List.getD t9 (Int.toNat t11) 0)]) * 8 ≤ 140737488355328) then
        bif boundA t11 (List.length bs_2) then
          bif decide ((List.length highs + List.length [IntKind.wrap IntKind.i64 (2 * List.getD bs_2 (Int.toNat t11) 0)]) * 8 ≤ 140737488355328) then
            s_bxFine_1003 bs_0 bs_1 bs_2 (lows ++ [IntKind.wrap IntKind.i64 (2 * List.getD t9 (Int.toNat t11) 0)]) (highs ++ [IntKind.wrap IntKind.i64 (2 * List.getD bs_2 (Int.toNat t11) 0)]) t9 t10 (IntKind.wrap IntKind.i64 (t11 + 1))
          else
            none
        else
          none
      else
        none
    else
      none
  else
    some ((lows, highs)) := by
  refine Lim.uniq (Lim.shift (Rls_bxFine_1003 bs_0 bs_1 bs_2 lows highs t9 t10 t11)) (?_ : Lim (fun k => F119_1003 k ((l119 k)) bs_0 bs_1 bs_2 lows highs t9 t10 t11) _)
  unfold F119_1003
  repeat' first | with_reducible exact Lim.ret _ | with_reducible exact Rls_bxFine_1003 _ _ _ _ _ _ _ _ | with_reducible refine Lim.cond ?_ ?_ | with_reducible refine Lim.bind ?_ fun _ => ?_
noncomputable def s_bxFine (b_K : Int) (b_Low : List (Int)) (b_High : List (Int)) : Option ((List (Int)) × List (Int)) :=
  s_bxFine_1003 b_K b_Low b_High ([]) ([]) b_Low ((↑(List.length b_Low) : Int)) (0)
theorem Ms_bxFine (k : Nat) (b_K : Int) (b_Low : List (Int)) (b_High : List (Int)) : Le (f119 k b_K b_Low b_High) (f119 (k + 1) b_K b_Low b_High) := by
  have h := Mls_bxFine k
  unfold f119 F119
  repeat' first | with_reducible exact Le.rfl _ | with_reducible exact h _ _ _ _ _ _ _ _ | with_reducible refine Le.cond ?_ ?_ | with_reducible refine Le.bind ?_ fun _ => ?_
theorem Rs_bxFine (b_K : Int) (b_Low : List (Int)) (b_High : List (Int)) : Lim (fun k => f119 k b_K b_Low b_High) (s_bxFine b_K b_Low b_High) := by
  unfold f119 F119 s_bxFine
  repeat' first | with_reducible exact Lim.ret _ | with_reducible exact Rls_bxFine_1003 _ _ _ _ _ _ _ _ | with_reducible refine Lim.cond ?_ ?_ | with_reducible refine Lim.bind ?_ fun _ => ?_

-- spec.bxEven
theorem MFs_bxEven_1002 (k : Nat) {r1002 q1002 : Int → List Int → List Int → List Int → Int → Int → Option (Bool)} (h1002 : ∀ (bs_0 : Int) (bs_1 : List Int) (bs_2 : List Int) (t6 : List Int) (t7 : Int) (t8 : Int), Le (r1002 bs_0 bs_1 bs_2 t6 t7 t8) (q1002 bs_0 bs_1 bs_2 t6 t7 t8)) (bs_0 : Int) (bs_1 : List Int) (bs_2 : List Int) (t6 : List Int) (t7 : Int) (t8 : Int) : Le (F126_1002 k r1002 bs_0 bs_1 bs_2 t6 t7 t8) (F126_1002 (k + 1) q1002 bs_0 bs_1 bs_2 t6 t7 t8) := by
  unfold F126_1002
  repeat' first | with_reducible exact Le.rfl _ | with_reducible exact h1002 _ _ _ _ _ _ | with_reducible refine Le.cond ?_ ?_ | with_reducible refine Le.bind ?_ fun _ => ?_
theorem Mls_bxEven : ∀ k : Nat, ∀ (bs_0 : Int) (bs_1 : List Int) (bs_2 : List Int) (t6 : List Int) (t7 : Int) (t8 : Int), Le ((l126 k) bs_0 bs_1 bs_2 t6 t7 t8) ((l126 (k + 1)) bs_0 bs_1 bs_2 t6 t7 t8)
  | 0 => fun bs_0 bs_1 bs_2 t6 t7 t8 => Le.no _
  | k + 1 => by
    have h := Mls_bxEven k
    exact fun bs_0 bs_1 bs_2 t6 t7 t8 => MFs_bxEven_1002 k h bs_0 bs_1 bs_2 t6 t7 t8
noncomputable def s_bxEven_1002 (bs_0 : Int) (bs_1 : List Int) (bs_2 : List Int) (t6 : List Int) (t7 : Int) (t8 : Int) : Option (Bool) := lim fun k => (l126 k) bs_0 bs_1 bs_2 t6 t7 t8
theorem Rls_bxEven_1002 (bs_0 : Int) (bs_1 : List Int) (bs_2 : List Int) (t6 : List Int) (t7 : Int) (t8 : Int) : Lim (fun k => (l126 k) bs_0 bs_1 bs_2 t6 t7 t8) (s_bxEven_1002 bs_0 bs_1 bs_2 t6 t7 t8) := Lim.of_mono fun k => Mls_bxEven k bs_0 bs_1 bs_2 t6 t7 t8
theorem Es_bxEven_1002 (bs_0 : Int) (bs_1 : List Int) (bs_2 : List Int) (t6 : List Int) (t7 : Int) (t8 : Int) : s_bxEven_1002 bs_0 bs_1 bs_2 t6 t7 t8 =
  bif decide (t8 < t7) then
    bif boundA t8 (List.length t6) then
      bif !decide (Int.tmod (List.getD t6 (Int.toNat t8) 0) 2 = 0) then
        some false
      else
        bif boundA t8 (List.length bs_2) then
          bif !decide (Int.tmod (List.getD bs_2 (Int.toNat t8) 0) 2 = 0) then
            some false
          else
            s_bxEven_1002 bs_0 bs_1 bs_2 t6 t7 (IntKind.wrap IntKind.i64 (t8 + 1))
        else
          none
    else
      none
  else
    some true := by
  refine Lim.uniq (Lim.shift (Rls_bxEven_1002 bs_0 bs_1 bs_2 t6 t7 t8)) (?_ : Lim (fun k => F126_1002 k ((l126 k)) bs_0 bs_1 bs_2 t6 t7 t8) _)
  unfold F126_1002
  repeat' first | with_reducible exact Lim.ret _ | with_reducible exact Rls_bxEven_1002 _ _ _ _ _ _ | with_reducible refine Lim.cond ?_ ?_ | with_reducible refine Lim.bind ?_ fun _ => ?_
noncomputable def s_bxEven (b_K : Int) (b_Low : List (Int)) (b_High : List (Int)) : Option (Bool) :=
  s_bxEven_1002 b_K b_Low b_High b_Low ((↑(List.length b_Low) : Int)) (0)
theorem Ms_bxEven (k : Nat) (b_K : Int) (b_Low : List (Int)) (b_High : List (Int)) : Le (f126 k b_K b_Low b_High) (f126 (k + 1) b_K b_Low b_High) := by
  have h := Mls_bxEven k
  unfold f126 F126
  repeat' first | with_reducible exact Le.rfl _ | with_reducible exact h _ _ _ _ _ _ | with_reducible refine Le.cond ?_ ?_ | with_reducible refine Le.bind ?_ fun _ => ?_
theorem Rs_bxEven (b_K : Int) (b_Low : List (Int)) (b_High : List (Int)) : Lim (fun k => f126 k b_K b_Low b_High) (s_bxEven b_K b_Low b_High) := by
  unfold f126 F126 s_bxEven
  repeat' first | with_reducible exact Lim.ret _ | with_reducible exact Rls_bxEven_1002 _ _ _ _ _ _ | with_reducible refine Lim.cond ?_ ?_ | with_reducible refine Lim.bind ?_ fun _ => ?_

-- spec.bxMake
theorem MFs_bxMake_1002 (k : Nat) {r1002 q1002 : Int → Int → List Int → List Int → Option ((Int × (List (Int)) × List (Int)) × Bool)} (h1002 : ∀ (t6s_0 : Int) (outs_0 : Int) (outs : List Int) (outs' : List Int), Le (r1002 t6s_0 outs_0 outs outs') (q1002 t6s_0 outs_0 outs outs')) {r1005 q1005 : Int → Int → List Int → List Int → Int → Int → Option ((Int × (List (Int)) × List (Int)) × Bool)} (h1005 : ∀ (t6s_0 : Int) (outs_0 : Int) (outs : List Int) (outs' : List Int) (t29 : Int) (t30 : Int), Le (r1005 t6s_0 outs_0 outs outs' t29 t30) (q1005 t6s_0 outs_0 outs outs' t29 t30)) (t6s_0 : Int) (outs_0 : Int) (outs : List Int) (outs' : List Int) : Le (F120_1002 k r1002 r1005 t6s_0 outs_0 outs outs') (F120_1002 (k + 1) q1002 q1005 t6s_0 outs_0 outs outs') := by
  unfold F120_1002
  repeat' first | with_reducible exact Le.rfl _ | with_reducible exact Ms_bxEven _ _ _ _ | with_reducible exact Ms_bxGood _ _ _ _ | with_reducible exact h1002 _ _ _ _ | with_reducible exact h1005 _ _ _ _ _ _ | with_reducible refine Le.cond ?_ ?_ | with_reducible refine Le.bind ?_ fun _ => ?_
theorem MFs_bxMake_1005 (k : Nat) {r1002 q1002 : Int → Int → List Int → List Int → Option ((Int × (List (Int)) × List (Int)) × Bool)} (h1002 : ∀ (t6s_0 : Int) (outs_0 : Int) (outs : List Int) (outs' : List Int), Le (r1002 t6s_0 outs_0 outs outs') (q1002 t6s_0 outs_0 outs outs')) {r1005 q1005 : Int → Int → List Int → List Int → Int → Int → Option ((Int × (List (Int)) × List (Int)) × Bool)} (h1005 : ∀ (t6s_0 : Int) (outs_0 : Int) (outs : List Int) (outs' : List Int) (t29 : Int) (t30 : Int), Le (r1005 t6s_0 outs_0 outs outs' t29 t30) (q1005 t6s_0 outs_0 outs outs' t29 t30)) (t6s_0 : Int) (outs_0 : Int) (outs : List Int) (outs' : List Int) (t29 : Int) (t30 : Int) : Le (F120_1005 k r1002 r1005 t6s_0 outs_0 outs outs' t29 t30) (F120_1005 (k + 1) q1002 q1005 t6s_0 outs_0 outs outs' t29 t30) := by
  unfold F120_1005
  repeat' first | with_reducible exact Le.rfl _ | with_reducible exact h1002 _ _ _ _ | with_reducible exact h1005 _ _ _ _ _ _ | with_reducible refine Le.cond ?_ ?_ | with_reducible refine Le.bind ?_ fun _ => ?_
theorem Mls_bxMake : ∀ k : Nat, (∀ (t6s_0 : Int) (outs_0 : Int) (outs : List Int) (outs' : List Int), Le ((l120 k).1 t6s_0 outs_0 outs outs') ((l120 (k + 1)).1 t6s_0 outs_0 outs outs')) ∧ (∀ (t6s_0 : Int) (outs_0 : Int) (outs : List Int) (outs' : List Int) (t29 : Int) (t30 : Int), Le ((l120 k).2 t6s_0 outs_0 outs outs' t29 t30) ((l120 (k + 1)).2 t6s_0 outs_0 outs outs' t29 t30))
  | 0 => ⟨fun t6s_0 outs_0 outs outs' => Le.no _, fun t6s_0 outs_0 outs outs' t29 t30 => Le.no _⟩
  | k + 1 => by
    have h := Mls_bxMake k
    exact ⟨fun t6s_0 outs_0 outs outs' => MFs_bxMake_1002 k h.1 h.2 t6s_0 outs_0 outs outs', fun t6s_0 outs_0 outs outs' t29 t30 => MFs_bxMake_1005 k h.1 h.2 t6s_0 outs_0 outs outs' t29 t30⟩
noncomputable def s_bxMake_1002 (t6s_0 : Int) (outs_0 : Int) (outs : List Int) (outs' : List Int) : Option ((Int × (List (Int)) × List (Int)) × Bool) := lim fun k => (l120 k).1 t6s_0 outs_0 outs outs'
theorem Rls_bxMake_1002 (t6s_0 : Int) (outs_0 : Int) (outs : List Int) (outs' : List Int) : Lim (fun k => (l120 k).1 t6s_0 outs_0 outs outs') (s_bxMake_1002 t6s_0 outs_0 outs outs') := Lim.of_mono fun k => (Mls_bxMake k).1 t6s_0 outs_0 outs outs'
noncomputable def s_bxMake_1005 (t6s_0 : Int) (outs_0 : Int) (outs : List Int) (outs' : List Int) (t29 : Int) (t30 : Int) : Option ((Int × (List (Int)) × List (Int)) × Bool) := lim fun k => (l120 k).2 t6s_0 outs_0 outs outs' t29 t30
theorem Rls_bxMake_1005 (t6s_0 : Int) (outs_0 : Int) (outs : List Int) (outs' : List Int) (t29 : Int) (t30 : Int) : Lim (fun k => (l120 k).2 t6s_0 outs_0 outs outs' t29 t30) (s_bxMake_1005 t6s_0 outs_0 outs outs' t29 t30) := Lim.of_mono fun k => (Mls_bxMake k).2 t6s_0 outs_0 outs outs' t29 t30
theorem Es_bxMake_1002 (t6s_0 : Int) (outs_0 : Int) (outs : List Int) (outs' : List Int) : s_bxMake_1002 t6s_0 outs_0 outs outs' =
  bif decide (0 < outs_0) then
    (s_bxEven outs_0 outs outs').bind fun r0 =>
    bif r0 then
      s_bxMake_1005 t6s_0 (IntKind.wrap IntKind.i64 (outs_0 - 1)) outs outs' ((↑(List.length outs) : Int)) (0)
    else
      (s_bxGood outs_0 outs outs').bind fun r1 =>
      bif !r1 then
        some (((0, [], []), false))
      else
        some (((outs_0, outs, outs'), true))
  else
    (s_bxGood outs_0 outs outs').bind fun r2 =>
    bif !r2 then
      some (((0, [], []), false))
    else
      some (((outs_0, outs, outs'), true)) := by
  refine Lim.uniq (Lim.shift (Rls_bxMake_1002 t6s_0 outs_0 outs outs')) (?_ : Lim (fun k => F120_1002 k ((l120 k).1) ((l120 k).2) t6s_0 outs_0 outs outs') _)
  unfold F120_1002
  repeat' first | with_reducible exact Lim.ret _ | with_reducible exact Rs_bxEven _ _ _ | with_reducible exact Rs_bxGood _ _ _ | with_reducible exact Rls_bxMake_1002 _ _ _ _ | with_reducible exact Rls_bxMake_1005 _ _ _ _ _ _ | with_reducible refine Lim.cond ?_ ?_ | with_reducible refine Lim.bind ?_ fun _ => ?_
theorem Es_bxMake_1005 (t6s_0 : Int) (outs_0 : Int) (outs : List Int) (outs' : List Int) (t29 : Int) (t30 : Int) : s_bxMake_1005 t6s_0 outs_0 outs outs' t29 t30 =
  bif decide (t30 < t29) then
    bif boundA t30 (List.length outs) then
      bif Nat.blt (Int.toNat t30) (List.length outs) then
        bif boundA t30 (List.length outs) then
          bif Nat.blt (Int.toNat t30) (List.length outs) then
            bif boundA t30 (List.length outs') then
              bif Nat.blt (Int.toNat t30) (List.length outs') then
                bif boundA t30 (List.length outs') then
                  bif Nat.blt (Int.toNat t30) (List.length outs') then
                    s_bxMake_1005 t6s_0 outs_0 (List.set outs (Int.toNat t30) (IntKind.wrap IntKind.i64 (Int.tdiv (List.getD outs (Int.toNat t30) 0) 2))) (List.set outs' (Int.toNat t30) (IntKind.wrap IntKind.i64 (Int.tdiv (List.getD outs' (Int.toNat t30) 0) 2))) t29 (IntKind.wrap IntKind.i64 (t30 + 1))
                  else
                    none
                else
                  none
              else
                none
            else
              none
          else
            none
        else
          none
      else
        none
    else
      none
  else
    s_bxMake_1002 t6s_0 outs_0 outs outs' := by
  refine Lim.uniq (Lim.shift (Rls_bxMake_1005 t6s_0 outs_0 outs outs' t29 t30)) (?_ : Lim (fun k => F120_1005 k ((l120 k).1) ((l120 k).2) t6s_0 outs_0 outs outs' t29 t30) _)
  unfold F120_1005
  repeat' first | with_reducible exact Lim.ret _ | with_reducible exact Rls_bxMake_1002 _ _ _ _ | with_reducible exact Rls_bxMake_1005 _ _ _ _ _ _ | with_reducible refine Lim.cond ?_ ?_ | with_reducible refine Lim.bind ?_ fun _ => ?_
noncomputable def s_bxMake (k_ : Int) (low : List (Int)) (high : List (Int)) : Option ((Int × (List (Int)) × List (Int)) × Bool) :=
  (s_l1Own low).bind fun r0 =>
  (s_l1Own high).bind fun r1 =>
  s_bxMake_1002 (0) k_ r0 r1
theorem Ms_bxMake (k : Nat) (k_ : Int) (low : List (Int)) (high : List (Int)) : Le (f120 k k_ low high) (f120 (k + 1) k_ low high) := by
  have h := Mls_bxMake k
  unfold f120 F120
  repeat' first | with_reducible exact Le.rfl _ | with_reducible exact Ms_l1Own _ _ | with_reducible exact h.1 _ _ _ _ | with_reducible exact h.2 _ _ _ _ _ _ | with_reducible refine Le.cond ?_ ?_ | with_reducible refine Le.bind ?_ fun _ => ?_
theorem Rs_bxMake (k_ : Int) (low : List (Int)) (high : List (Int)) : Lim (fun k => f120 k k_ low high) (s_bxMake k_ low high) := by
  unfold f120 F120 s_bxMake
  repeat' first | with_reducible exact Lim.ret _ | with_reducible exact Rs_l1Own _ | with_reducible exact Rls_bxMake_1002 _ _ _ _ | with_reducible exact Rls_bxMake_1005 _ _ _ _ _ _ | with_reducible refine Lim.cond ?_ ?_ | with_reducible refine Lim.bind ?_ fun _ => ?_

-- spec.bxHalves
noncomputable def s_bxHalves (L_K : Int) (L_Low : List (Int)) (L_High : List (Int)) (i : Int) : Option ((List (Int × (List (Int)) × List (Int))) × Bool) :=
  (s_bxFine L_K L_Low L_High).bind fun r0 =>
  bif boundA i (List.length L_Low) then
    bif boundA i (List.length L_High) then
      (s_l1Own r0.fst).bind fun r1 =>
      (s_l1Own r0.snd).bind fun r2 =>
      bif boundA i (List.length r1) then
        bif Nat.blt (Int.toNat i) (List.length r1) then
          bif boundA i (List.length r2) then
            bif Nat.blt (Int.toNat i) (List.length r2) then
              (s_bxMake (IntKind.wrap IntKind.i64 (L_K + 1)) r0.fst (List.set r2 (Int.toNat i) (IntKind.wrap IntKind.i64 (List.getD L_Low (Int.toNat i) 0 + List.getD L_High (Int.toNat i) 0)))).bind fun r3 =>
              (s_bxMake (IntKind.wrap IntKind.i64 (L_K + 1)) (List.set r1 (Int.toNat i) (IntKind.wrap IntKind.i64 (List.getD L_Low (Int.toNat i) 0 + List.getD L_High (Int.toNat i) 0))) r0.snd).bind fun r4 =>
              bif !r3.snd then
                some (([], false))
              else
                bif !r4.snd then
                  some (([], false))
                else
                  some (([(r3.fst.fst, r3.fst.snd.fst, r3.fst.snd.snd), (r4.fst.fst, r4.fst.snd.fst, r4.fst.snd.snd)], true))
            else
              none
          else
            none
        else
          none
      else
        none
    else
      none
  else
    none
theorem Ms_bxHalves (k : Nat) (L_K : Int) (L_Low : List (Int)) (L_High : List (Int)) (i : Int) : Le (f102 k L_K L_Low L_High i) (f102 (k + 1) L_K L_Low L_High i) := by
  unfold f102
  repeat' first | with_reducible exact Le.rfl _ | with_reducible exact Ms_l1Own _ _ | with_reducible exact Ms_bxFine _ _ _ _ | with_reducible exact Ms_bxMake _ _ _ _ | with_reducible refine Le.cond ?_ ?_ | with_reducible refine Le.bind ?_ fun _ => ?_
theorem Rs_bxHalves (L_K : Int) (L_Low : List (Int)) (L_High : List (Int)) (i : Int) : Lim (fun k => f102 k L_K L_Low L_High i) (s_bxHalves L_K L_Low L_High i) := by
  unfold f102 s_bxHalves
  repeat' first | with_reducible exact Lim.ret _ | with_reducible exact Rs_l1Own _ | with_reducible exact Rs_bxFine _ _ _ | with_reducible exact Rs_bxMake _ _ _ | with_reducible refine Lim.cond ?_ ?_ | with_reducible refine Lim.bind ?_ fun _ => ?_

-- spec.trBoxes
theorem MFs_trBoxes_1004 (k : Nat) {r1004 q1004 : List (Int × List Int × List Int) → List (Int × List Int × List Int) → List (Int × Int) → Int → Int → Option ((List (Int × (List (Int)) × List (Int))) × Bool)} (h1004 : ∀ (os : List (Int × List Int × List Int)) (As : List (Int × List Int × List Int)) (t15 : List (Int × Int)) (t16 : Int) (t17 : Int), Le (r1004 os As t15 t16 t17) (q1004 os As t15 t16 t17)) (os : List (Int × List Int × List Int)) (As : List (Int × List Int × List Int)) (t15 : List (Int × Int)) (t16 : Int) (t17 : Int) : Le (F69_1004 k r1004 os As t15 t16 t17) (F69_1004 (k + 1) q1004 os As t15 t16 t17) := by
  unfold F69_1004
  repeat' first | with_reducible exact Le.rfl _ | with_reducible exact Ms_l1Own _ _ | with_reducible exact Ms_bxHalves _ _ _ _ _ | with_reducible exact h1004 _ _ _ _ _ | with_reducible refine Le.cond ?_ ?_ | with_reducible refine Le.bind ?_ fun _ => ?_
theorem Mls_trBoxes : ∀ k : Nat, ∀ (os : List (Int × List Int × List Int)) (As : List (Int × List Int × List Int)) (t15 : List (Int × Int)) (t16 : Int) (t17 : Int), Le ((l69 k) os As t15 t16 t17) ((l69 (k + 1)) os As t15 t16 t17)
  | 0 => fun os As t15 t16 t17 => Le.no _
  | k + 1 => by
    have h := Mls_trBoxes k
    exact fun os As t15 t16 t17 => MFs_trBoxes_1004 k h os As t15 t16 t17
noncomputable def s_trBoxes_1004 (os : List (Int × List Int × List Int)) (As : List (Int × List Int × List Int)) (t15 : List (Int × Int)) (t16 : Int) (t17 : Int) : Option ((List (Int × (List (Int)) × List (Int))) × Bool) := lim fun k => (l69 k) os As t15 t16 t17
theorem Rls_trBoxes_1004 (os : List (Int × List Int × List Int)) (As : List (Int × List Int × List Int)) (t15 : List (Int × Int)) (t16 : Int) (t17 : Int) : Lim (fun k => (l69 k) os As t15 t16 t17) (s_trBoxes_1004 os As t15 t16 t17) := Lim.of_mono fun k => Mls_trBoxes k os As t15 t16 t17
theorem Es_trBoxes_1004 (os : List (Int × List Int × List Int)) (As : List (Int × List Int × List Int)) (t15 : List (Int × Int)) (t16 : Int) (t17 : Int) : s_trBoxes_1004 os As t15 t16 t17 =
  bif decide (t17 < t16) then
    bif boundA t17 (List.length t15) then
      bif boundA (IntKind.wrap IntKind.i64 ((↑(List.length As) : Int) - 1)) (List.length As) then
        bif Nat.blt (Int.toNat (IntKind.wrap IntKind.i64 ((↑(List.length As) : Int) - 1))) (List.length As) then
          bif boundE (IntKind.wrap IntKind.i64 ((↑(List.length As) : Int) - 1)) (List.length As) then
            bif !decide ((List.getD t15 (Int.toNat t17) (0, 0)).fst = 0) then
              (s_l1Own (List.getD As (Int.toNat (IntKind.wrap IntKind.i64 ((↑(List.length As) : Int) - 1))) (0, [], [])).snd.fst).bind fun r0 =>
              (s_l1Own (List.getD As (Int.toNat (IntKind.wrap IntKind.i64 ((↑(List.length As) : Int) - 1))) (0, [], [])).snd.snd).bind fun r1 =>
              bif decide ((List.length os + List.length [((List.getD As (Int.toNat (IntKind.wrap IntKind.i64 ((↑(List.length As) : Int) - 1))) (0, [], [])).fst, r0, r1)]) * 56 ≤ 140737488355328) then
                s_trBoxes_1004 (os ++ [((List.getD As (Int.toNat (IntKind.wrap IntKind.i64 ((↑(List.length As) : Int) - 1))) (0, [], [])).fst, r0, r1)]) (List.take (Int.toNat (IntKind.wrap IntKind.i64 ((↑(List.length As) : Int) - 1))) As) t15 t16 (IntKind.wrap IntKind.i64 (t17 + 1))
              else
                none
            else
              (s_bxHalves (List.getD As (Int.toNat (IntKind.wrap IntKind.i64 ((↑(List.length As) : Int) - 1))) (0, [], [])).fst (List.getD As (Int.toNat (IntKind.wrap IntKind.i64 ((↑(List.length As) : Int) - 1))) (0, [], [])).snd.fst (List.getD As (Int.toNat (IntKind.wrap IntKind.i64 ((↑(List.length As) : Int) - 1))) (0, [], [])).snd.snd (List.getD t15 (Int.toNat t17) (0, 0)).snd).bind fun r2 =>
              bif !r2.snd then
                some (([], false))
              else
                bif boundA 1 (List.length r2.fst) then
                  bif Nat.blt (Int.toNat 1) (List.length r2.fst) then
                    bif boundA 0 (List.length r2.fst) then
                      bif Nat.blt (Int.toNat 0) (List.length r2.fst) then
                        bif decide ((List.length (List.take (Int.toNat (IntKind.wrap IntKind.i64 ((↑(List.length As) : Int) - 1))) As) + List.length [((List.getD r2.fst (Int.toNat 1) (0, [], [])).fst, (List.getD r2.fst (Int.toNat 1) (0, [], [])).snd.fst, (List.getD r2.fst (Int.toNat 1) (0, [], [])).snd.snd), ((List.getD r2.fst (Int.toNat 0) (0, [], [])).fst, (List.getD r2.fst (Int.toNat 0) (0, [], [])).snd.fst, (List.getD r2.fst (Int.toNat 0) (0, [], [])).snd.snd)]) * 56 ≤ 140737488355328) then
                          s_trBoxes_1004 os (List.take (Int.toNat (IntKind.wrap IntKind.i64 ((↑(List.length As) : Int) - 1))) As ++ [((List.getD r2.fst (Int.toNat 1) (0, [], [])).fst, (List.getD r2.fst (Int.toNat 1) (0, [], [])).snd.fst, (List.getD r2.fst (Int.toNat 1) (0, [], [])).snd.snd), ((List.getD r2.fst (Int.toNat 0) (0, [], [])).fst, (List.getD r2.fst (Int.toNat 0) (0, [], [])).snd.fst, (List.getD r2.fst (Int.toNat 0) (0, [], [])).snd.snd)]) t15 t16 (IntKind.wrap IntKind.i64 (t17 + 1))
                        else
                          none
                      else
                        none
                    else
                      none
                  else
                    none
                else
                  none
          else
            none
        else
          none
      else
        none
    else
      none
  else
    some ((os, true)) := by
  refine Lim.uniq (Lim.shift (Rls_trBoxes_1004 os As t15 t16 t17)) (?_ : Lim (fun k => F69_1004 k ((l69 k)) os As t15 t16 t17) _)
  unfold F69_1004
  repeat' first | with_reducible exact Lim.ret _ | with_reducible exact Rs_l1Own _ | with_reducible exact Rs_bxHalves _ _ _ _ | with_reducible exact Rls_trBoxes_1004 _ _ _ _ _ | with_reducible refine Lim.cond ?_ ?_ | with_reducible refine Lim.bind ?_ fun _ => ?_
noncomputable def s_trBoxes (L_K : Int) (L_Low : List (Int)) (L_High : List (Int)) (i : List (Int × Int)) : Option ((List (Int × (List (Int)) × List (Int))) × Bool) :=
  s_trBoxes_1004 ([]) ([(L_K, L_Low, L_High)]) i ((↑(List.length i) : Int)) (0)
theorem Ms_trBoxes (k : Nat) (L_K : Int) (L_Low : List (Int)) (L_High : List (Int)) (i : List (Int × Int)) : Le (f69 k L_K L_Low L_High i) (f69 (k + 1) L_K L_Low L_High i) := by
  have h := Mls_trBoxes k
  unfold f69 F69
  repeat' first | with_reducible exact Le.rfl _ | with_reducible exact h _ _ _ _ _ | with_reducible refine Le.cond ?_ ?_ | with_reducible refine Le.bind ?_ fun _ => ?_
theorem Rs_trBoxes (L_K : Int) (L_Low : List (Int)) (L_High : List (Int)) (i : List (Int × Int)) : Lim (fun k => f69 k L_K L_Low L_High i) (s_trBoxes L_K L_Low L_High i) := by
  unfold f69 F69 s_trBoxes
  repeat' first | with_reducible exact Lim.ret _ | with_reducible exact Rls_trBoxes_1004 _ _ _ _ _ | with_reducible refine Lim.cond ?_ ?_ | with_reducible refine Lim.bind ?_ fun _ => ?_

-- spec.rpAsked
noncomputable def s_rpAsked (b_K : Int) (b_Low : List (Int)) (b_High : List (Int)) (l : List (Int × Int)) : Option ((List (Int × (List (Int)) × List (Int))) × Bool) :=
  (s_bxGood b_K b_Low b_High).bind fun r0 =>
  bif !r0 then
    some (([], false))
  else
    (s_trGood l (↑(List.length b_Low) : Int)).bind fun r1 =>
    bif !r1 then
      some (([], false))
    else
      (s_trBoxes b_K b_Low b_High l).bind fun r2 =>
      some ((r2.fst, r2.snd))
theorem Ms_rpAsked (k : Nat) (b_K : Int) (b_Low : List (Int)) (b_High : List (Int)) (l : List (Int × Int)) : Le (f35 k b_K b_Low b_High l) (f35 (k + 1) b_K b_Low b_High l) := by
  unfold f35
  repeat' first | with_reducible exact Le.rfl _ | with_reducible exact Ms_bxGood _ _ _ _ | with_reducible exact Ms_trGood _ _ _ | with_reducible exact Ms_trBoxes _ _ _ _ _ | with_reducible refine Le.cond ?_ ?_ | with_reducible refine Le.bind ?_ fun _ => ?_
theorem Rs_rpAsked (b_K : Int) (b_Low : List (Int)) (b_High : List (Int)) (l : List (Int × Int)) : Lim (fun k => f35 k b_K b_Low b_High l) (s_rpAsked b_K b_Low b_High l) := by
  unfold f35 s_rpAsked
  repeat' first | with_reducible exact Lim.ret _ | with_reducible exact Rs_bxGood _ _ _ | with_reducible exact Rs_trGood _ _ | with_reducible exact Rs_trBoxes _ _ _ _ | with_reducible refine Lim.cond ?_ ?_ | with_reducible refine Lim.bind ?_ fun _ => ?_

-- spec.dyAt
theorem MFs_dyAt_1004 (k : Nat) {r1004 q1004 : Int → Int → Int → Int → Option (Int × Bool)} (h1004 : ∀ (k_ : Int) (as_0 : Int) (as_1 : Int) (i : Int), Le (r1004 k_ as_0 as_1 i) (q1004 k_ as_0 as_1 i)) (k_ : Int) (as_0 : Int) (as_1 : Int) (i : Int) : Le (F64_1004 k r1004 k_ as_0 as_1 i) (F64_1004 (k + 1) q1004 k_ as_0 as_1 i) := by
  unfold F64_1004
  repeat' first | with_reducible exact Le.rfl _ | with_reducible exact Ms_l1In _ _ _ _ | with_reducible exact h1004 _ _ _ _ | with_reducible refine Le.cond ?_ ?_ | with_reducible refine Le.bind ?_ fun _ => ?_
theorem Mls_dyAt : ∀ k : Nat, ∀ (k_ : Int) (as_0 : Int) (as_1 : Int) (i : Int), Le ((l64 k) k_ as_0 as_1 i) ((l64 (k + 1)) k_ as_0 as_1 i)
  | 0 => fun k_ as_0 as_1 i => Le.no _
  | k + 1 => by
    have h := Mls_dyAt k
    exact fun k_ as_0 as_1 i => MFs_dyAt_1004 k h k_ as_0 as_1 i
noncomputable def s_dyAt_1004 (k_ : Int) (as_0 : Int) (as_1 : Int) (i : Int) : Option (Int × Bool) := lim fun k => (l64 k) k_ as_0 as_1 i
theorem Rls_dyAt_1004 (k_ : Int) (as_0 : Int) (as_1 : Int) (i : Int) : Lim (fun k => (l64 k) k_ as_0 as_1 i) (s_dyAt_1004 k_ as_0 as_1 i) := Lim.of_mono fun k => Mls_dyAt k k_ as_0 as_1 i
theorem Es_dyAt_1004 (k_ : Int) (as_0 : Int) (as_1 : Int) (i : Int) : s_dyAt_1004 k_ as_0 as_1 i =
  bif decide (i < k_) then
    (s_l1In as_0 (IntKind.wrap IntKind.i64 (0 - IntKind.wrap IntKind.i64 (1 * 2 ^ min (Int.toNat (IntKind.wrap IntKind.u64 60)) (IntKind.bits IntKind.i64)))) (IntKind.wrap IntKind.i64 (1 * 2 ^ min (Int.toNat (IntKind.wrap IntKind.u64 60)) (IntKind.bits IntKind.i64)))).bind fun r0 =>
    bif !r0 then
      some ((0, false))
    else
      s_dyAt_1004 k_ (IntKind.wrap IntKind.i64 (as_0 * 2)) as_1 (IntKind.wrap IntKind.i64 (i + 1))
  else
    some ((as_0, true)) := by
  refine Lim.uniq (Lim.shift (Rls_dyAt_1004 k_ as_0 as_1 i)) (?_ : Lim (fun k => F64_1004 k ((l64 k)) k_ as_0 as_1 i) _)
  unfold F64_1004
  repeat' first | with_reducible exact Lim.ret _ | with_reducible exact Rs_l1In _ _ _ | with_reducible exact Rls_dyAt_1004 _ _ _ _ | with_reducible refine Lim.cond ?_ ?_ | with_reducible refine Lim.bind ?_ fun _ => ?_
noncomputable def s_dyAt (a_N : Int) (a_K : Int) (k_ : Int) : Option (Int × Bool) :=
  bif decide (a_N = 0) then
    some ((0, true))
  else
    s_dyAt_1004 k_ a_N a_K a_K
theorem Ms_dyAt (k : Nat) (a_N : Int) (a_K : Int) (k_ : Int) : Le (f64 k a_N a_K k_) (f64 (k + 1) a_N a_K k_) := by
  have h := Mls_dyAt k
  unfold f64 F64
  repeat' first | with_reducible exact Le.rfl _ | with_reducible exact h _ _ _ _ | with_reducible refine Le.cond ?_ ?_ | with_reducible refine Le.bind ?_ fun _ => ?_
theorem Rs_dyAt (a_N : Int) (a_K : Int) (k_ : Int) : Lim (fun k => f64 k a_N a_K k_) (s_dyAt a_N a_K k_) := by
  unfold f64 F64 s_dyAt
  repeat' first | with_reducible exact Lim.ret _ | with_reducible exact Rls_dyAt_1004 _ _ _ _ | with_reducible refine Lim.cond ?_ ?_ | with_reducible refine Lim.bind ?_ fun _ => ?_

-- spec.dyDown
noncomputable def s_dyDown (a : Int) (b : Int) : Option (Int) :=
  bif !decide (b = 0) then
    bif !decide (b = 0) then
      bif decide (Int.tmod a b < 0) then
        some (IntKind.wrap IntKind.i64 (IntKind.wrap IntKind.i64 (Int.tdiv a b) - 1))
      else
        some (IntKind.wrap IntKind.i64 (Int.tdiv a b))
    else
      none
  else
    none
theorem Ms_dyDown (k : Nat) (a : Int) (b : Int) : Le (f110 k a b) (f110 (k + 1) a b) := by
  unfold f110
  repeat' first | with_reducible exact Le.rfl _ | with_reducible refine Le.cond ?_ ?_ | with_reducible refine Le.bind ?_ fun _ => ?_
theorem Rs_dyDown (a : Int) (b : Int) : Lim (fun k => f110 k a b) (s_dyDown a b) := by
  unfold f110 s_dyDown
  repeat' first | with_reducible exact Lim.ret _ | with_reducible refine Lim.cond ?_ ?_ | with_reducible refine Lim.bind ?_ fun _ => ?_

-- spec.dyFloor
noncomputable def s_dyFloor (a_N : Int) (a_K : Int) : Option (Int) :=
  (s_dyPower a_K).bind fun r0 =>
  (s_dyDown a_N r0).bind fun r1 =>
  some r1
theorem Ms_dyFloor (k : Nat) (a_N : Int) (a_K : Int) : Le (f79 k a_N a_K) (f79 (k + 1) a_N a_K) := by
  unfold f79
  repeat' first | with_reducible exact Le.rfl _ | with_reducible exact Ms_dyDown _ _ _ | with_reducible exact Ms_dyPower _ _ | with_reducible refine Le.cond ?_ ?_ | with_reducible refine Le.bind ?_ fun _ => ?_
theorem Rs_dyFloor (a_N : Int) (a_K : Int) : Lim (fun k => f79 k a_N a_K) (s_dyFloor a_N a_K) := by
  unfold f79 s_dyFloor
  repeat' first | with_reducible exact Lim.ret _ | with_reducible exact Rs_dyDown _ _ | with_reducible exact Rs_dyPower _ | with_reducible refine Lim.cond ?_ ?_ | with_reducible refine Lim.bind ?_ fun _ => ?_

-- spec.l1Sign
noncomputable def s_l1Sign (n : Int) : Option (Int) :=
  bif decide (0 < n) then
    some (1)
  else
    bif decide (n < 0) then
      some (-1)
    else
      some (0)
theorem Ms_l1Sign (k : Nat) (n : Int) : Le (f80 k n) (f80 (k + 1) n) := by
  unfold f80
  repeat' first | with_reducible exact Le.rfl _ | with_reducible refine Le.cond ?_ ?_ | with_reducible refine Le.bind ?_ fun _ => ?_
theorem Rs_l1Sign (n : Int) : Lim (fun k => f80 k n) (s_l1Sign n) := by
  unfold f80 s_l1Sign
  repeat' first | with_reducible exact Lim.ret _ | with_reducible refine Lim.cond ?_ ?_ | with_reducible refine Lim.bind ?_ fun _ => ?_

-- spec.dyCmp
noncomputable def s_dyCmp (a_N : Int) (a_K : Int) (b_N : Int) (b_K : Int) : Option (Int) :=
  (s_dyFloor a_N a_K).bind fun r0 =>
  (s_dyFloor b_N b_K).bind fun r1 =>
  bif !decide (r0 = r1) then
    (s_l1Sign (IntKind.wrap IntKind.i64 (r0 - r1))).bind fun r2 =>
    some r2
  else
    (s_dyPower a_K).bind fun r3 =>
    (s_dyAt (IntKind.wrap IntKind.i64 (a_N - IntKind.wrap IntKind.i64 (r0 * r3))) a_K 24).bind fun r4 =>
    (s_dyPower b_K).bind fun r5 =>
    (s_dyAt (IntKind.wrap IntKind.i64 (b_N - IntKind.wrap IntKind.i64 (r1 * r5))) b_K 24).bind fun r6 =>
    (s_l1Sign (IntKind.wrap IntKind.i64 (r4.fst - r6.fst))).bind fun r7 =>
    some r7
theorem Ms_dyCmp (k : Nat) (a_N : Int) (a_K : Int) (b_N : Int) (b_K : Int) : Le (f49 k a_N a_K b_N b_K) (f49 (k + 1) a_N a_K b_N b_K) := by
  unfold f49
  repeat' first | with_reducible exact Le.rfl _ | with_reducible exact Ms_dyAt _ _ _ _ | with_reducible exact Ms_dyFloor _ _ _ | with_reducible exact Ms_l1Sign _ _ | with_reducible exact Ms_dyPower _ _ | with_reducible refine Le.cond ?_ ?_ | with_reducible refine Le.bind ?_ fun _ => ?_
theorem Rs_dyCmp (a_N : Int) (a_K : Int) (b_N : Int) (b_K : Int) : Lim (fun k => f49 k a_N a_K b_N b_K) (s_dyCmp a_N a_K b_N b_K) := by
  unfold f49 s_dyCmp
  repeat' first | with_reducible exact Lim.ret _ | with_reducible exact Rs_dyAt _ _ _ | with_reducible exact Rs_dyFloor _ _ | with_reducible exact Rs_l1Sign _ | with_reducible exact Rs_dyPower _ | with_reducible refine Lim.cond ?_ ?_ | with_reducible refine Lim.bind ?_ fun _ => ?_

-- spec.rpLeaves
theorem MFs_rpLeaves_1003 (k : Nat) {r1003 q1003 : List (Int × Int) → List (Int × Int) → Int → Int → Option (List (Int × Int))} (h1003 : ∀ (outs : List (Int × Int)) (t6 : List (Int × Int)) (t7 : Int) (t8 : Int), Le (r1003 outs t6 t7 t8) (q1003 outs t6 t7 t8)) (outs : List (Int × Int)) (t6 : List (Int × Int)) (t7 : Int) (t8 : Int) : Le (F53_1003 k r1003 outs t6 t7 t8) (F53_1003 (k + 1) q1003 outs t6 t7 t8) := by
  unfold F53_1003
  repeat' first | with_reducible exact Le.rfl _ | with_reducible exact h1003 _ _ _ _ | with_reducible refine Le.cond ?_ ?_ | with_reducible refine Le.bind ?_ fun _ => ?_
theorem Mls_rpLeaves : ∀ k : Nat, ∀ (outs : List (Int × Int)) (t6 : List (Int × Int)) (t7 : Int) (t8 : Int), Le ((l53 k) outs t6 t7 t8) ((l53 (k + 1)) outs t6 t7 t8)
  | 0 => fun outs t6 t7 t8 => Le.no _
  | k + 1 => by
    have h := Mls_rpLeaves k
    exact fun outs t6 t7 t8 => MFs_rpLeaves_1003 k h outs t6 t7 t8
noncomputable def s_rpLeaves_1003 (outs : List (Int × Int)) (t6 : List (Int × Int)) (t7 : Int) (t8 : Int) : Option (List (Int × Int)) := lim fun k => (l53 k) outs t6 t7 t8
theorem Rls_rpLeaves_1003 (outs : List (Int × Int)) (t6 : List (Int × Int)) (t7 : Int) (t8 : Int) : Lim (fun k => (l53 k) outs t6 t7 t8) (s_rpLeaves_1003 outs t6 t7 t8) := Lim.of_mono fun k => Mls_rpLeaves k outs t6 t7 t8
theorem Es_rpLeaves_1003 (outs : List (Int × Int)) (t6 : List (Int × Int)) (t7 : Int) (t8 : Int) : s_rpLeaves_1003 outs t6 t7 t8 =
  bif decide (t8 < t7) then
    bif boundA t8 (List.length t6) then
      bif !decide ((List.getD t6 (Int.toNat t8) (0, 0)).fst = 0) then
        bif decide ((List.length outs + List.length [((List.getD t6 (Int.toNat t8) (0, 0)).fst, (List.getD t6 (Int.toNat t8) (0, 0)).snd)]) * 16 ≤ 140737488355328) then
          s_rpLeaves_1003 (outs ++ [((List.getD t6 (Int.toNat t8) (0, 0)).fst, (List.getD t6 (Int.toNat t8) (0, 0)).snd)]) t6 t7 (IntKind.wrap IntKind.i64 (t8 + 1))
        else
          none
      else
        s_rpLeaves_1003 outs t6 t7 (IntKind.wrap IntKind.i64 (t8 + 1))
    else
      none
  else
    some outs := by
  refine Lim.uniq (Lim.shift (Rls_rpLeaves_1003 outs t6 t7 t8)) (?_ : Lim (fun k => F53_1003 k ((l53 k)) outs t6 t7 t8) _)
  unfold F53_1003
  repeat' first | with_reducible exact Lim.ret _ | with_reducible exact Rls_rpLeaves_1003 _ _ _ _ | with_reducible refine Lim.cond ?_ ?_ | with_reducible refine Lim.bind ?_ fun _ => ?_
noncomputable def s_rpLeaves (l : List (Int × Int)) : Option (List (Int × Int)) :=
  s_rpLeaves_1003 ([]) l ((↑(List.length l) : Int)) (0)
theorem Ms_rpLeaves (k : Nat) (l : List (Int × Int)) : Le (f53 k l) (f53 (k + 1) l) := by
  have h := Mls_rpLeaves k
  unfold f53 F53
  repeat' first | with_reducible exact Le.rfl _ | with_reducible exact h _ _ _ _ | with_reducible refine Le.cond ?_ ?_ | with_reducible refine Le.bind ?_ fun _ => ?_
theorem Rs_rpLeaves (l : List (Int × Int)) : Lim (fun k => f53 k l) (s_rpLeaves l) := by
  unfold f53 F53 s_rpLeaves
  repeat' first | with_reducible exact Lim.ret _ | with_reducible exact Rls_rpLeaves_1003 _ _ _ _ | with_reducible refine Lim.cond ?_ ?_ | with_reducible refine Lim.bind ?_ fun _ => ?_

-- spec.dyGood
noncomputable def s_dyGood (a_N : Int) (a_K : Int) : Option (Bool) :=
  (s_l1In a_K 0 24).bind fun r0 =>
  bif r0 then
    (s_l1In a_N (-1099511627776) 1099511627776).bind fun r1 =>
    bif r1 then
      bif decide (a_K = 0) then
        some true
      else
        some (!decide (Int.tmod a_N 2 = 0))
    else
      some false
  else
    some false
theorem Ms_dyGood (k : Nat) (a_N : Int) (a_K : Int) : Le (f70 k a_N a_K) (f70 (k + 1) a_N a_K) := by
  unfold f70
  repeat' first | with_reducible exact Le.rfl _ | with_reducible exact Ms_l1In _ _ _ _ | with_reducible refine Le.cond ?_ ?_ | with_reducible refine Le.bind ?_ fun _ => ?_
theorem Rs_dyGood (a_N : Int) (a_K : Int) : Lim (fun k => f70 k a_N a_K) (s_dyGood a_N a_K) := by
  unfold f70 s_dyGood
  repeat' first | with_reducible exact Lim.ret _ | with_reducible exact Rs_l1In _ _ _ | with_reducible refine Lim.cond ?_ ?_ | with_reducible refine Lim.bind ?_ fun _ => ?_

-- spec.dyMake
theorem MFs_dyMake_1003 (k : Nat) {r1003 q1003 : Int → Int → Int → Int → Option ((Int × Int) × Bool)} (h1003 : ∀ (n : Int) (k_ : Int) (t4s_0 : Int) (t4s_1 : Int), Le (r1003 n k_ t4s_0 t4s_1) (q1003 n k_ t4s_0 t4s_1)) (n : Int) (k_ : Int) (t4s_0 : Int) (t4s_1 : Int) : Le (F103_1003 k r1003 n k_ t4s_0 t4s_1) (F103_1003 (k + 1) q1003 n k_ t4s_0 t4s_1) := by
  unfold F103_1003
  repeat' first | with_reducible exact Le.rfl _ | with_reducible exact Ms_dyGood _ _ _ | with_reducible exact h1003 _ _ _ _ | with_reducible refine Le.cond ?_ ?_ | with_reducible refine Le.bind ?_ fun _ => ?_
theorem Mls_dyMake : ∀ k : Nat, ∀ (n : Int) (k_ : Int) (t4s_0 : Int) (t4s_1 : Int), Le ((l103 k) n k_ t4s_0 t4s_1) ((l103 (k + 1)) n k_ t4s_0 t4s_1)
  | 0 => fun n k_ t4s_0 t4s_1 => Le.no _
  | k + 1 => by
    have h := Mls_dyMake k
    exact fun n k_ t4s_0 t4s_1 => MFs_dyMake_1003 k h n k_ t4s_0 t4s_1
noncomputable def s_dyMake_1003 (n : Int) (k_ : Int) (t4s_0 : Int) (t4s_1 : Int) : Option ((Int × Int) × Bool) := lim fun k => (l103 k) n k_ t4s_0 t4s_1
theorem Rls_dyMake_1003 (n : Int) (k_ : Int) (t4s_0 : Int) (t4s_1 : Int) : Lim (fun k => (l103 k) n k_ t4s_0 t4s_1) (s_dyMake_1003 n k_ t4s_0 t4s_1) := Lim.of_mono fun k => Mls_dyMake k n k_ t4s_0 t4s_1
theorem Es_dyMake_1003 (n : Int) (k_ : Int) (t4s_0 : Int) (t4s_1 : Int) : s_dyMake_1003 n k_ t4s_0 t4s_1 =
  bif decide (0 < k_) then
    bif decide (Int.tmod n 2 = 0) then
      s_dyMake_1003 (IntKind.wrap IntKind.i64 (Int.tdiv n 2)) (IntKind.wrap IntKind.i64 (k_ - 1)) t4s_0 t4s_1
    else
      (s_dyGood n k_).bind fun r0 =>
      bif !r0 then
        some (((0, 0), false))
      else
        some (((n, k_), true))
  else
    (s_dyGood n k_).bind fun r1 =>
    bif !r1 then
      some (((0, 0), false))
    else
      some (((n, k_), true)) := by
  refine Lim.uniq (Lim.shift (Rls_dyMake_1003 n k_ t4s_0 t4s_1)) (?_ : Lim (fun k => F103_1003 k ((l103 k)) n k_ t4s_0 t4s_1) _)
  unfold F103_1003
  repeat' first | with_reducible exact Lim.ret _ | with_reducible exact Rs_dyGood _ _ | with_reducible exact Rls_dyMake_1003 _ _ _ _ | with_reducible refine Lim.cond ?_ ?_ | with_reducible refine Lim.bind ?_ fun _ => ?_
noncomputable def s_dyMake (n : Int) (k_ : Int) : Option ((Int × Int) × Bool) :=
  bif decide (n = 0) then
    bif decide (0 < k_) then
      s_dyMake_1003 n (0) (0) (0)
    else
      s_dyMake_1003 n k_ (0) (0)
  else
    s_dyMake_1003 n k_ (0) (0)
theorem Ms_dyMake (k : Nat) (n : Int) (k_ : Int) : Le (f103 k n k_) (f103 (k + 1) n k_) := by
  have h := Mls_dyMake k
  unfold f103 F103
  repeat' first | with_reducible exact Le.rfl _ | with_reducible exact h _ _ _ _ | with_reducible refine Le.cond ?_ ?_ | with_reducible refine Le.bind ?_ fun _ => ?_
theorem Rs_dyMake (n : Int) (k_ : Int) : Lim (fun k => f103 k n k_) (s_dyMake n k_) := by
  unfold f103 F103 s_dyMake
  repeat' first | with_reducible exact Lim.ret _ | with_reducible exact Rls_dyMake_1003 _ _ _ _ | with_reducible refine Lim.cond ?_ ?_ | with_reducible refine Lim.bind ?_ fun _ => ?_

-- spec.bxNumber
noncomputable def s_bxNumber (n : Int) (k_ : Int) : Option (Int × Int) :=
  (s_dyMake n k_).bind fun r0 =>
  some ((r0.fst.fst, r0.fst.snd))
theorem Ms_bxNumber (k : Nat) (n : Int) (k_ : Int) : Le (f71 k n k_) (f71 (k + 1) n k_) := by
  unfold f71
  repeat' first | with_reducible exact Le.rfl _ | with_reducible exact Ms_dyMake _ _ _ | with_reducible refine Le.cond ?_ ?_ | with_reducible refine Le.bind ?_ fun _ => ?_
theorem Rs_bxNumber (n : Int) (k_ : Int) : Lim (fun k => f71 k n k_) (s_bxNumber n k_) := by
  unfold f71 s_bxNumber
  repeat' first | with_reducible exact Lim.ret _ | with_reducible exact Rs_dyMake _ _ | with_reducible refine Lim.cond ?_ ?_ | with_reducible refine Lim.bind ?_ fun _ => ?_

-- spec.bxVolume
theorem MFs_bxVolume_1003 (k : Nat) {r1003 q1003 : Int → List Int → List Int → Int → Int → Int → List Int → Int → Int → Option (Int × Int)} (h1003 : ∀ (bs_0 : Int) (bs_1 : List Int) (bs_2 : List Int) (t2s_0 : Int) (t2s_1 : Int) (n : Int) (t7 : List Int) (t8 : Int) (t9 : Int), Le (r1003 bs_0 bs_1 bs_2 t2s_0 t2s_1 n t7 t8 t9) (q1003 bs_0 bs_1 bs_2 t2s_0 t2s_1 n t7 t8 t9)) (bs_0 : Int) (bs_1 : List Int) (bs_2 : List Int) (t2s_0 : Int) (t2s_1 : Int) (n : Int) (t7 : List Int) (t8 : Int) (t9 : Int) : Le (F54_1003 k r1003 bs_0 bs_1 bs_2 t2s_0 t2s_1 n t7 t8 t9) (F54_1003 (k + 1) q1003 bs_0 bs_1 bs_2 t2s_0 t2s_1 n t7 t8 t9) := by
  unfold F54_1003
  repeat' first | with_reducible exact Le.rfl _ | with_reducible exact Ms_bxNumber _ _ _ | with_reducible exact h1003 _ _ _ _ _ _ _ _ _ | with_reducible refine Le.cond ?_ ?_ | with_reducible refine Le.bind ?_ fun _ => ?_
theorem Mls_bxVolume : ∀ k : Nat, ∀ (bs_0 : Int) (bs_1 : List Int) (bs_2 : List Int) (t2s_0 : Int) (t2s_1 : Int) (n : Int) (t7 : List Int) (t8 : Int) (t9 : Int), Le ((l54 k) bs_0 bs_1 bs_2 t2s_0 t2s_1 n t7 t8 t9) ((l54 (k + 1)) bs_0 bs_1 bs_2 t2s_0 t2s_1 n t7 t8 t9)
  | 0 => fun bs_0 bs_1 bs_2 t2s_0 t2s_1 n t7 t8 t9 => Le.no _
  | k + 1 => by
    have h := Mls_bxVolume k
    exact fun bs_0 bs_1 bs_2 t2s_0 t2s_1 n t7 t8 t9 => MFs_bxVolume_1003 k h bs_0 bs_1 bs_2 t2s_0 t2s_1 n t7 t8 t9
noncomputable def s_bxVolume_1003 (bs_0 : Int) (bs_1 : List Int) (bs_2 : List Int) (t2s_0 : Int) (t2s_1 : Int) (n : Int) (t7 : List Int) (t8 : Int) (t9 : Int) : Option (Int × Int) := lim fun k => (l54 k) bs_0 bs_1 bs_2 t2s_0 t2s_1 n t7 t8 t9
theorem Rls_bxVolume_1003 (bs_0 : Int) (bs_1 : List Int) (bs_2 : List Int) (t2s_0 : Int) (t2s_1 : Int) (n : Int) (t7 : List Int) (t8 : Int) (t9 : Int) : Lim (fun k => (l54 k) bs_0 bs_1 bs_2 t2s_0 t2s_1 n t7 t8 t9) (s_bxVolume_1003 bs_0 bs_1 bs_2 t2s_0 t2s_1 n t7 t8 t9) := Lim.of_mono fun k => Mls_bxVolume k bs_0 bs_1 bs_2 t2s_0 t2s_1 n t7 t8 t9
theorem Es_bxVolume_1003 (bs_0 : Int) (bs_1 : List Int) (bs_2 : List Int) (t2s_0 : Int) (t2s_1 : Int) (n : Int) (t7 : List Int) (t8 : Int) (t9 : Int) : s_bxVolume_1003 bs_0 bs_1 bs_2 t2s_0 t2s_1 n t7 t8 t9 =
  bif decide (t9 < t8) then
    bif boundA t9 (List.length t7) then
      bif boundA t9 (List.length bs_2) then
        s_bxVolume_1003 bs_0 bs_1 bs_2 t2s_0 t2s_1 (IntKind.wrap IntKind.i64 (n * IntKind.wrap IntKind.i64 (List.getD bs_2 (Int.toNat t9) 0 - List.getD t7 (Int.toNat t9) 0))) t7 t8 (IntKind.wrap IntKind.i64 (t9 + 1))
      else
        none
    else
      none
  else
    (s_bxNumber n (IntKind.wrap IntKind.i64 ((↑(List.length bs_1) : Int) * bs_0))).bind fun r0 =>
    some ((r0.fst, r0.snd)) := by
  refine Lim.uniq (Lim.shift (Rls_bxVolume_1003 bs_0 bs_1 bs_2 t2s_0 t2s_1 n t7 t8 t9)) (?_ : Lim (fun k => F54_1003 k ((l54 k)) bs_0 bs_1 bs_2 t2s_0 t2s_1 n t7 t8 t9) _)
  unfold F54_1003
  repeat' first | with_reducible exact Lim.ret _ | with_reducible exact Rs_bxNumber _ _ | with_reducible exact Rls_bxVolume_1003 _ _ _ _ _ _ _ _ _ | with_reducible refine Lim.cond ?_ ?_ | with_reducible refine Lim.bind ?_ fun _ => ?_
noncomputable def s_bxVolume (b_K : Int) (b_Low : List (Int)) (b_High : List (Int)) : Option (Int × Int) :=
  s_bxVolume_1003 b_K b_Low b_High (0) (0) (1) b_Low ((↑(List.length b_Low) : Int)) (0)
theorem Ms_bxVolume (k : Nat) (b_K : Int) (b_Low : List (Int)) (b_High : List (Int)) : Le (f54 k b_K b_Low b_High) (f54 (k + 1) b_K b_Low b_High) := by
  have h := Mls_bxVolume k
  unfold f54 F54
  repeat' first | with_reducible exact Le.rfl _ | with_reducible exact h _ _ _ _ _ _ _ _ _ | with_reducible refine Le.cond ?_ ?_ | with_reducible refine Le.bind ?_ fun _ => ?_
theorem Rs_bxVolume (b_K : Int) (b_Low : List (Int)) (b_High : List (Int)) : Lim (fun k => f54 k b_K b_Low b_High) (s_bxVolume b_K b_Low b_High) := by
  unfold f54 F54 s_bxVolume
  repeat' first | with_reducible exact Lim.ret _ | with_reducible exact Rls_bxVolume_1003 _ _ _ _ _ _ _ _ _ | with_reducible refine Lim.cond ?_ ?_ | with_reducible refine Lim.bind ?_ fun _ => ?_

-- spec.l1Most
noncomputable def s_l1Most (a : Int) (b : Int) : Option (Int) :=
  bif decide (b < a) then
    some a
  else
    some b
theorem Ms_l1Most (k : Nat) (a : Int) (b : Int) : Le (f111 k a b) (f111 (k + 1) a b) := by
  unfold f111
  repeat' first | with_reducible exact Le.rfl _ | with_reducible refine Le.cond ?_ ?_ | with_reducible refine Le.bind ?_ fun _ => ?_
theorem Rs_l1Most (a : Int) (b : Int) : Lim (fun k => f111 k a b) (s_l1Most a b) := by
  unfold f111 s_l1Most
  repeat' first | with_reducible exact Lim.ret _ | with_reducible refine Lim.cond ?_ ?_ | with_reducible refine Lim.bind ?_ fun _ => ?_

-- spec.dyAdd
noncomputable def s_dyAdd (a_N : Int) (a_K : Int) (b_N : Int) (b_K : Int) : Option ((Int × Int) × Bool) :=
  (s_l1Most a_K b_K).bind fun r0 =>
  (s_dyAt a_N a_K r0).bind fun r1 =>
  (s_dyAt b_N b_K r0).bind fun r2 =>
  bif !r1.snd then
    some (((0, 0), false))
  else
    bif !r2.snd then
      some (((0, 0), false))
    else
      (s_dyMake (IntKind.wrap IntKind.i64 (r1.fst + r2.fst)) r0).bind fun r3 =>
      some (((r3.fst.fst, r3.fst.snd), r3.snd))
theorem Ms_dyAdd (k : Nat) (a_N : Int) (a_K : Int) (b_N : Int) (b_K : Int) : Le (f82 k a_N a_K b_N b_K) (f82 (k + 1) a_N a_K b_N b_K) := by
  unfold f82
  repeat' first | with_reducible exact Le.rfl _ | with_reducible exact Ms_dyMake _ _ _ | with_reducible exact Ms_l1Most _ _ _ | with_reducible exact Ms_dyAt _ _ _ _ | with_reducible refine Le.cond ?_ ?_ | with_reducible refine Le.bind ?_ fun _ => ?_
theorem Rs_dyAdd (a_N : Int) (a_K : Int) (b_N : Int) (b_K : Int) : Lim (fun k => f82 k a_N a_K b_N b_K) (s_dyAdd a_N a_K b_N b_K) := by
  unfold f82 s_dyAdd
  repeat' first | with_reducible exact Lim.ret _ | with_reducible exact Rs_dyMake _ _ | with_reducible exact Rs_l1Most _ _ | with_reducible exact Rs_dyAt _ _ _ | with_reducible refine Lim.cond ?_ ?_ | with_reducible refine Lim.bind ?_ fun _ => ?_

-- spec.rpVolume
theorem MFs_rpVolume_1003 (k : Nat) {r1003 q1003 : List (Int × List Int × List Int) → Int → Int → Int → Int → Int → List (Int × Int) → Int → Int → Option (Int × Int)} (h1003 : ∀ (boxes : List (Int × List Int × List Int)) (kind : Int) (t6s_0 : Int) (t6s_1 : Int) (sums_0 : Int) (sums_1 : Int) (t12s : List (Int × Int)) (t13 : Int) (t14 : Int), Le (r1003 boxes kind t6s_0 t6s_1 sums_0 sums_1 t12s t13 t14) (q1003 boxes kind t6s_0 t6s_1 sums_0 sums_1 t12s t13 t14)) (boxes : List (Int × List Int × List Int)) (kind : Int) (t6s_0 : Int) (t6s_1 : Int) (sums_0 : Int) (sums_1 : Int) (t12s : List (Int × Int)) (t13 : Int) (t14 : Int) : Le (F50_1003 k r1003 boxes kind t6s_0 t6s_1 sums_0 sums_1 t12s t13 t14) (F50_1003 (k + 1) q1003 boxes kind t6s_0 t6s_1 sums_0 sums_1 t12s t13 t14) := by
  unfold F50_1003
  repeat' first | with_reducible exact Le.rfl _ | with_reducible exact Ms_bxVolume _ _ _ _ | with_reducible exact Ms_dyAdd _ _ _ _ _ | with_reducible exact h1003 _ _ _ _ _ _ _ _ _ | with_reducible refine Le.cond ?_ ?_ | with_reducible refine Le.bind ?_ fun _ => ?_
theorem Mls_rpVolume : ∀ k : Nat, ∀ (boxes : List (Int × List Int × List Int)) (kind : Int) (t6s_0 : Int) (t6s_1 : Int) (sums_0 : Int) (sums_1 : Int) (t12s : List (Int × Int)) (t13 : Int) (t14 : Int), Le ((l50 k) boxes kind t6s_0 t6s_1 sums_0 sums_1 t12s t13 t14) ((l50 (k + 1)) boxes kind t6s_0 t6s_1 sums_0 sums_1 t12s t13 t14)
  | 0 => fun boxes kind t6s_0 t6s_1 sums_0 sums_1 t12s t13 t14 => Le.no _
  | k + 1 => by
    have h := Mls_rpVolume k
    exact fun boxes kind t6s_0 t6s_1 sums_0 sums_1 t12s t13 t14 => MFs_rpVolume_1003 k h boxes kind t6s_0 t6s_1 sums_0 sums_1 t12s t13 t14
noncomputable def s_rpVolume_1003 (boxes : List (Int × List Int × List Int)) (kind : Int) (t6s_0 : Int) (t6s_1 : Int) (sums_0 : Int) (sums_1 : Int) (t12s : List (Int × Int)) (t13 : Int) (t14 : Int) : Option (Int × Int) := lim fun k => (l50 k) boxes kind t6s_0 t6s_1 sums_0 sums_1 t12s t13 t14
theorem Rls_rpVolume_1003 (boxes : List (Int × List Int × List Int)) (kind : Int) (t6s_0 : Int) (t6s_1 : Int) (sums_0 : Int) (sums_1 : Int) (t12s : List (Int × Int)) (t13 : Int) (t14 : Int) : Lim (fun k => (l50 k) boxes kind t6s_0 t6s_1 sums_0 sums_1 t12s t13 t14) (s_rpVolume_1003 boxes kind t6s_0 t6s_1 sums_0 sums_1 t12s t13 t14) := Lim.of_mono fun k => Mls_rpVolume k boxes kind t6s_0 t6s_1 sums_0 sums_1 t12s t13 t14
theorem Es_rpVolume_1003 (boxes : List (Int × List Int × List Int)) (kind : Int) (t6s_0 : Int) (t6s_1 : Int) (sums_0 : Int) (sums_1 : Int) (t12s : List (Int × Int)) (t13 : Int) (t14 : Int) : s_rpVolume_1003 boxes kind t6s_0 t6s_1 sums_0 sums_1 t12s t13 t14 =
  bif decide (t14 < t13) then
    bif boundA t14 (List.length t12s) then
      bif Nat.blt (Int.toNat t14) (List.length t12s) then
        bif decide ((List.getD t12s (Int.toNat t14) (0, 0)).fst = kind) then
          bif boundA t14 (List.length boxes) then
            (s_bxVolume (List.getD boxes (Int.toNat t14) (0, [], [])).fst (List.getD boxes (Int.toNat t14) (0, [], [])).snd.fst (List.getD boxes (Int.toNat t14) (0, [], [])).snd.snd).bind fun r0 =>
            (s_dyAdd sums_0 sums_1 r0.fst r0.snd).bind fun r1 =>
            s_rpVolume_1003 boxes kind t6s_0 t6s_1 (r1.fst.fst) (r1.fst.snd) t12s t13 (IntKind.wrap IntKind.i64 (t14 + 1))
          else
            none
        else
          s_rpVolume_1003 boxes kind t6s_0 t6s_1 sums_0 sums_1 t12s t13 (IntKind.wrap IntKind.i64 (t14 + 1))
      else
        none
    else
      none
  else
    some ((sums_0, sums_1)) := by
  refine Lim.uniq (Lim.shift (Rls_rpVolume_1003 boxes kind t6s_0 t6s_1 sums_0 sums_1 t12s t13 t14)) (?_ : Lim (fun k => F50_1003 k ((l50 k)) boxes kind t6s_0 t6s_1 sums_0 sums_1 t12s t13 t14) _)
  unfold F50_1003
  repeat' first | with_reducible exact Lim.ret _ | with_reducible exact Rs_bxVolume _ _ _ | with_reducible exact Rs_dyAdd _ _ _ _ | with_reducible exact Rls_rpVolume_1003 _ _ _ _ _ _ _ _ _ | with_reducible refine Lim.cond ?_ ?_ | with_reducible refine Lim.bind ?_ fun _ => ?_
noncomputable def s_rpVolume (boxes : List (Int × (List (Int)) × List (Int))) (l : List (Int × Int)) (kind : Int) : Option (Int × Int) :=
  (s_rpLeaves l).bind fun r0 =>
  s_rpVolume_1003 boxes kind (0) (0) (0) (0) r0 ((↑(List.length r0) : Int)) (0)
theorem Ms_rpVolume (k : Nat) (boxes : List (Int × (List (Int)) × List (Int))) (l : List (Int × Int)) (kind : Int) : Le (f50 k boxes l kind) (f50 (k + 1) boxes l kind) := by
  have h := Mls_rpVolume k
  unfold f50 F50
  repeat' first | with_reducible exact Le.rfl _ | with_reducible exact Ms_rpLeaves _ _ | with_reducible exact h _ _ _ _ _ _ _ _ _ | with_reducible refine Le.cond ?_ ?_ | with_reducible refine Le.bind ?_ fun _ => ?_
theorem Rs_rpVolume (boxes : List (Int × (List (Int)) × List (Int))) (l : List (Int × Int)) (kind : Int) : Lim (fun k => f50 k boxes l kind) (s_rpVolume boxes l kind) := by
  unfold f50 F50 s_rpVolume
  repeat' first | with_reducible exact Lim.ret _ | with_reducible exact Rs_rpLeaves _ | with_reducible exact Rls_rpVolume_1003 _ _ _ _ _ _ _ _ _ | with_reducible refine Lim.cond ?_ ?_ | with_reducible refine Lim.bind ?_ fun _ => ?_

-- spec.CompareTrees
noncomputable def s_CompareTrees (b_K : Int) (b_Low : List (Int)) (b_High : List (Int)) (l : List (Int × Int)) (m : List (Int × Int)) : Option (Int × Bool) :=
  (s_rpAsked b_K b_Low b_High l).bind fun r0 =>
  (s_rpAsked b_K b_Low b_High m).bind fun r1 =>
  bif !r0.snd then
    some ((0, false))
  else
    bif !r1.snd then
      some ((0, false))
    else
      (s_rpVolume r0.fst l 3).bind fun r2 =>
      (s_rpVolume r1.fst m 3).bind fun r3 =>
      (s_dyCmp r2.fst r2.snd r3.fst r3.snd).bind fun r4 =>
      some ((r4, true))
theorem Ms_CompareTrees (k : Nat) (b_K : Int) (b_Low : List (Int)) (b_High : List (Int)) (l : List (Int × Int)) (m : List (Int × Int)) : Le (f19 k b_K b_Low b_High l m) (f19 (k + 1) b_K b_Low b_High l m) := by
  unfold f19
  repeat' first | with_reducible exact Le.rfl _ | with_reducible exact Ms_rpAsked _ _ _ _ _ | with_reducible exact Ms_dyCmp _ _ _ _ _ | with_reducible exact Ms_rpVolume _ _ _ _ | with_reducible refine Le.cond ?_ ?_ | with_reducible refine Le.bind ?_ fun _ => ?_
theorem Rs_CompareTrees (b_K : Int) (b_Low : List (Int)) (b_High : List (Int)) (l : List (Int × Int)) (m : List (Int × Int)) : Lim (fun k => f19 k b_K b_Low b_High l m) (s_CompareTrees b_K b_Low b_High l m) := by
  unfold f19 s_CompareTrees
  repeat' first | with_reducible exact Lim.ret _ | with_reducible exact Rs_rpAsked _ _ _ _ | with_reducible exact Rs_dyCmp _ _ _ _ | with_reducible exact Rs_rpVolume _ _ _ | with_reducible refine Lim.cond ?_ ?_ | with_reducible refine Lim.bind ?_ fun _ => ?_

-- impl.scaled
theorem MFi_scaled_1003 (k : Nat) {r1003 q1003 : Int → List Int → List Int → Int → Int → Option (List (Int))} (h1003 : ∀ (k_ : Int) (outs : List Int) (t8 : List Int) (t9 : Int) (t10 : Int), Le (r1003 k_ outs t8 t9 t10) (q1003 k_ outs t8 t9 t10)) (k_ : Int) (outs : List Int) (t8 : List Int) (t9 : Int) (t10 : Int) : Le (F104_1003 k r1003 k_ outs t8 t9 t10) (F104_1003 (k + 1) q1003 k_ outs t8 t9 t10) := by
  unfold F104_1003
  repeat' first | with_reducible exact Le.rfl _ | with_reducible exact h1003 _ _ _ _ _ | with_reducible refine Le.cond ?_ ?_ | with_reducible refine Le.bind ?_ fun _ => ?_
theorem Mli_scaled : ∀ k : Nat, ∀ (k_ : Int) (outs : List Int) (t8 : List Int) (t9 : Int) (t10 : Int), Le ((l104 k) k_ outs t8 t9 t10) ((l104 (k + 1)) k_ outs t8 t9 t10)
  | 0 => fun k_ outs t8 t9 t10 => Le.no _
  | k + 1 => by
    have h := Mli_scaled k
    exact fun k_ outs t8 t9 t10 => MFi_scaled_1003 k h k_ outs t8 t9 t10
noncomputable def i_scaled_1003 (k_ : Int) (outs : List Int) (t8 : List Int) (t9 : Int) (t10 : Int) : Option (List (Int)) := lim fun k => (l104 k) k_ outs t8 t9 t10
theorem Rli_scaled_1003 (k_ : Int) (outs : List Int) (t8 : List Int) (t9 : Int) (t10 : Int) : Lim (fun k => (l104 k) k_ outs t8 t9 t10) (i_scaled_1003 k_ outs t8 t9 t10) := Lim.of_mono fun k => Mli_scaled k k_ outs t8 t9 t10
theorem Ei_scaled_1003 (k_ : Int) (outs : List Int) (t8 : List Int) (t9 : Int) (t10 : Int) : i_scaled_1003 k_ outs t8 t9 t10 =
  bif decide (t10 < t9) then
    bif boundA t10 (List.length t8) then
      bif !decide (k_ < 0) then
        bif decide ((List.length outs + List.length [IntKind.wrap IntKind.i64 (List.getD t8 (Int.toNat t10) 0 * 2 ^ min (Int.toNat k_) (IntKind.bits IntKind.i64))]) * 8 ≤ 140737488355328) then
          i_scaled_1003 k_ (outs ++ [IntKind.wrap IntKind.i64 (List.getD t8 (Int.toNat t10) 0 * 2 ^ min (Int.toNat k_) (IntKind.bits IntKind.i64))]) t8 t9 (IntKind.wrap IntKind.i64 (t10 + 1))
        else
          none
      else
        none
    else
      none
  else
    some outs := by
  refine Lim.uniq (Lim.shift (Rli_scaled_1003 k_ outs t8 t9 t10)) (?_ : Lim (fun k => F104_1003 k ((l104 k)) k_ outs t8 t9 t10) _)
  unfold F104_1003
  repeat' first | with_reducible exact Lim.ret _ | with_reducible exact Rli_scaled_1003 _ _ _ _ _ | with_reducible refine Lim.cond ?_ ?_ | with_reducible refine Lim.bind ?_ fun _ => ?_
noncomputable def i_scaled (list : List (Int)) (k_ : Int) : Option (List (Int)) :=
  i_scaled_1003 k_ ([]) list ((↑(List.length list) : Int)) (0)
theorem Mi_scaled (k : Nat) (list : List (Int)) (k_ : Int) : Le (f104 k list k_) (f104 (k + 1) list k_) := by
  have h := Mli_scaled k
  unfold f104 F104
  repeat' first | with_reducible exact Le.rfl _ | with_reducible exact h _ _ _ _ _ | with_reducible refine Le.cond ?_ ?_ | with_reducible refine Le.bind ?_ fun _ => ?_
theorem Ri_scaled (list : List (Int)) (k_ : Int) : Lim (fun k => f104 k list k_) (i_scaled list k_) := by
  unfold f104 F104 i_scaled
  repeat' first | with_reducible exact Lim.ret _ | with_reducible exact Rli_scaled_1003 _ _ _ _ _ | with_reducible refine Lim.cond ?_ ?_ | with_reducible refine Lim.bind ?_ fun _ => ?_

-- slices.Clone[[]int,int]
noncomputable def slices_Clone_int_int (s : List (Int)) : Option (List (Int)) :=
  bif decide ((0 + List.length s) * 8 ≤ 140737488355328) then
    some s
  else
    none
theorem Mslices_Clone_int_int (k : Nat) (s : List (Int)) : Le (f105 k s) (f105 (k + 1) s) := by
  unfold f105
  repeat' first | with_reducible exact Le.rfl _ | with_reducible refine Le.cond ?_ ?_ | with_reducible refine Le.bind ?_ fun _ => ?_
theorem Rslices_Clone_int_int (s : List (Int)) : Lim (fun k => f105 k s) (slices_Clone_int_int s) := by
  unfold f105 slices_Clone_int_int
  repeat' first | with_reducible exact Lim.ret _ | with_reducible refine Lim.cond ?_ ?_ | with_reducible refine Lim.bind ?_ fun _ => ?_

-- impl.inside
noncomputable def i_inside (n : Int) (low : Int) (high : Int) : Option (Bool) :=
  bif decide (low ≤ n) then
    some (decide (n ≤ high))
  else
    some false
theorem Mi_inside (k : Nat) (n : Int) (low : Int) (high : Int) : Le (f91 k n low high) (f91 (k + 1) n low high) := by
  unfold f91
  repeat' first | with_reducible exact Le.rfl _ | with_reducible refine Le.cond ?_ ?_ | with_reducible refine Le.bind ?_ fun _ => ?_
theorem Ri_inside (n : Int) (low : Int) (high : Int) : Lim (fun k => f91 k n low high) (i_inside n low high) := by
  unfold f91 i_inside
  repeat' first | with_reducible exact Lim.ret _ | with_reducible refine Lim.cond ?_ ?_ | with_reducible refine Lim.bind ?_ fun _ => ?_

-- impl.isBox
theorem MFi_isBox_1005 (k : Nat) {r1005 q1005 : Int × List Int × List Int → Int → Bool → List Int → Int → Int → Option (Bool)} (h1005 : ∀ (L : Int × List Int × List Int) (t : Int) (t4 : Bool) (t48 : List Int) (t49 : Int) (t50 : Int), Le (r1005 L t t4 t48 t49 t50) (q1005 L t t4 t48 t49 t50)) (L : Int × List Int × List Int) (t : Int) (t4 : Bool) (t48 : List Int) (t49 : Int) (t50 : Int) : Le (F60_1005 k r1005 L t t4 t48 t49 t50) (F60_1005 (k + 1) q1005 L t t4 t48 t49 t50) := by
  unfold F60_1005
  repeat' first | with_reducible exact Le.rfl _ | with_reducible exact Mi_inside _ _ _ _ | with_reducible exact h1005 _ _ _ _ _ _ | with_reducible refine Le.cond ?_ ?_ | with_reducible refine Le.bind ?_ fun _ => ?_
theorem Mli_isBox : ∀ k : Nat, ∀ (L : Int × List Int × List Int) (t : Int) (t4 : Bool) (t48 : List Int) (t49 : Int) (t50 : Int), Le ((l60 k) L t t4 t48 t49 t50) ((l60 (k + 1)) L t t4 t48 t49 t50)
  | 0 => fun L t t4 t48 t49 t50 => Le.no _
  | k + 1 => by
    have h := Mli_isBox k
    exact fun L t t4 t48 t49 t50 => MFi_isBox_1005 k h L t t4 t48 t49 t50
noncomputable def i_isBox_1005 (L : Int × List Int × List Int) (t : Int) (t4 : Bool) (t48 : List Int) (t49 : Int) (t50 : Int) : Option (Bool) := lim fun k => (l60 k) L t t4 t48 t49 t50
theorem Rli_isBox_1005 (L : Int × List Int × List Int) (t : Int) (t4 : Bool) (t48 : List Int) (t49 : Int) (t50 : Int) : Lim (fun k => (l60 k) L t t4 t48 t49 t50) (i_isBox_1005 L t t4 t48 t49 t50) := Lim.of_mono fun k => Mli_isBox k L t t4 t48 t49 t50
theorem Ei_isBox_1005 (L : Int × List Int × List Int) (t : Int) (t4 : Bool) (t48 : List Int) (t49 : Int) (t50 : Int) : i_isBox_1005 L t t4 t48 t49 t50 =
  bif decide (t50 < t49) then
    bif boundA t50 (List.length t48) then
      (i_inside (List.getD t48 (Int.toNat t50) 0) (IntKind.wrap IntKind.i64 (0 - t)) t).bind fun r0 =>
      bif !r0 then
        some false
      else
        bif boundA t50 (List.length L.snd.snd) then
          (i_inside (List.getD L.snd.snd (Int.toNat t50) 0) (IntKind.wrap IntKind.i64 (List.getD t48 (Int.toNat t50) 0 + 1)) t).bind fun r1 =>
          bif !r1 then
            some false
          else
            bif t4 then
              i_isBox_1005 L t true t48 t49 (IntKind.wrap IntKind.i64 (t50 + 1))
            else
              bif !decide (Int.tmod (List.getD t48 (Int.toNat t50) 0) 2 = 0) then
                i_isBox_1005 L t true t48 t49 (IntKind.wrap IntKind.i64 (t50 + 1))
              else
                bif boundA t50 (List.length L.snd.snd) then
                  i_isBox_1005 L t (!decide (Int.tmod (List.getD L.snd.snd (Int.toNat t50) 0) 2 = 0)) t48 t49 (IntKind.wrap IntKind.i64 (t50 + 1))
                else
                  none
        else
          none
    else
      none
  else
    some t4 := by
  refine Lim.uniq (Lim.shift (Rli_isBox_1005 L t t4 t48 t49 t50)) (?_ : Lim (fun k => F60_1005 k ((l60 k)) L t t4 t48 t49 t50) _)
  unfold F60_1005
  repeat' first | with_reducible exact Lim.ret _ | with_reducible exact Ri_inside _ _ _ | with_reducible exact Rli_isBox_1005 _ _ _ _ _ _ | with_reducible refine Lim.cond ?_ ?_ | with_reducible refine Lim.bind ?_ fun _ => ?_
noncomputable def i_isBox (L : Int × (List (Int)) × List (Int)) : Option (Bool) :=
  (i_inside L.fst 0 8).bind fun r0 =>
  bif !r0 then
    some false
  else
    (i_inside (↑(List.length L.snd.fst) : Int) 1 3).bind fun r1 =>
    bif !r1 then
      some false
    else
      bif !decide ((↑(List.length L.snd.snd) : Int) = (↑(List.length L.snd.fst) : Int)) then
        some false
      else
        bif !decide (L.fst < 0) then
          i_isBox_1005 L (IntKind.wrap IntKind.i64 (8 * 2 ^ min (Int.toNat L.fst) (IntKind.bits IntKind.i64))) (decide (L.fst = 0)) (L.snd.fst) ((↑(List.length L.snd.fst) : Int)) (0)
        else
          none
theorem Mi_isBox (k : Nat) (L : Int × (List (Int)) × List (Int)) : Le (f60 k L) (f60 (k + 1) L) := by
  have h := Mli_isBox k
  unfold f60 F60
  repeat' first | with_reducible exact Le.rfl _ | with_reducible exact Mi_inside _ _ _ _ | with_reducible exact h _ _ _ _ _ _ | with_reducible refine Le.cond ?_ ?_ | with_reducible refine Le.bind ?_ fun _ => ?_
theorem Ri_isBox (L : Int × (List (Int)) × List (Int)) : Lim (fun k => f60 k L) (i_isBox L) := by
  unfold f60 F60 i_isBox
  repeat' first | with_reducible exact Lim.ret _ | with_reducible exact Ri_inside _ _ _ | with_reducible exact Rli_isBox_1005 _ _ _ _ _ _ | with_reducible refine Lim.cond ?_ ?_ | with_reducible refine Lim.bind ?_ fun _ => ?_

-- impl.boxOf$1
noncomputable def i_boxOf_1 (n : Int) : Option (Bool) :=
  some (!decide (Int.tmod n 2 = 0))
theorem Mi_boxOf_1 (k : Nat) (n : Int) : Le (f123 k n) (f123 (k + 1) n) := by
  unfold f123
  repeat' first | with_reducible exact Le.rfl _ | with_reducible refine Le.cond ?_ ?_ | with_reducible refine Le.bind ?_ fun _ => ?_
theorem Ri_boxOf_1 (n : Int) : Lim (fun k => f123 k n) (i_boxOf_1 n) := by
  unfold f123 i_boxOf_1
  repeat' first | with_reducible exact Lim.ret _ | with_reducible refine Lim.cond ?_ ?_ | with_reducible refine Lim.bind ?_ fun _ => ?_

-- slices.IndexFunc[[]int,int]
theorem MFslices_IndexFunc_int_int_i_boxOf_1_1002 (k : Nat) {r1002 q1002 : List Int → Int → Int → Option (Int)} (h1002 : ∀ (s : List Int) (t7 : Int) (t8 : Int), Le (r1002 s t7 t8) (q1002 s t7 t8)) (s : List Int) (t7 : Int) (t8 : Int) : Le (F127_123_1002 k r1002 s t7 t8) (F127_123_1002 (k + 1) q1002 s t7 t8) := by
  unfold F127_123_1002
  repeat' first | with_reducible exact Le.rfl _ | with_reducible exact h1002 _ _ _ | with_reducible refine Le.cond ?_ ?_ | with_reducible refine Le.bind ?_ fun _ => ?_
theorem Mlslices_IndexFunc_int_int_i_boxOf_1 : ∀ k : Nat, ∀ (s : List Int) (t7 : Int) (t8 : Int), Le ((l127_123 k) s t7 t8) ((l127_123 (k + 1)) s t7 t8)
  | 0 => fun s t7 t8 => Le.no _
  | k + 1 => by
    have h := Mlslices_IndexFunc_int_int_i_boxOf_1 k
    exact fun s t7 t8 => MFslices_IndexFunc_int_int_i_boxOf_1_1002 k h s t7 t8
noncomputable def slices_IndexFunc_int_int_i_boxOf_1_1002 (s : List Int) (t7 : Int) (t8 : Int) : Option (Int) := lim fun k => (l127_123 k) s t7 t8
theorem Rlslices_IndexFunc_int_int_i_boxOf_1_1002 (s : List Int) (t7 : Int) (t8 : Int) : Lim (fun k => (l127_123 k) s t7 t8) (slices_IndexFunc_int_int_i_boxOf_1_1002 s t7 t8) := Lim.of_mono fun k => Mlslices_IndexFunc_int_int_i_boxOf_1 k s t7 t8
theorem Eslices_IndexFunc_int_int_i_boxOf_1_1002 (s : List Int) (t7 : Int) (t8 : Int) : slices_IndexFunc_int_int_i_boxOf_1_1002 s t7 t8 =
  bif decide (t8 < t7) then
    bif boundA t8 (List.length s) then
      bif !decide (Int.tmod (List.getD s (Int.toNat t8) 0) 2 = 0) then
        some t8
      else
        slices_IndexFunc_int_int_i_boxOf_1_1002 s t7 (IntKind.wrap IntKind.i64 (t8 + 1))
    else
      none
  else
    some (-1) := by
  refine Lim.uniq (Lim.shift (Rlslices_IndexFunc_int_int_i_boxOf_1_1002 s t7 t8)) (?_ : Lim (fun k => F127_123_1002 k ((l127_123 k)) s t7 t8) _)
  unfold F127_123_1002
  repeat' first | with_reducible exact Lim.ret _ | with_reducible exact Rlslices_IndexFunc_int_int_i_boxOf_1_1002 _ _ _ | with_reducible refine Lim.cond ?_ ?_ | with_reducible refine Lim.bind ?_ fun _ => ?_
noncomputable def slices_IndexFunc_int_int_i_boxOf_1 (s : List (Int)) : Option (Int) :=
  slices_IndexFunc_int_int_i_boxOf_1_1002 s ((↑(List.length s) : Int)) (0)
theorem Mslices_IndexFunc_int_int_i_boxOf_1 (k : Nat) (s : List (Int)) : Le (f127_123 k s) (f127_123 (k + 1) s) := by
  have h := Mlslices_IndexFunc_int_int_i_boxOf_1 k
  unfold f127_123 F127_123
  repeat' first | with_reducible exact Le.rfl _ | with_reducible exact h _ _ _ | with_reducible refine Le.cond ?_ ?_ | with_reducible refine Le.bind ?_ fun _ => ?_
theorem Rslices_IndexFunc_int_int_i_boxOf_1 (s : List (Int)) : Lim (fun k => f127_123 k s) (slices_IndexFunc_int_int_i_boxOf_1 s) := by
  unfold f127_123 F127_123 slices_IndexFunc_int_int_i_boxOf_1
  repeat' first | with_reducible exact Lim.ret _ | with_reducible exact Rlslices_IndexFunc_int_int_i_boxOf_1_1002 _ _ _ | with_reducible refine Lim.cond ?_ ?_ | with_reducible refine Lim.bind ?_ fun _ => ?_

-- slices.ContainsFunc[[]int,int]
noncomputable def slices_ContainsFunc_int_int_i_boxOf_1 (s : List (Int)) : Option (Bool) :=
  (slices_IndexFunc_int_int_i_boxOf_1 s).bind fun r0 =>
  some (decide (0 ≤ r0))
theorem Mslices_ContainsFunc_int_int_i_boxOf_1 (k : Nat) (s : List (Int)) : Le (f121_123 k s) (f121_123 (k + 1) s) := by
  unfold f121_123
  repeat' first | with_reducible exact Le.rfl _ | with_reducible exact Mslices_IndexFunc_int_int_i_boxOf_1 _ _ | with_reducible refine Le.cond ?_ ?_ | with_reducible refine Le.bind ?_ fun _ => ?_
theorem Rslices_ContainsFunc_int_int_i_boxOf_1 (s : List (Int)) : Lim (fun k => f121_123 k s) (slices_ContainsFunc_int_int_i_boxOf_1 s) := by
  unfold f121_123 slices_ContainsFunc_int_int_i_boxOf_1
  repeat' first | with_reducible exact Lim.ret _ | with_reducible exact Rslices_IndexFunc_int_int_i_boxOf_1 _ | with_reducible refine Lim.cond ?_ ?_ | with_reducible refine Lim.bind ?_ fun _ => ?_

-- slices.Grow[[]int,int]
noncomputable def slices_Grow_int_int (n : Int) : Option (List (Int)) :=
  bif decide (n < 0) then
    none
  else
    bif decide (0 < IntKind.wrap IntKind.i64 (n - IntKind.wrap IntKind.i64 (0 - (↑0 : Int)))) then
      bif decide (0 < IntKind.wrap IntKind.i64 (n - IntKind.wrap IntKind.i64 (0 - (↑0 : Int)))) then
        bif decide (Int.toNat (IntKind.wrap IntKind.i64 (n - IntKind.wrap IntKind.i64 (0 - (↑0 : Int)))) * 8 ≤ 140737488355328) then
          some (List.take (Int.toNat (↑0 : Int)) (List.replicate (Int.toNat (IntKind.wrap IntKind.i64 (n - IntKind.wrap IntKind.i64 (0 - (↑0 : Int))))) (dflt (Ty.int IntKind.i64))))
        else
          none
      else
        none
    else
      some ([])
theorem Mslices_Grow_int_int (k : Nat) (n : Int) : Le (f128 k n) (f128 (k + 1) n) := by
  unfold f128
  repeat' first | with_reducible exact Le.rfl _ | with_reducible refine Le.cond ?_ ?_ | with_reducible refine Le.bind ?_ fun _ => ?_
theorem Rslices_Grow_int_int (n : Int) : Lim (fun k => f128 k n) (slices_Grow_int_int n) := by
  unfold f128 slices_Grow_int_int
  repeat' first | with_reducible exact Lim.ret _ | with_reducible refine Lim.cond ?_ ?_ | with_reducible refine Lim.bind ?_ fun _ => ?_

-- slices.Concat[[]int,int]
theorem MFslices_Concat_int_int_1003 (k : Nat) {r1003 q1003 : List (List Int) → Int → List (List Int) → Int → Int → Option (List (Int))} (h1003 : ∀ (slices : List (List Int)) (size : Int) (t9 : List (List Int)) (t10 : Int) (t11 : Int), Le (r1003 slices size t9 t10 t11) (q1003 slices size t9 t10 t11)) {r1011 q1011 : List Int → List (List Int) → Int → Int → Option (List (Int))} (h1011 : ∀ (newslices : List Int) (t25 : List (List Int)) (t26 : Int) (t27 : Int), Le (r1011 newslices t25 t26 t27) (q1011 newslices t25 t26 t27)) (slices : List (List Int)) (size : Int) (t9 : List (List Int)) (t10 : Int) (t11 : Int) : Le (F122_1003 k r1003 r1011 slices size t9 t10 t11) (F122_1003 (k + 1) q1003 q1011 slices size t9 t10 t11) := by
  unfold F122_1003
  repeat' first | with_reducible exact Le.rfl _ | with_reducible exact Mslices_Grow_int_int _ _ | with_reducible exact h1003 _ _ _ _ _ | with_reducible exact h1011 _ _ _ _ | with_reducible refine Le.cond ?_ ?_ | with_reducible refine Le.bind ?_ fun _ => ?_
theorem MFslices_Concat_int_int_1011 (k : Nat) {r1003 q1003 : List (List Int) → Int → List (List Int) → Int → Int → Option (List (Int))} (h1003 : ∀ (slices : List (List Int)) (size : Int) (t9 : List (List Int)) (t10 : Int) (t11 : Int), Le (r1003 slices size t9 t10 t11) (q1003 slices size t9 t10 t11)) {r1011 q1011 : List Int → List (List Int) → Int → Int → Option (List (Int))} (h1011 : ∀ (newslices : List Int) (t25 : List (List Int)) (t26 : Int) (t27 : Int), Le (r1011 newslices t25 t26 t27) (q1011 newslices t25 t26 t27)) (newslices : List Int) (t25 : List (List Int)) (t26 : Int) (t27 : Int) : Le (F122_1011 k r1003 r1011 newslices t25 t26 t27) (F122_1011 (k + 1) q1003 q1011 newslices t25 t26 t27) := by
  unfold F122_1011
  repeat' first | with_reducible exact Le.rfl _ | with_reducible exact h1003 _ _ _ _ _ | with_reducible exact h1011 _ _ _ _ | with_reducible refine Le.cond ?_ ?_ | with_reducible refine Le.bind ?_ fun _ => ?_
theorem Mlslices_Concat_int_int : ∀ k : Nat, (∀ (slices : List (List Int)) (size : Int) (t9 : List (List Int)) (t10 : Int) (t11 : Int), Le ((l122 k).1 slices size t9 t10 t11) ((l122 (k + 1)).1 slices size t9 t10 t11)) ∧ (∀ (newslices : List Int) (t25 : List (List Int)) (t26 : Int) (t27 : Int), Le ((l122 k).2 newslices t25 t26 t27) ((l122 (k + 1)).2 newslices t25 t26 t27))
  | 0 => ⟨fun slices size t9 t10 t11 => Le.no _, fun newslices t25 t26 t27 => Le.no _⟩
  | k + 1 => by
    have h := Mlslices_Concat_int_int k
    exact ⟨fun slices size t9 t10 t11 => MFslices_Concat_int_int_1003 k h.1 h.2 slices size t9 t10 t11, fun newslices t25 t26 t27 => MFslices_Concat_int_int_1011 k h.1 h.2 newslices t25 t26 t27⟩
noncomputable def slices_Concat_int_int_1003 (slices : List (List Int)) (size : Int) (t9 : List (List Int)) (t10 : Int) (t11 : Int) : Option (List (Int)) := lim fun k => (l122 k).1 slices size t9 t10 t11
theorem Rlslices_Concat_int_int_1003 (slices : List (List Int)) (size : Int) (t9 : List (List Int)) (t10 : Int) (t11 : Int) : Lim (fun k => (l122 k).1 slices size t9 t10 t11) (slices_Concat_int_int_1003 slices size t9 t10 t11) := Lim.of_mono fun k => (Mlslices_Concat_int_int k).1 slices size t9 t10 t11
noncomputable def slices_Concat_int_int_1011 (newslices : List Int) (t25 : List (List Int)) (t26 : Int) (t27 : Int) : Option (List (Int)) := lim fun k => (l122 k).2 newslices t25 t26 t27
theorem Rlslices_Concat_int_int_1011 (newslices : List Int) (t25 : List (List Int)) (t26 : Int) (t27 : Int) : Lim (fun k => (l122 k).2 newslices t25 t26 t27) (slices_Concat_int_int_1011 newslices t25 t26 t27) := Lim.of_mono fun k => (Mlslices_Concat_int_int k).2 newslices t25 t26 t27
theorem Eslices_Concat_int_int_1003 (slices : List (List Int)) (size : Int) (t9 : List (List Int)) (t10 : Int) (t11 : Int) : slices_Concat_int_int_1003 slices size t9 t10 t11 =
  bif decide (t11 < t10) then
    bif boundA t11 (List.length t9) then
      bif decide (IntKind.wrap IntKind.i64 (size + (↑(List.length (List.getD t9 (Int.toNat t11) [])) : Int)) < 0) then
        none
      else
        slices_Concat_int_int_1003 slices (IntKind.wrap IntKind.i64 (size + (↑(List.length (List.getD t9 (Int.toNat t11) [])) : Int))) t9 t10 (IntKind.wrap IntKind.i64 (t11 + 1))
    else
      none
  else
    (slices_Grow_int_int size).bind fun r0 =>
    slices_Concat_int_int_1011 r0 slices ((↑(List.length slices) : Int)) (0) := by
  refine Lim.uniq (Lim.shift (Rlslices_Concat_int_int_1003 slices size t9 t10 t11)) (?_ : Lim (fun k => F122_1003 k ((l122 k).1) ((l122 k).2) slices size t9 t10 t11) _)
  unfold F122_1003
  repeat' first | with_reducible exact Lim.ret _ | with_reducible exact Rslices_Grow_int_int _ | with_reducible exact Rlslices_Concat_int_int_1003 _ _ _ _ _ | with_reducible exact Rlslices_Concat_int_int_1011 _ _ _ _ | with_reducible refine Lim.cond ?_ ?_ | with_reducible refine Lim.bind ?_ fun _ => ?_
theorem Eslices_Concat_int_int_1011 (newslices : List Int) (t25 : List (List Int)) (t26 : Int) (t27 : Int) : slices_Concat_int_int_1011 newslices t25 t26 t27 =
  bif decide (t27 < t26) then
    bif boundA t27 (List.length t25) then
      bif decide ((List.length newslices + List.length (List.getD t25 (Int.toNat t27) [])) * 8 ≤ 140737488355328) then
        slices_Concat_int_int_1011 (newslices ++ List.getD t25 (Int.toNat t27) []) t25 t26 (IntKind.wrap IntKind.i64 (t27 + 1))
      else
        none
    else
      none
  else
    some newslices := by
  refine Lim.uniq (Lim.shift (Rlslices_Concat_int_int_1011 newslices t25 t26 t27)) (?_ : Lim (fun k => F122_1011 k ((l122 k).1) ((l122 k).2) newslices t25 t26 t27) _)
  unfold F122_1011
  repeat' first | with_reducible exact Lim.ret _ | with_reducible exact Rlslices_Concat_int_int_1003 _ _ _ _ _ | with_reducible exact Rlslices_Concat_int_int_1011 _ _ _ _ | with_reducible refine Lim.cond ?_ ?_ | with_reducible refine Lim.bind ?_ fun _ => ?_
noncomputable def slices_Concat_int_int (slices : List (List (Int))) : Option (List (Int)) :=
  slices_Concat_int_int_1003 slices (0) slices ((↑(List.length slices) : Int)) (0)
theorem Mslices_Concat_int_int (k : Nat) (slices : List (List (Int))) : Le (f122 k slices) (f122 (k + 1) slices) := by
  have h := Mlslices_Concat_int_int k
  unfold f122 F122
  repeat' first | with_reducible exact Le.rfl _ | with_reducible exact h.1 _ _ _ _ _ | with_reducible exact h.2 _ _ _ _ | with_reducible refine Le.cond ?_ ?_ | with_reducible refine Le.bind ?_ fun _ => ?_
theorem Rslices_Concat_int_int (slices : List (List (Int))) : Lim (fun k => f122 k slices) (slices_Concat_int_int slices) := by
  unfold f122 F122 slices_Concat_int_int
  repeat' first | with_reducible exact Lim.ret _ | with_reducible exact Rlslices_Concat_int_int_1003 _ _ _ _ _ | with_reducible exact Rlslices_Concat_int_int_1011 _ _ _ _ | with_reducible refine Lim.cond ?_ ?_ | with_reducible refine Lim.bind ?_ fun _ => ?_

-- impl.boxOf
theorem MFi_boxOf_1002 (k : Nat) {r1002 q1002 : Int → Int → List Int → List Int → Option ((Int × (List (Int)) × List (Int)) × Bool)} (h1002 : ∀ (t6s_0 : Int) (bs_0 : Int) (bs : List Int) (bs' : List Int), Le (r1002 t6s_0 bs_0 bs bs') (q1002 t6s_0 bs_0 bs bs')) {r11008 q11008 : Int → Int → List Int → List Int → Int → Int → Option ((Int × (List (Int)) × List (Int)) × Bool)} (h11008 : ∀ (t6s_0 : Int) (bs_0 : Int) (bs : List Int) (bs' : List Int) (t46 : Int) (t47 : Int), Le (r11008 t6s_0 bs_0 bs bs' t46 t47) (q11008 t6s_0 bs_0 bs bs' t46 t47)) {r21008 q21008 : Int → Int → List Int → List Int → Int → Int → Option ((Int × (List (Int)) × List (Int)) × Bool)} (h21008 : ∀ (t6s_0 : Int) (bs_0 : Int) (bs : List Int) (bs' : List Int) (t46 : Int) (t47 : Int), Le (r21008 t6s_0 bs_0 bs bs' t46 t47) (q21008 t6s_0 bs_0 bs bs' t46 t47)) (t6s_0 : Int) (bs_0 : Int) (bs : List Int) (bs' : List Int) : Le (F106_1002 k r1002 r11008 r21008 t6s_0 bs_0 bs bs') (F106_1002 (k + 1) q1002 q11008 q21008 t6s_0 bs_0 bs bs') := by
  unfold F106_1002
  repeat' first | with_reducible exact Le.rfl _ | with_reducible exact Mslices_ContainsFunc_int_int_i_boxOf_1 _ _ | with_reducible exact Mslices_Concat_int_int _ _ | with_reducible exact Mi_isBox _ _ | with_reducible exact h1002 _ _ _ _ | with_reducible exact h11008 _ _ _ _ _ _ | with_reducible exact h21008 _ _ _ _ _ _ | with_reducible refine Le.cond ?_ ?_ | with_reducible refine Le.bind ?_ fun _ => ?_
theorem MFi_boxOf_11008 (k : Nat) {r1002 q1002 : Int → Int → List Int → List Int → Option ((Int × (List (Int)) × List (Int)) × Bool)} (h1002 : ∀ (t6s_0 : Int) (bs_0 : Int) (bs : List Int) (bs' : List Int), Le (r1002 t6s_0 bs_0 bs bs') (q1002 t6s_0 bs_0 bs bs')) {r11008 q11008 : Int → Int → List Int → List Int → Int → Int → Option ((Int × (List (Int)) × List (Int)) × Bool)} (h11008 : ∀ (t6s_0 : Int) (bs_0 : Int) (bs : List Int) (bs' : List Int) (t46 : Int) (t47 : Int), Le (r11008 t6s_0 bs_0 bs bs' t46 t47) (q11008 t6s_0 bs_0 bs bs' t46 t47)) {r21008 q21008 : Int → Int → List Int → List Int → Int → Int → Option ((Int × (List (Int)) × List (Int)) × Bool)} (h21008 : ∀ (t6s_0 : Int) (bs_0 : Int) (bs : List Int) (bs' : List Int) (t46 : Int) (t47 : Int), Le (r21008 t6s_0 bs_0 bs bs' t46 t47) (q21008 t6s_0 bs_0 bs bs' t46 t47)) (t6s_0 : Int) (bs_0 : Int) (bs : List Int) (bs' : List Int) (t46 : Int) (t47 : Int) : Le (F106_11008 k r1002 r11008 r21008 t6s_0 bs_0 bs bs' t46 t47) (F106_11008 (k + 1) q1002 q11008 q21008 t6s_0 bs_0 bs bs' t46 t47) := by
  unfold F106_11008
  repeat' first | with_reducible exact Le.rfl _ | with_reducible exact h1002 _ _ _ _ | with_reducible exact h11008 _ _ _ _ _ _ | with_reducible exact h21008 _ _ _ _ _ _ | with_reducible refine Le.cond ?_ ?_ | with_reducible refine Le.bind ?_ fun _ => ?_
theorem MFi_boxOf_21008 (k : Nat) {r1002 q1002 : Int → Int → List Int → List Int → Option ((Int × (List (Int)) × List (Int)) × Bool)} (h1002 : ∀ (t6s_0 : Int) (bs_0 : Int) (bs : List Int) (bs' : List Int), Le (r1002 t6s_0 bs_0 bs bs') (q1002 t6s_0 bs_0 bs bs')) {r11008 q11008 : Int → Int → List Int → List Int → Int → Int → Option ((Int × (List (Int)) × List (Int)) × Bool)} (h11008 : ∀ (t6s_0 : Int) (bs_0 : Int) (bs : List Int) (bs' : List Int) (t46 : Int) (t47 : Int), Le (r11008 t6s_0 bs_0 bs bs' t46 t47) (q11008 t6s_0 bs_0 bs bs' t46 t47)) {r21008 q21008 : Int → Int → List Int → List Int → Int → Int → Option ((Int × (List (Int)) × List (Int)) × Bool)} (h21008 : ∀ (t6s_0 : Int) (bs_0 : Int) (bs : List Int) (bs' : List Int) (t46 : Int) (t47 : Int), Le (r21008 t6s_0 bs_0 bs bs' t46 t47) (q21008 t6s_0 bs_0 bs bs' t46 t47)) (t6s_0 : Int) (bs_0 : Int) (bs : List Int) (bs' : List Int) (t46 : Int) (t47 : Int) : Le (F106_21008 k r1002 r11008 r21008 t6s_0 bs_0 bs bs' t46 t47) (F106_21008 (k + 1) q1002 q11008 q21008 t6s_0 bs_0 bs bs' t46 t47) := by
  unfold F106_21008
  repeat' first | with_reducible exact Le.rfl _ | with_reducible exact h1002 _ _ _ _ | with_reducible exact h11008 _ _ _ _ _ _ | with_reducible exact h21008 _ _ _ _ _ _ | with_reducible refine Le.cond ?_ ?_ | with_reducible refine Le.bind ?_ fun _ => ?_
theorem Mli_boxOf : ∀ k : Nat, (∀ (t6s_0 : Int) (bs_0 : Int) (bs : List Int) (bs' : List Int), Le ((l106 k).1 t6s_0 bs_0 bs bs') ((l106 (k + 1)).1 t6s_0 bs_0 bs bs')) ∧ (∀ (t6s_0 : Int) (bs_0 : Int) (bs : List Int) (bs' : List Int) (t46 : Int) (t47 : Int), Le ((l106 k).2.1 t6s_0 bs_0 bs bs' t46 t47) ((l106 (k + 1)).2.1 t6s_0 bs_0 bs bs' t46 t47)) ∧ (∀ (t6s_0 : Int) (bs_0 : Int) (bs : List Int) (bs' : List Int) (t46 : Int) (t47 : Int), Le ((l106 k).2.2 t6s_0 bs_0 bs bs' t46 t47) ((l106 (k + 1)).2.2 t6s_0 bs_0 bs bs' t46 t47))
  | 0 => ⟨fun t6s_0 bs_0 bs bs' => Le.no _, fun t6s_0 bs_0 bs bs' t46 t47 => Le.no _, fun t6s_0 bs_0 bs bs' t46 t47 => Le.no _⟩
  | k + 1 => by
    have h := Mli_boxOf k
    exact ⟨fun t6s_0 bs_0 bs bs' => MFi_boxOf_1002 k h.1 h.2.1 h.2.2 t6s_0 bs_0 bs bs', fun t6s_0 bs_0 bs bs' t46 t47 => MFi_boxOf_11008 k h.1 h.2.1 h.2.2 t6s_0 bs_0 bs bs' t46 t47, fun t6s_0 bs_0 bs bs' t46 t47 => MFi_boxOf_21008 k h.1 h.2.1 h.2.2 t6s_0 bs_0 bs bs' t46 t47⟩
noncomputable def i_boxOf_1002 (t6s_0 : Int) (bs_0 : Int) (bs : List Int) (bs' : List Int) : Option ((Int × (List (Int)) × List (Int)) × Bool) := lim fun k => (l106 k).1 t6s_0 bs_0 bs bs'
theorem Rli_boxOf_1002 (t6s_0 : Int) (bs_0 : Int) (bs : List Int) (bs' : List Int) : Lim (fun k => (l106 k).1 t6s_0 bs_0 bs bs') (i_boxOf_1002 t6s_0 bs_0 bs bs') := Lim.of_mono fun k => (Mli_boxOf k).1 t6s_0 bs_0 bs bs'
noncomputable def i_boxOf_11008 (t6s_0 : Int) (bs_0 : Int) (bs : List Int) (bs' : List Int) (t46 : Int) (t47 : Int) : Option ((Int × (List (Int)) × List (Int)) × Bool) := lim fun k => (l106 k).2.1 t6s_0 bs_0 bs bs' t46 t47
theorem Rli_boxOf_11008 (t6s_0 : Int) (bs_0 : Int) (bs : List Int) (bs' : List Int) (t46 : Int) (t47 : Int) : Lim (fun k => (l106 k).2.1 t6s_0 bs_0 bs bs' t46 t47) (i_boxOf_11008 t6s_0 bs_0 bs bs' t46 t47) := Lim.of_mono fun k => (Mli_boxOf k).2.1 t6s_0 bs_0 bs bs' t46 t47
noncomputable def i_boxOf_21008 (t6s_0 : Int) (bs_0 : Int) (bs : List Int) (bs' : List Int) (t46 : Int) (t47 : Int) : Option ((Int × (List (Int)) × List (Int)) × Bool) := lim fun k => (l106 k).2.2 t6s_0 bs_0 bs bs' t46 t47
theorem Rli_boxOf_21008 (t6s_0 : Int) (bs_0 : Int) (bs : List Int) (bs' : List Int) (t46 : Int) (t47 : Int) : Lim (fun k => (l106 k).2.2 t6s_0 bs_0 bs bs' t46 t47) (i_boxOf_21008 t6s_0 bs_0 bs bs' t46 t47) := Lim.of_mono fun k => (Mli_boxOf k).2.2 t6s_0 bs_0 bs bs' t46 t47
theorem Ei_boxOf_1002 (t6s_0 : Int) (bs_0 : Int) (bs : List Int) (bs' : List Int) : i_boxOf_1002 t6s_0 bs_0 bs bs' =
  bif decide (0 < bs_0) then
    (slices_Concat_int_int [bs, bs']).bind fun r0 =>
    (slices_ContainsFunc_int_int_i_boxOf_1 r0).bind fun r1 =>
    bif !r1 then
      i_boxOf_11008 t6s_0 (IntKind.wrap IntKind.i64 (bs_0 - 1)) bs bs' ((↑(List.length bs) : Int)) (0)
    else
      (i_isBox (bs_0, bs, bs')).bind fun r2 =>
      bif !r2 then
        some (((0, [], []), false))
      else
        some (((bs_0, bs, bs'), true))
  else
    (i_isBox (bs_0, bs, bs')).bind fun r3 =>
    bif !r3 then
      some (((0, [], []), false))
    else
      some (((bs_0, bs, bs'), true)) := by
  refine Lim.uniq (Lim.shift (Rli_boxOf_1002 t6s_0 bs_0 bs bs')) (?_ : Lim (fun k => F106_1002 k ((l106 k).1) ((l106 k).2.1) ((l106 k).2.2) t6s_0 bs_0 bs bs') _)
  unfold F106_1002
  repeat' first | with_reducible exact Lim.ret _ | with_reducible exact Rslices_ContainsFunc_int_int_i_boxOf_1 _ | with_reducible exact Rslices_Concat_int_int _ | with_reducible exact Ri_isBox _ | with_reducible exact Rli_boxOf_1002 _ _ _ _ | with_reducible exact Rli_boxOf_11008 _ _ _ _ _ _ | with_reducible exact Rli_boxOf_21008 _ _ _ _ _ _ | with_reducible refine Lim.cond ?_ ?_ | with_reducible refine Lim.bind ?_ fun _ => ?_
theorem Ei_boxOf_11008 (t6s_0 : Int) (bs_0 : Int) (bs : List Int) (bs' : List Int) (t46 : Int) (t47 : Int) : i_boxOf_11008 t6s_0 bs_0 bs bs' t46 t47 =
  bif decide (t47 < t46) then
    bif boundA t47 (List.length bs) then
      bif Nat.blt (Int.toNat t47) (List.length bs) then
        bif boundA t47 (List.length bs) then
          bif Nat.blt (Int.toNat t47) (List.length bs) then
            i_boxOf_11008 t6s_0 bs_0 (List.set bs (Int.toNat t47) (IntKind.wrap IntKind.i64 (Int.tdiv (List.getD bs (Int.toNat t47) 0) 2))) bs' t46 (IntKind.wrap IntKind.i64 (t47 + 1))
          else
            none
        else
          none
      else
        none
    else
      none
  else
    i_boxOf_21008 t6s_0 bs_0 bs bs' ((↑(List.length bs') : Int)) (0) := by
  refine Lim.uniq (Lim.shift (Rli_boxOf_11008 t6s_0 bs_0 bs bs' t46 t47)) (?_ : Lim (fun k => F106_11008 k ((l106 k).1) ((l106 k).2.1) ((l106 k).2.2) t6s_0 bs_0 bs bs' t46 t47) _)
  unfold F106_11008
  repeat' first | with_reducible exact Lim.ret _ | with_reducible exact Rli_boxOf_1002 _ _ _ _ | with_reducible exact Rli_boxOf_11008 _ _ _ _ _ _ | with_reducible exact Rli_boxOf_21008 _ _ _ _ _ _ | with_reducible refine Lim.cond ?_ ?_ | with_reducible refine Lim.bind ?_ fun _ => ?_
theorem Ei_boxOf_21008 (t6s_0 : Int) (bs_0 : Int) (bs : List Int) (bs' : List Int) (t46 : Int) (t47 : Int) : i_boxOf_21008 t6s_0 bs_0 bs bs' t46 t47 =
  bif decide (t47 < t46) then
    bif boundA t47 (List.length bs') then
      bif Nat.blt (Int.toNat t47) (List.length bs') then
        bif boundA t47 (List.length bs') then
          bif Nat.blt (Int.toNat t47) (List.length bs') then
            i_boxOf_21008 t6s_0 bs_0 bs (List.set bs' (Int.toNat t47) (IntKind.wrap IntKind.i64 (Int.tdiv (List.getD bs' (Int.toNat t47) 0) 2))) t46 (IntKind.wrap IntKind.i64 (t47 + 1))
          else
            none
        else
          none
      else
        none
    else
      none
  else
    i_boxOf_1002 t6s_0 bs_0 bs bs' := by
  refine Lim.uniq (Lim.shift (Rli_boxOf_21008 t6s_0 bs_0 bs bs' t46 t47)) (?_ : Lim (fun k => F106_21008 k ((l106 k).1) ((l106 k).2.1) ((l106 k).2.2) t6s_0 bs_0 bs bs' t46 t47) _)
  unfold F106_21008
  repeat' first | with_reducible exact Lim.ret _ | with_reducible exact Rli_boxOf_1002 _ _ _ _ | with_reducible exact Rli_boxOf_11008 _ _ _ _ _ _ | with_reducible exact Rli_boxOf_21008 _ _ _ _ _ _ | with_reducible refine Lim.cond ?_ ?_ | with_reducible refine Lim.bind ?_ fun _ => ?_
noncomputable def i_boxOf (k_ : Int) (low : List (Int)) (high : List (Int)) : Option ((Int × (List (Int)) × List (Int)) × Bool) :=
  (slices_Clone_int_int low).bind fun r0 =>
  (slices_Clone_int_int high).bind fun r1 =>
  i_boxOf_1002 (0) k_ r0 r1
theorem Mi_boxOf (k : Nat) (k_ : Int) (low : List (Int)) (high : List (Int)) : Le (f106 k k_ low high) (f106 (k + 1) k_ low high) := by
  have h := Mli_boxOf k
  unfold f106 F106
  repeat' first | with_reducible exact Le.rfl _ | with_reducible exact Mslices_Clone_int_int _ _ | with_reducible exact h.1 _ _ _ _ | with_reducible exact h.2.1 _ _ _ _ _ _ | with_reducible exact h.2.2 _ _ _ _ _ _ | with_reducible refine Le.cond ?_ ?_ | with_reducible refine Le.bind ?_ fun _ => ?_
theorem Ri_boxOf (k_ : Int) (low : List (Int)) (high : List (Int)) : Lim (fun k => f106 k k_ low high) (i_boxOf k_ low high) := by
  unfold f106 F106 i_boxOf
  repeat' first | with_reducible exact Lim.ret _ | with_reducible exact Rslices_Clone_int_int _ | with_reducible exact Rli_boxOf_1002 _ _ _ _ | with_reducible exact Rli_boxOf_11008 _ _ _ _ _ _ | with_reducible exact Rli_boxOf_21008 _ _ _ _ _ _ | with_reducible refine Lim.cond ?_ ?_ | with_reducible refine Lim.bind ?_ fun _ => ?_

-- impl.Box).halves
noncomputable def i_Box_halves (L : Int × (List (Int)) × List (Int)) (i : Int) : Option ((List (Int × (List (Int)) × List (Int))) × Bool) :=
  (i_scaled L.snd.fst 1).bind fun r0 =>
  (i_scaled L.snd.snd 1).bind fun r1 =>
  bif boundA i (List.length L.snd.fst) then
    bif boundA i (List.length L.snd.snd) then
      (slices_Clone_int_int r1).bind fun r2 =>
      (slices_Clone_int_int r0).bind fun r3 =>
      bif boundA i (List.length r2) then
        bif Nat.blt (Int.toNat i) (List.length r2) then
          bif boundA i (List.length r3) then
            bif Nat.blt (Int.toNat i) (List.length r3) then
              (i_boxOf (IntKind.wrap IntKind.i64 (L.fst + 1)) r0 (List.set r2 (Int.toNat i) (IntKind.wrap IntKind.i64 (List.getD L.snd.fst (Int.toNat i) 0 + List.getD L.snd.snd (Int.toNat i) 0)))).bind fun r4 =>
              (i_boxOf (IntKind.wrap IntKind.i64 (L.fst + 1)) (List.set r3 (Int.toNat i) (IntKind.wrap IntKind.i64 (List.getD L.snd.fst (Int.toNat i) 0 + List.getD L.snd.snd (Int.toNat i) 0))) r1).bind fun r5 =>
              bif !r4.snd then
                some (([], false))
              else
                bif !r5.snd then
                  some (([], false))
                else
                  some (([(r4.fst.fst, r4.fst.snd.fst, r4.fst.snd.snd), (r5.fst.fst, r5.fst.snd.fst, r5.fst.snd.snd)], true))
            else
              none
          else
            none
        else
          none
      else
        none
    else
      none
  else
    none
theorem Mi_Box_halves (k : Nat) (L : Int × (List (Int)) × List (Int)) (i : Int) : Le (f72 k L i) (f72 (k + 1) L i) := by
  unfold f72
  repeat' first | with_reducible exact Le.rfl _ | with_reducible exact Mi_scaled _ _ _ | with_reducible exact Mslices_Clone_int_int _ _ | with_reducible exact Mi_boxOf _ _ _ _ | with_reducible refine Le.cond ?_ ?_ | with_reducible refine Le.bind ?_ fun _ => ?_
theorem Ri_Box_halves (L : Int × (List (Int)) × List (Int)) (i : Int) : Lim (fun k => f72 k L i) (i_Box_halves L i) := by
  unfold f72 i_Box_halves
  repeat' first | with_reducible exact Lim.ret _ | with_reducible exact Ri_scaled _ _ | with_reducible exact Rslices_Clone_int_int _ | with_reducible exact Ri_boxOf _ _ _ | with_reducible refine Lim.cond ?_ ?_ | with_reducible refine Lim.bind ?_ fun _ => ?_

-- impl.copyBoxes
theorem MFi_copyBoxes_1003 (k : Nat) {r1003 q1003 : List (Int × List Int × List Int) → List (Int × List Int × List Int) → Int → Int → Option (List (Int × (List (Int)) × List (Int)))} (h1003 : ∀ (outs : List (Int × List Int × List Int)) (t6 : List (Int × List Int × List Int)) (t7 : Int) (t8 : Int), Le (r1003 outs t6 t7 t8) (q1003 outs t6 t7 t8)) (outs : List (Int × List Int × List Int)) (t6 : List (Int × List Int × List Int)) (t7 : Int) (t8 : Int) : Le (F73_1003 k r1003 outs t6 t7 t8) (F73_1003 (k + 1) q1003 outs t6 t7 t8) := by
  unfold F73_1003
  repeat' first | with_reducible exact Le.rfl _ | with_reducible exact Mslices_Clone_int_int _ _ | with_reducible exact h1003 _ _ _ _ | with_reducible refine Le.cond ?_ ?_ | with_reducible refine Le.bind ?_ fun _ => ?_
theorem Mli_copyBoxes : ∀ k : Nat, ∀ (outs : List (Int × List Int × List Int)) (t6 : List (Int × List Int × List Int)) (t7 : Int) (t8 : Int), Le ((l73 k) outs t6 t7 t8) ((l73 (k + 1)) outs t6 t7 t8)
  | 0 => fun outs t6 t7 t8 => Le.no _
  | k + 1 => by
    have h := Mli_copyBoxes k
    exact fun outs t6 t7 t8 => MFi_copyBoxes_1003 k h outs t6 t7 t8
noncomputable def i_copyBoxes_1003 (outs : List (Int × List Int × List Int)) (t6 : List (Int × List Int × List Int)) (t7 : Int) (t8 : Int) : Option (List (Int × (List (Int)) × List (Int))) := lim fun k => (l73 k) outs t6 t7 t8
theorem Rli_copyBoxes_1003 (outs : List (Int × List Int × List Int)) (t6 : List (Int × List Int × List Int)) (t7 : Int) (t8 : Int) : Lim (fun k => (l73 k) outs t6 t7 t8) (i_copyBoxes_1003 outs t6 t7 t8) := Lim.of_mono fun k => Mli_copyBoxes k outs t6 t7 t8
theorem Ei_copyBoxes_1003 (outs : List (Int × List Int × List Int)) (t6 : List (Int × List Int × List Int)) (t7 : Int) (t8 : Int) : i_copyBoxes_1003 outs t6 t7 t8 =
  bif decide (t8 < t7) then
    bif boundA t8 (List.length t6) then
      (slices_Clone_int_int (List.getD t6 (Int.toNat t8) (0, [], [])).snd.fst).bind fun r0 =>
      (slices_Clone_int_int (List.getD t6 (Int.toNat t8) (0, [], [])).snd.snd).bind fun r1 =>
      bif decide ((List.length outs + List.length [((List.getD t6 (Int.toNat t8) (0, [], [])).fst, r0, r1)]) * 56 ≤ 140737488355328) then
        i_copyBoxes_1003 (outs ++ [((List.getD t6 (Int.toNat t8) (0, [], [])).fst, r0, r1)]) t6 t7 (IntKind.wrap IntKind.i64 (t8 + 1))
      else
        none
    else
      none
  else
    some outs := by
  refine Lim.uniq (Lim.shift (Rli_copyBoxes_1003 outs t6 t7 t8)) (?_ : Lim (fun k => F73_1003 k ((l73 k)) outs t6 t7 t8) _)
  unfold F73_1003
  repeat' first | with_reducible exact Lim.ret _ | with_reducible exact Rslices_Clone_int_int _ | with_reducible exact Rli_copyBoxes_1003 _ _ _ _ | with_reducible refine Lim.cond ?_ ?_ | with_reducible refine Lim.bind ?_ fun _ => ?_
noncomputable def i_copyBoxes (l : List (Int × (List (Int)) × List (Int))) : Option (List (Int × (List (Int)) × List (Int))) :=
  i_copyBoxes_1003 ([]) l ((↑(List.length l) : Int)) (0)
theorem Mi_copyBoxes (k : Nat) (l : List (Int × (List (Int)) × List (Int))) : Le (f73 k l) (f73 (k + 1) l) := by
  have h := Mli_copyBoxes k
  unfold f73 F73
  repeat' first | with_reducible exact Le.rfl _ | with_reducible exact h _ _ _ _ | with_reducible refine Le.cond ?_ ?_ | with_reducible refine Le.bind ?_ fun _ => ?_
theorem Ri_copyBoxes (l : List (Int × (List (Int)) × List (Int))) : Lim (fun k => f73 k l) (i_copyBoxes l) := by
  unfold f73 F73 i_copyBoxes
  repeat' first | with_reducible exact Lim.ret _ | with_reducible exact Rli_copyBoxes_1003 _ _ _ _ | with_reducible refine Lim.cond ?_ ?_ | with_reducible refine Lim.bind ?_ fun _ => ?_

-- impl.leafBoxes
theorem MFi_leafBoxes_1004 (k : Nat) {r1004 q1004 : List (Int × List Int × List Int) → List (Int × List Int × List Int) → List (Int × Int) → Int → Int → Option ((List (Int × (List (Int)) × List (Int))) × Bool)} (h1004 : ∀ (open_s : List (Int × List Int × List Int)) (outs : List (Int × List Int × List Int)) (t17 : List (Int × Int)) (t18 : Int) (t19 : Int), Le (r1004 open_s outs t17 t18 t19) (q1004 open_s outs t17 t18 t19)) (open_s : List (Int × List Int × List Int)) (outs : List (Int × List Int × List Int)) (t17 : List (Int × Int)) (t18 : Int) (t19 : Int) : Le (F45_1004 k r1004 open_s outs t17 t18 t19) (F45_1004 (k + 1) q1004 open_s outs t17 t18 t19) := by
  unfold F45_1004
  repeat' first | with_reducible exact Le.rfl _ | with_reducible exact Mi_Box_halves _ _ _ | with_reducible exact Mi_copyBoxes _ _ | with_reducible exact h1004 _ _ _ _ _ | with_reducible refine Le.cond ?_ ?_ | with_reducible refine Le.bind ?_ fun _ => ?_
theorem Mli_leafBoxes : ∀ k : Nat, ∀ (open_s : List (Int × List Int × List Int)) (outs : List (Int × List Int × List Int)) (t17 : List (Int × Int)) (t18 : Int) (t19 : Int), Le ((l45 k) open_s outs t17 t18 t19) ((l45 (k + 1)) open_s outs t17 t18 t19)
  | 0 => fun open_s outs t17 t18 t19 => Le.no _
  | k + 1 => by
    have h := Mli_leafBoxes k
    exact fun open_s outs t17 t18 t19 => MFi_leafBoxes_1004 k h open_s outs t17 t18 t19
noncomputable def i_leafBoxes_1004 (open_s : List (Int × List Int × List Int)) (outs : List (Int × List Int × List Int)) (t17 : List (Int × Int)) (t18 : Int) (t19 : Int) : Option ((List (Int × (List (Int)) × List (Int))) × Bool) := lim fun k => (l45 k) open_s outs t17 t18 t19
theorem Rli_leafBoxes_1004 (open_s : List (Int × List Int × List Int)) (outs : List (Int × List Int × List Int)) (t17 : List (Int × Int)) (t18 : Int) (t19 : Int) : Lim (fun k => (l45 k) open_s outs t17 t18 t19) (i_leafBoxes_1004 open_s outs t17 t18 t19) := Lim.of_mono fun k => Mli_leafBoxes k open_s outs t17 t18 t19
theorem Ei_leafBoxes_1004 (open_s : List (Int × List Int × List Int)) (outs : List (Int × List Int × List Int)) (t17 : List (Int × Int)) (t18 : Int) (t19 : Int) : i_leafBoxes_1004 open_s outs t17 t18 t19 =
  bif decide (t19 < t18) then
    bif boundA t19 (List.length t17) then
      bif boundA (IntKind.wrap IntKind.i64 ((↑(List.length open_s) : Int) - 1)) (List.length open_s) then
        bif Nat.blt (Int.toNat (IntKind.wrap IntKind.i64 ((↑(List.length open_s) : Int) - 1))) (List.length open_s) then
          bif boundE (IntKind.wrap IntKind.i64 ((↑(List.length open_s) : Int) - 1)) (List.length open_s) then
            bif !decide ((List.getD t17 (Int.toNat t19) (0, 0)).fst = 0) then
              bif decide ((List.length outs + List.length [((List.getD open_s (Int.toNat (IntKind.wrap IntKind.i64 ((↑(List.length open_s) : Int) - 1))) (0, [], [])).fst, (List.getD open_s (Int.toNat (IntKind.wrap IntKind.i64 ((↑(List.length open_s) : Int) - 1))) (0, [], [])).snd.fst, (List.getD open_s (Int.toNat (IntKind.wrap IntKind.i64 ((↑(List.length open_s) : Int) - 1))) (0, [], [])).snd.snd)]) * 56 ≤ 140737488355328) then
                i_leafBoxes_1004 (List.take (Int.toNat (IntKind.wrap IntKind.i64 ((↑(List.length open_s) : Int) - 1))) open_s) (outs ++ [((List.getD open_s (Int.toNat (IntKind.wrap IntKind.i64 ((↑(List.length open_s) : Int) - 1))) (0, [], [])).fst, (List.getD open_s (Int.toNat (IntKind.wrap IntKind.i64 ((↑(List.length open_s) : Int) - 1))) (0, [], [])).snd.fst, (List.getD open_s (Int.toNat (IntKind.wrap IntKind.i64 ((↑(List.length open_s) : Int) - 1))) (0, [], [])).snd.snd)]) t17 t18 (IntKind.wrap IntKind.i64 (t19 + 1))
              else
                none
            else
              (i_Box_halves ((List.getD open_s (Int.toNat (IntKind.wrap IntKind.i64 ((↑(List.length open_s) : Int) - 1))) (0, [], [])).fst, (List.getD open_s (Int.toNat (IntKind.wrap IntKind.i64 ((↑(List.length open_s) : Int) - 1))) (0, [], [])).snd.fst, (List.getD open_s (Int.toNat (IntKind.wrap IntKind.i64 ((↑(List.length open_s) : Int) - 1))) (0, [], [])).snd.snd) (List.getD t17 (Int.toNat t19) (0, 0)).snd).bind fun r0 =>
              bif !r0.snd then
                some (([], false))
              else
                bif boundA 1 (List.length r0.fst) then
                  bif Nat.blt (Int.toNat 1) (List.length r0.fst) then
                    bif boundA 0 (List.length r0.fst) then
                      bif Nat.blt (Int.toNat 0) (List.length r0.fst) then
                        bif decide ((List.length (List.take (Int.toNat (IntKind.wrap IntKind.i64 ((↑(List.length open_s) : Int) - 1))) open_s) + List.length [((List.getD r0.fst (Int.toNat 1) (0, [], [])).fst, (List.getD r0.fst (Int.toNat 1) (0, [], [])).snd.fst, (List.getD r0.fst (Int.toNat 1) (0, [], [])).snd.snd), ((List.getD r0.fst (Int.toNat 0) (0, [], [])).fst, (List.getD r0.fst (Int.toNat 0) (0, [], [])).snd.fst, (List.getD r0.fst (Int.toNat 0) (0, [], [])).snd.snd)]) * 56 ≤ 140737488355328) then
                          i_leafBoxes_1004 (List.take (Int.toNat (IntKind.wrap IntKind.i64 ((↑(List.length open_s) : Int) - 1))) open_s ++ [((List.getD r0.fst (Int.toNat 1) (0, [], [])).fst, (List.getD r0.fst (Int.toNat 1) (0, [], [])).snd.fst, (List.getD r0.fst (Int.toNat 1) (0, [], [])).snd.snd), ((List.getD r0.fst (Int.toNat 0) (0, [], [])).fst, (List.getD r0.fst (Int.toNat 0) (0, [], [])).snd.fst, (List.getD r0.fst (Int.toNat 0) (0, [], [])).snd.snd)]) outs t17 t18 (IntKind.wrap IntKind.i64 (t19 + 1))
                        else
                          none
                      else
                        none
                    else
                      none
                  else
                    none
                else
                  none
          else
            none
        else
          none
      else
        none
    else
      none
  else
    (i_copyBoxes outs).bind fun r1 =>
    some ((r1, true)) := by
  refine Lim.uniq (Lim.shift (Rli_leafBoxes_1004 open_s outs t17 t18 t19)) (?_ : Lim (fun k => F45_1004 k ((l45 k)) open_s outs t17 t18 t19) _)
  unfold F45_1004
  repeat' first | with_reducible exact Lim.ret _ | with_reducible exact Ri_Box_halves _ _ | with_reducible exact Ri_copyBoxes _ | with_reducible exact Rli_leafBoxes_1004 _ _ _ _ _ | with_reducible refine Lim.cond ?_ ?_ | with_reducible refine Lim.bind ?_ fun _ => ?_
noncomputable def i_leafBoxes (b : Int × (List (Int)) × List (Int)) (l : List (Int × Int)) : Option ((List (Int × (List (Int)) × List (Int))) × Bool) :=
  i_leafBoxes_1004 ([(b.fst, b.snd.fst, b.snd.snd)]) ([]) l ((↑(List.length l) : Int)) (0)
theorem Mi_leafBoxes (k : Nat) (b : Int × (List (Int)) × List (Int)) (l : List (Int × Int)) : Le (f45 k b l) (f45 (k + 1) b l) := by
  have h := Mli_leafBoxes k
  unfold f45 F45
  repeat' first | with_reducible exact Le.rfl _ | with_reducible exact h _ _ _ _ _ | with_reducible refine Le.cond ?_ ?_ | with_reducible refine Le.bind ?_ fun _ => ?_
theorem Ri_leafBoxes (b : Int × (List (Int)) × List (Int)) (l : List (Int × Int)) : Lim (fun k => f45 k b l) (i_leafBoxes b l) := by
  unfold f45 F45 i_leafBoxes
  repeat' first | with_reducible exact Lim.ret _ | with_reducible exact Rli_leafBoxes_1004 _ _ _ _ _ | with_reducible refine Lim.cond ?_ ?_ | with_reducible refine Lim.bind ?_ fun _ => ?_

-- impl.treeEnd
theorem MFi_treeEnd_1002 (k : Nat) {r1002 q1002 : List (Int × Int) → Int → Int → Option (Int)} (h1002 : ∀ (l : List (Int × Int)) (place : Int) (open_ : Int), Le (r1002 l place open_) (q1002 l place open_)) (l : List (Int × Int)) (place : Int) (open_ : Int) : Le (F92_1002 k r1002 l place open_) (F92_1002 (k + 1) q1002 l place open_) := by
  unfold F92_1002
  repeat' first | with_reducible exact Le.rfl _ | with_reducible exact h1002 _ _ _ | with_reducible refine Le.cond ?_ ?_ | with_reducible refine Le.bind ?_ fun _ => ?_
theorem Mli_treeEnd : ∀ k : Nat, ∀ (l : List (Int × Int)) (place : Int) (open_ : Int), Le ((l92 k) l place open_) ((l92 (k + 1)) l place open_)
  | 0 => fun l place open_ => Le.no _
  | k + 1 => by
    have h := Mli_treeEnd k
    exact fun l place open_ => MFi_treeEnd_1002 k h l place open_
noncomputable def i_treeEnd_1002 (l : List (Int × Int)) (place : Int) (open_ : Int) : Option (Int) := lim fun k => (l92 k) l place open_
theorem Rli_treeEnd_1002 (l : List (Int × Int)) (place : Int) (open_ : Int) : Lim (fun k => (l92 k) l place open_) (i_treeEnd_1002 l place open_) := Lim.of_mono fun k => Mli_treeEnd k l place open_
theorem Ei_treeEnd_1002 (l : List (Int × Int)) (place : Int) (open_ : Int) : i_treeEnd_1002 l place open_ =
  bif decide (0 < open_) then
    bif decide (place = (↑(List.length l) : Int)) then
      some (-1)
    else
      bif boundA place (List.length l) then
        bif decide ((List.getD l (Int.toNat place) (0, 0)).fst = 0) then
          i_treeEnd_1002 l (IntKind.wrap IntKind.i64 (place + 1)) (IntKind.wrap IntKind.i64 (open_ + 1))
        else
          i_treeEnd_1002 l (IntKind.wrap IntKind.i64 (place + 1)) (IntKind.wrap IntKind.i64 (open_ - 1))
      else
        none
  else
    some place := by
  refine Lim.uniq (Lim.shift (Rli_treeEnd_1002 l place open_)) (?_ : Lim (fun k => F92_1002 k ((l92 k)) l place open_) _)
  unfold F92_1002
  repeat' first | with_reducible exact Lim.ret _ | with_reducible exact Rli_treeEnd_1002 _ _ _ | with_reducible refine Lim.cond ?_ ?_ | with_reducible refine Lim.bind ?_ fun _ => ?_
noncomputable def i_treeEnd (l : List (Int × Int)) (place : Int) : Option (Int) :=
  i_treeEnd_1002 l place (1)
theorem Mi_treeEnd (k : Nat) (l : List (Int × Int)) (place : Int) : Le (f92 k l place) (f92 (k + 1) l place) := by
  have h := Mli_treeEnd k
  unfold f92 F92
  repeat' first | with_reducible exact Le.rfl _ | with_reducible exact h _ _ _ | with_reducible refine Le.cond ?_ ?_ | with_reducible refine Le.bind ?_ fun _ => ?_
theorem Ri_treeEnd (l : List (Int × Int)) (place : Int) : Lim (fun k => f92 k l place) (i_treeEnd l place) := by
  unfold f92 F92 i_treeEnd
  repeat' first | with_reducible exact Lim.ret _ | with_reducible exact Rli_treeEnd_1002 _ _ _ | with_reducible refine Lim.cond ?_ ?_ | with_reducible refine Lim.bind ?_ fun _ => ?_

-- impl.pathsOf
theorem MFi_pathsOf_1004 (k : Nat) {r1004 q1004 : List ByteArray → List ByteArray → List (Int × Int) → Int → Int → Option (List (ByteArray))} (h1004 : ∀ (open_s : List ByteArray) (outs : List ByteArray) (t9 : List (Int × Int)) (t10 : Int) (t11 : Int), Le (r1004 open_s outs t9 t10 t11) (q1004 open_s outs t9 t10 t11)) (open_s : List ByteArray) (outs : List ByteArray) (t9 : List (Int × Int)) (t10 : Int) (t11 : Int) : Le (F93_1004 k r1004 open_s outs t9 t10 t11) (F93_1004 (k + 1) q1004 open_s outs t9 t10 t11) := by
  unfold F93_1004
  repeat' first | with_reducible exact Le.rfl _ | with_reducible exact h1004 _ _ _ _ _ | with_reducible refine Le.cond ?_ ?_ | with_reducible refine Le.bind ?_ fun _ => ?_
theorem Mli_pathsOf : ∀ k : Nat, ∀ (open_s : List ByteArray) (outs : List ByteArray) (t9 : List (Int × Int)) (t10 : Int) (t11 : Int), Le ((l93 k) open_s outs t9 t10 t11) ((l93 (k + 1)) open_s outs t9 t10 t11)
  | 0 => fun open_s outs t9 t10 t11 => Le.no _
  | k + 1 => by
    have h := Mli_pathsOf k
    exact fun open_s outs t9 t10 t11 => MFi_pathsOf_1004 k h open_s outs t9 t10 t11
noncomputable def i_pathsOf_1004 (open_s : List ByteArray) (outs : List ByteArray) (t9 : List (Int × Int)) (t10 : Int) (t11 : Int) : Option (List (ByteArray)) := lim fun k => (l93 k) open_s outs t9 t10 t11
theorem Rli_pathsOf_1004 (open_s : List ByteArray) (outs : List ByteArray) (t9 : List (Int × Int)) (t10 : Int) (t11 : Int) : Lim (fun k => (l93 k) open_s outs t9 t10 t11) (i_pathsOf_1004 open_s outs t9 t10 t11) := Lim.of_mono fun k => Mli_pathsOf k open_s outs t9 t10 t11
theorem Ei_pathsOf_1004 (open_s : List ByteArray) (outs : List ByteArray) (t9 : List (Int × Int)) (t10 : Int) (t11 : Int) : i_pathsOf_1004 open_s outs t9 t10 t11 =
  bif decide (t11 < t10) then
    bif boundA t11 (List.length t9) then
      bif boundA (IntKind.wrap IntKind.i64 ((↑(List.length open_s) : Int) - 1)) (List.length open_s) then
        bif Nat.blt (Int.toNat (IntKind.wrap IntKind.i64 ((↑(List.length open_s) : Int) - 1))) (List.length open_s) then
          bif boundE (IntKind.wrap IntKind.i64 ((↑(List.length open_s) : Int) - 1)) (List.length open_s) then
            bif decide ((List.length outs + List.length [List.getD open_s (Int.toNat (IntKind.wrap IntKind.i64 ((↑(List.length open_s) : Int) - 1))) ByteArray.empty]) * 16 ≤ 140737488355328) then
              bif decide ((List.getD t9 (Int.toNat t11) (0, 0)).fst = 0) then
                bif decide (ByteArray.size (List.getD open_s (Int.toNat (IntKind.wrap IntKind.i64 ((↑(List.length open_s) : Int) - 1))) ByteArray.empty) + ByteArray.size { data := #[117] } ≤ 9223372036854775807) then
                  bif decide (ByteArray.size (List.getD open_s (Int.toNat (IntKind.wrap IntKind.i64 ((↑(List.length open_s) : Int) - 1))) ByteArray.empty) + ByteArray.size { data := #[108] } ≤ 9223372036854775807) then
                    bif decide ((List.length (List.take (Int.toNat (IntKind.wrap IntKind.i64 ((↑(List.length open_s) : Int) - 1))) open_s) + List.length [List.getD open_s (Int.toNat (IntKind.wrap IntKind.i64 ((↑(List.length open_s) : Int) - 1))) ByteArray.empty ++ { data := #[117] }, List.getD open_s (Int.toNat (IntKind.wrap IntKind.i64 ((↑(List.length open_s) : Int) - 1))) ByteArray.empty ++ { data := #[108] }]) * 16 ≤ 140737488355328) then
                      i_pathsOf_1004 (List.take (Int.toNat (IntKind.wrap IntKind.i64 ((↑(List.length open_s) : Int) - 1))) open_s ++ [List.getD open_s (Int.toNat (IntKind.wrap IntKind.i64 ((↑(List.length open_s) : Int) - 1))) ByteArray.empty ++ { data := #[117] }, List.getD open_s (Int.toNat (IntKind.wrap IntKind.i64 ((↑(List.length open_s) : Int) - 1))) ByteArray.empty ++ { data := #[108] }]) (outs ++ [List.getD open_s (Int.toNat (IntKind.wrap IntKind.i64 ((↑(List.length open_s) : Int) - 1))) ByteArray.empty]) t9 t10 (IntKind.wrap IntKind.i64 (t11 + 1))
                    else
                      none
                  else
                    none
                else
                  none
              else
                i_pathsOf_1004 (List.take (Int.toNat (IntKind.wrap IntKind.i64 ((↑(List.length open_s) : Int) - 1))) open_s) (outs ++ [List.getD open_s (Int.toNat (IntKind.wrap IntKind.i64 ((↑(List.length open_s) : Int) - 1))) ByteArray.empty]) t9 t10 (IntKind.wrap IntKind.i64 (t11 + 1))
            else
              none
          else
            none
        else
          none
      else
        none
    else
      none
  else
    some outs := by
  refine Lim.uniq (Lim.shift (Rli_pathsOf_1004 open_s outs t9 t10 t11)) (?_ : Lim (fun k => F93_1004 k ((l93 k)) open_s outs t9 t10 t11) _)
  unfold F93_1004
  repeat' first | with_reducible exact Lim.ret _ | with_reducible exact Rli_pathsOf_1004 _ _ _ _ _ | with_reducible refine Lim.cond ?_ ?_ | with_reducible refine Lim.bind ?_ fun _ => ?_
noncomputable def i_pathsOf (l : List (Int × Int)) : Option (List (ByteArray)) :=
  i_pathsOf_1004 ([{ data := #[] }]) ([]) l ((↑(List.length l) : Int)) (0)
theorem Mi_pathsOf (k : Nat) (l : List (Int × Int)) : Le (f93 k l) (f93 (k + 1) l) := by
  have h := Mli_pathsOf k
  unfold f93 F93
  repeat' first | with_reducible exact Le.rfl _ | with_reducible exact h _ _ _ _ _ | with_reducible refine Le.cond ?_ ?_ | with_reducible refine Le.bind ?_ fun _ => ?_
theorem Ri_pathsOf (l : List (Int × Int)) : Lim (fun k => f93 k l) (i_pathsOf l) := by
  unfold f93 F93 i_pathsOf
  repeat' first | with_reducible exact Lim.ret _ | with_reducible exact Rli_pathsOf_1004 _ _ _ _ _ | with_reducible refine Lim.cond ?_ ?_ | with_reducible refine Lim.bind ?_ fun _ => ?_

-- impl.isNode
noncomputable def i_isNode (n_Kind : Int) (n_Number : Int) (sides : Int) : Option (Bool) :=
  bif decide (n_Kind = 0) then
    (i_inside n_Number 0 (IntKind.wrap IntKind.i64 (sides - 1))).bind fun r0 =>
    some r0
  else
    bif decide (n_Kind = 1) then
      bif decide (n_Kind = 1) then
        (i_inside n_Number 0 99).bind fun r1 =>
        some r1
      else
        bif decide (n_Kind = 3) then
          some (decide (n_Number = 0))
        else
          some false
    else
      bif decide (n_Kind = 2) then
        (i_inside n_Number 0 99).bind fun r2 =>
        some r2
      else
        bif decide (n_Kind = 3) then
          some (decide (n_Number = 0))
        else
          some false
theorem Mi_isNode (k : Nat) (n_Kind : Int) (n_Number : Int) (sides : Int) : Le (f94 k n_Kind n_Number sides) (f94 (k + 1) n_Kind n_Number sides) := by
  unfold f94
  repeat' first | with_reducible exact Le.rfl _ | with_reducible exact Mi_inside _ _ _ _ | with_reducible refine Le.cond ?_ ?_ | with_reducible refine Le.bind ?_ fun _ => ?_
theorem Ri_isNode (n_Kind : Int) (n_Number : Int) (sides : Int) : Lim (fun k => f94 k n_Kind n_Number sides) (i_isNode n_Kind n_Number sides) := by
  unfold f94 i_isNode
  repeat' first | with_reducible exact Lim.ret _ | with_reducible exact Ri_inside _ _ _ | with_reducible refine Lim.cond ?_ ?_ | with_reducible refine Lim.bind ?_ fun _ => ?_

-- impl.isTree
theorem MFi_isTree_1004 (k : Nat) {r1004 q1004 : List (Int × Int) → Int → List ByteArray → Int → Int → Option (Bool)} (h1004 : ∀ (l : List (Int × Int)) (sides : Int) (t23s : List ByteArray) (t24 : Int) (t25 : Int), Le (r1004 l sides t23s t24 t25) (q1004 l sides t23s t24 t25)) (l : List (Int × Int)) (sides : Int) (t23s : List ByteArray) (t24 : Int) (t25 : Int) : Le (F61_1004 k r1004 l sides t23s t24 t25) (F61_1004 (k + 1) q1004 l sides t23s t24 t25) := by
  unfold F61_1004
  repeat' first | with_reducible exact Le.rfl _ | with_reducible exact Mi_isNode _ _ _ _ | with_reducible exact h1004 _ _ _ _ _ | with_reducible refine Le.cond ?_ ?_ | with_reducible refine Le.bind ?_ fun _ => ?_
theorem Mli_isTree : ∀ k : Nat, ∀ (l : List (Int × Int)) (sides : Int) (t23s : List ByteArray) (t24 : Int) (t25 : Int), Le ((l61 k) l sides t23s t24 t25) ((l61 (k + 1)) l sides t23s t24 t25)
  | 0 => fun l sides t23s t24 t25 => Le.no _
  | k + 1 => by
    have h := Mli_isTree k
    exact fun l sides t23s t24 t25 => MFi_isTree_1004 k h l sides t23s t24 t25
noncomputable def i_isTree_1004 (l : List (Int × Int)) (sides : Int) (t23s : List ByteArray) (t24 : Int) (t25 : Int) : Option (Bool) := lim fun k => (l61 k) l sides t23s t24 t25
theorem Rli_isTree_1004 (l : List (Int × Int)) (sides : Int) (t23s : List ByteArray) (t24 : Int) (t25 : Int) : Lim (fun k => (l61 k) l sides t23s t24 t25) (i_isTree_1004 l sides t23s t24 t25) := Lim.of_mono fun k => Mli_isTree k l sides t23s t24 t25
theorem Ei_isTree_1004 (l : List (Int × Int)) (sides : Int) (t23s : List ByteArray) (t24 : Int) (t25 : Int) : i_isTree_1004 l sides t23s t24 t25 =
  bif decide (t25 < t24) then
    bif boundA t25 (List.length t23s) then
      bif Nat.blt (Int.toNat t25) (List.length t23s) then
        bif boundA t25 (List.length l) then
          (i_isNode (List.getD l (Int.toNat t25) (0, 0)).fst (List.getD l (Int.toNat t25) (0, 0)).snd sides).bind fun r0 =>
          bif !r0 then
            some false
          else
            bif decide (20 < (↑(ByteArray.size (List.getD t23s (Int.toNat t25) ByteArray.empty)) : Int)) then
              some false
            else
              i_isTree_1004 l sides t23s t24 (IntKind.wrap IntKind.i64 (t25 + 1))
        else
          none
      else
        none
    else
      none
  else
    some true := by
  refine Lim.uniq (Lim.shift (Rli_isTree_1004 l sides t23s t24 t25)) (?_ : Lim (fun k => F61_1004 k ((l61 k)) l sides t23s t24 t25) _)
  unfold F61_1004
  repeat' first | with_reducible exact Lim.ret _ | with_reducible exact Ri_isNode _ _ _ | with_reducible exact Rli_isTree_1004 _ _ _ _ _ | with_reducible refine Lim.cond ?_ ?_ | with_reducible refine Lim.bind ?_ fun _ => ?_
noncomputable def i_isTree (l : List (Int × Int)) (sides : Int) : Option (Bool) :=
  (i_inside sides 1 3).bind fun r0 =>
  bif !r0 then
    some false
  else
    bif decide (200 < (↑(List.length l) : Int)) then
      some false
    else
      (i_treeEnd l 0).bind fun r1 =>
      bif !decide (r1 = (↑(List.length l) : Int)) then
        some false
      else
        (i_pathsOf l).bind fun r2 =>
        i_isTree_1004 l sides r2 ((↑(List.length r2) : Int)) (0)
theorem Mi_isTree (k : Nat) (l : List (Int × Int)) (sides : Int) : Le (f61 k l sides) (f61 (k + 1) l sides) := by
  have h := Mli_isTree k
  unfold f61 F61
  repeat' first | with_reducible exact Le.rfl _ | with_reducible exact Mi_inside _ _ _ _ | with_reducible exact Mi_treeEnd _ _ _ | with_reducible exact Mi_pathsOf _ _ | with_reducible exact h _ _ _ _ _ | with_reducible refine Le.cond ?_ ?_ | with_reducible refine Le.bind ?_ fun _ => ?_
theorem Ri_isTree (l : List (Int × Int)) (sides : Int) : Lim (fun k => f61 k l sides) (i_isTree l sides) := by
  unfold f61 F61 i_isTree
  repeat' first | with_reducible exact Lim.ret _ | with_reducible exact Ri_inside _ _ _ | with_reducible exact Ri_treeEnd _ _ | with_reducible exact Ri_pathsOf _ | with_reducible exact Rli_isTree_1004 _ _ _ _ _ | with_reducible refine Lim.cond ?_ ?_ | with_reducible refine Lim.bind ?_ fun _ => ?_

-- impl.treeFits
noncomputable def i_treeFits (b : Int × (List (Int)) × List (Int)) (l : List (Int × Int)) : Option (Bool) :=
  (i_isBox b).bind fun r0 =>
  bif !r0 then
    some false
  else
    (i_isTree l (↑(List.length b.snd.fst) : Int)).bind fun r1 =>
    bif !r1 then
      some false
    else
      (i_leafBoxes b l).bind fun r2 =>
      some (r2.snd)
theorem Mi_treeFits (k : Nat) (b : Int × (List (Int)) × List (Int)) (l : List (Int × Int)) : Le (f44 k b l) (f44 (k + 1) b l) := by
  unfold f44
  repeat' first | with_reducible exact Le.rfl _ | with_reducible exact Mi_leafBoxes _ _ _ | with_reducible exact Mi_isBox _ _ | with_reducible exact Mi_isTree _ _ _ | with_reducible refine Le.cond ?_ ?_ | with_reducible refine Le.bind ?_ fun _ => ?_
theorem Ri_treeFits (b : Int × (List (Int)) × List (Int)) (l : List (Int × Int)) : Lim (fun k => f44 k b l) (i_treeFits b l) := by
  unfold f44 i_treeFits
  repeat' first | with_reducible exact Lim.ret _ | with_reducible exact Ri_leafBoxes _ _ | with_reducible exact Ri_isBox _ | with_reducible exact Ri_isTree _ _ | with_reducible refine Lim.cond ?_ ?_ | with_reducible refine Lim.bind ?_ fun _ => ?_

-- impl.size
noncomputable def i_size (n : Int) : Option (Int) :=
  bif decide (n < 0) then
    some (IntKind.wrap IntKind.u64 (IntKind.wrap IntKind.i64 (0 - n)))
  else
    some (IntKind.wrap IntKind.u64 n)
theorem Mi_size (k : Nat) (n : Int) : Le (f97 k n) (f97 (k + 1) n) := by
  unfold f97
  repeat' first | with_reducible exact Le.rfl _ | with_reducible refine Le.cond ?_ ?_ | with_reducible refine Le.bind ?_ fun _ => ?_
theorem Ri_size (n : Int) : Lim (fun k => f97 k n) (i_size n) := by
  unfold f97 i_size
  repeat' first | with_reducible exact Lim.ret _ | with_reducible refine Lim.cond ?_ ?_ | with_reducible refine Lim.bind ?_ fun _ => ?_

-- impl.wideOf
noncomputable def i_wideOf (n : Int) : Option (Bool × Int × Int) :=
  (i_size n).bind fun r0 =>
  some ((decide (n < 0), 0, r0))
theorem Mi_wideOf (k : Nat) (n : Int) : Le (f87 k n) (f87 (k + 1) n) := by
  unfold f87
  repeat' first | with_reducible exact Le.rfl _ | with_reducible exact Mi_size _ _ | with_reducible refine Le.cond ?_ ?_ | with_reducible refine Le.bind ?_ fun _ => ?_
theorem Ri_wideOf (n : Int) : Lim (fun k => f87 k n) (i_wideOf n) := by
  unfold f87 i_wideOf
  repeat' first | with_reducible exact Lim.ret _ | with_reducible exact Ri_size _ | with_reducible refine Lim.cond ?_ ?_ | with_reducible refine Lim.bind ?_ fun _ => ?_

-- impl.Box).length
noncomputable def i_Box_length (b : Int × (List (Int)) × List (Int)) (i : Int) : Option (Int) :=
  bif boundA i (List.length b.snd.snd) then
    bif boundA i (List.length b.snd.fst) then
      some (IntKind.wrap IntKind.i64 (List.getD b.snd.snd (Int.toNat i) 0 - List.getD b.snd.fst (Int.toNat i) 0))
    else
      none
  else
    none
theorem Mi_Box_length (k : Nat) (b : Int × (List (Int)) × List (Int)) (i : Int) : Le (f89 k b i) (f89 (k + 1) b i) := by
  unfold f89
  repeat' first | with_reducible exact Le.rfl _ | with_reducible refine Le.cond ?_ ?_ | with_reducible refine Le.bind ?_ fun _ => ?_
theorem Ri_Box_length (b : Int × (List (Int)) × List (Int)) (i : Int) : Lim (fun k => f89 k b i) (i_Box_length b i) := by
  unfold f89 i_Box_length
  repeat' first | with_reducible exact Lim.ret _ | with_reducible refine Lim.cond ?_ ?_ | with_reducible refine Lim.bind ?_ fun _ => ?_

-- impl.wide).shift
noncomputable def i_wide_shift (w_negative : Bool) (w_high : Int) (w_low : Int) (k_ : Int) : Option (Bool × Int × Int) :=
  bif decide (0 ≤ k_) then
    bif decide (64 ≤ k_) then
      bif !decide (IntKind.wrap IntKind.i64 (k_ - 64) < 0) then
        some ((w_negative, IntKind.wrap IntKind.u64 (w_low * 2 ^ min (Int.toNat (IntKind.wrap IntKind.i64 (k_ - 64))) (IntKind.bits IntKind.u64)), 0))
      else
        none
    else
      bif !decide (k_ < 0) then
        bif !decide (IntKind.wrap IntKind.i64 (64 - k_) < 0) then
          bif !decide (k_ < 0) then
            some ((w_negative, IntKind.wrap IntKind.u64 (↑(BitVec.toNat (BitVec.ofInt (IntKind.bits IntKind.u64) (IntKind.wrap IntKind.u64 (w_high * 2 ^ min (Int.toNat k_) (IntKind.bits IntKind.u64))) ||| BitVec.ofInt (IntKind.bits IntKind.u64) (Int.fdiv w_low (2 ^ min (Int.toNat (IntKind.wrap IntKind.i64 (64 - k_))) (IntKind.bits IntKind.u64))))) : Int), IntKind.wrap IntKind.u64 (w_low * 2 ^ min (Int.toNat k_) (IntKind.bits IntKind.u64))))
          else
            none
        else
          none
      else
        none
  else
    bif decide (64 ≤ IntKind.wrap IntKind.i64 (0 - k_)) then
      bif !decide (IntKind.wrap IntKind.i64 (IntKind.wrap IntKind.i64 (0 - k_) - 64) < 0) then
        some ((w_negative, 0, Int.fdiv w_high (2 ^ min (Int.toNat (IntKind.wrap IntKind.i64 (IntKind.wrap IntKind.i64 (0 - k_) - 64))) (IntKind.bits IntKind.u64))))
      else
        none
    else
      bif !decide (IntKind.wrap IntKind.i64 (0 - k_) < 0) then
        bif !decide (IntKind.wrap IntKind.i64 (0 - k_) < 0) then
          bif !decide (IntKind.wrap IntKind.i64 (64 - IntKind.wrap IntKind.i64 (0 - k_)) < 0) then
            some ((w_negative, Int.fdiv w_high (2 ^ min (Int.toNat (IntKind.wrap IntKind.i64 (0 - k_))) (IntKind.bits IntKind.u64)), IntKind.wrap IntKind.u64 (↑(BitVec.toNat (BitVec.ofInt (IntKind.bits IntKind.u64) (Int.fdiv w_low (2 ^ min (Int.toNat (IntKind.wrap IntKind.i64 (0 - k_))) (IntKind.bits IntKind.u64))) ||| BitVec.ofInt (IntKind.bits IntKind.u64) (IntKind.wrap IntKind.u64 (w_high * 2 ^ min (Int.toNat (IntKind.wrap IntKind.i64 (64 - IntKind.wrap IntKind.i64 (0 - k_)))) (IntKind.bits IntKind.u64))))) : Int)))
          else
            none
        else
          none
      else
        none
theorem Mi_wide_shift (k : Nat) (w_negative : Bool) (w_high : Int) (w_low : Int) (k_ : Int) : Le (f88 k w_negative w_high w_low k_) (f88 (k + 1) w_negative w_high w_low k_) := by
  unfold f88
  repeat' first | with_reducible exact Le.rfl _ | with_reducible refine Le.cond ?_ ?_ | with_reducible refine Le.bind ?_ fun _ => ?_
theorem Ri_wide_shift (w_negative : Bool) (w_high : Int) (w_low : Int) (k_ : Int) : Lim (fun k => f88 k w_negative w_high w_low k_) (i_wide_shift w_negative w_high w_low k_) := by
  unfold f88 i_wide_shift
  repeat' first | with_reducible exact Lim.ret _ | with_reducible refine Lim.cond ?_ ?_ | with_reducible refine Lim.bind ?_ fun _ => ?_

-- impl.wide).isZero
noncomputable def i_wide_isZero (w_negative : Bool) (w_high : Int) (w_low : Int) : Option (Bool) :=
  bif decide (w_high = 0) then
    some (decide (w_low = 0))
  else
    some false
theorem Mi_wide_isZero (k : Nat) (w_negative : Bool) (w_high : Int) (w_low : Int) : Le (f113 k w_negative w_high w_low) (f113 (k + 1) w_negative w_high w_low) := by
  unfold f113
  repeat' first | with_reducible exact Le.rfl _ | with_reducible refine Le.cond ?_ ?_ | with_reducible refine Le.bind ?_ fun _ => ?_
theorem Ri_wide_isZero (w_negative : Bool) (w_high : Int) (w_low : Int) : Lim (fun k => f113 k w_negative w_high w_low) (i_wide_isZero w_negative w_high w_low) := by
  unfold f113 i_wide_isZero
  repeat' first | with_reducible exact Lim.ret _ | with_reducible refine Lim.cond ?_ ?_ | with_reducible refine Lim.bind ?_ fun _ => ?_

-- impl.wide).fit
theorem MFi_wide_fit_1003 (k : Nat) {r1003 q1003 : Int → Bool → Int → Int → Int → Int → Option ((Int × Int) × Bool)} (h1003 : ∀ (k_ : Int) (ws_0 : Bool) (ws_1 : Int) (ws_2 : Int) (t4s_0 : Int) (t4s_1 : Int), Le (r1003 k_ ws_0 ws_1 ws_2 t4s_0 t4s_1) (q1003 k_ ws_0 ws_1 ws_2 t4s_0 t4s_1)) (k_ : Int) (ws_0 : Bool) (ws_1 : Int) (ws_2 : Int) (t4s_0 : Int) (t4s_1 : Int) : Le (F90_1003 k r1003 k_ ws_0 ws_1 ws_2 t4s_0 t4s_1) (F90_1003 (k + 1) q1003 k_ ws_0 ws_1 ws_2 t4s_0 t4s_1) := by
  unfold F90_1003
  repeat' first | with_reducible exact Le.rfl _ | with_reducible exact h1003 _ _ _ _ _ _ | with_reducible refine Le.cond ?_ ?_ | with_reducible refine Le.bind ?_ fun _ => ?_
theorem Mli_wide_fit : ∀ k : Nat, ∀ (k_ : Int) (ws_0 : Bool) (ws_1 : Int) (ws_2 : Int) (t4s_0 : Int) (t4s_1 : Int), Le ((l90 k) k_ ws_0 ws_1 ws_2 t4s_0 t4s_1) ((l90 (k + 1)) k_ ws_0 ws_1 ws_2 t4s_0 t4s_1)
  | 0 => fun k_ ws_0 ws_1 ws_2 t4s_0 t4s_1 => Le.no _
  | k + 1 => by
    have h := Mli_wide_fit k
    exact fun k_ ws_0 ws_1 ws_2 t4s_0 t4s_1 => MFi_wide_fit_1003 k h k_ ws_0 ws_1 ws_2 t4s_0 t4s_1
noncomputable def i_wide_fit_1003 (k_ : Int) (ws_0 : Bool) (ws_1 : Int) (ws_2 : Int) (t4s_0 : Int) (t4s_1 : Int) : Option ((Int × Int) × Bool) := lim fun k => (l90 k) k_ ws_0 ws_1 ws_2 t4s_0 t4s_1
theorem Rli_wide_fit_1003 (k_ : Int) (ws_0 : Bool) (ws_1 : Int) (ws_2 : Int) (t4s_0 : Int) (t4s_1 : Int) : Lim (fun k => (l90 k) k_ ws_0 ws_1 ws_2 t4s_0 t4s_1) (i_wide_fit_1003 k_ ws_0 ws_1 ws_2 t4s_0 t4s_1) := Lim.of_mono fun k => Mli_wide_fit k k_ ws_0 ws_1 ws_2 t4s_0 t4s_1
theorem Ei_wide_fit_1003 (k_ : Int) (ws_0 : Bool) (ws_1 : Int) (ws_2 : Int) (t4s_0 : Int) (t4s_1 : Int) : i_wide_fit_1003 k_ ws_0 ws_1 ws_2 t4s_0 t4s_1 =
  bif decide (0 < k_) then
    bif decide (Int.tmod ws_2 2 = 0) then
      i_wide_fit_1003 (IntKind.wrap IntKind.i64 (k_ - 1)) ws_0 (Int.fdiv ws_1 (2 ^ min (Int.toNat (IntKind.wrap IntKind.i64 (0 - -1))) (IntKind.bits IntKind.u64))) (IntKind.wrap IntKind.u64 (↑(BitVec.toNat (BitVec.ofInt (IntKind.bits IntKind.u64) (Int.fdiv ws_2 (2 ^ min (Int.toNat (IntKind.wrap IntKind.i64 (0 - -1))) (IntKind.bits IntKind.u64))) ||| BitVec.ofInt (IntKind.bits IntKind.u64) (IntKind.wrap IntKind.u64 (ws_1 * 2 ^ min (Int.toNat (IntKind.wrap IntKind.i64 (64 - IntKind.wrap IntKind.i64 (0 - -1)))) (IntKind.bits IntKind.u64))))) : Int)) t4s_0 t4s_1
    else
      bif decide (24 < k_) then
        some (((0, 0), false))
      else
        bif decide (0 < ws_1) then
          some (((0, 0), false))
        else
          bif decide (1099511627776 < ws_2) then
            some (((0, 0), false))
          else
            bif ws_0 then
              some (((IntKind.wrap IntKind.i64 (0 - IntKind.wrap IntKind.i64 ws_2), k_), true))
            else
              some (((IntKind.wrap IntKind.i64 ws_2, k_), true))
  else
    bif decide (24 < k_) then
      some (((0, 0), false))
    else
      bif decide (0 < ws_1) then
        some (((0, 0), false))
      else
        bif decide (1099511627776 < ws_2) then
          some (((0, 0), false))
        else
          bif ws_0 then
            some (((IntKind.wrap IntKind.i64 (0 - IntKind.wrap IntKind.i64 ws_2), k_), true))
          else
            some (((IntKind.wrap IntKind.i64 ws_2, k_), true)) := by
  refine Lim.uniq (Lim.shift (Rli_wide_fit_1003 k_ ws_0 ws_1 ws_2 t4s_0 t4s_1)) (?_ : Lim (fun k => F90_1003 k ((l90 k)) k_ ws_0 ws_1 ws_2 t4s_0 t4s_1) _)
  unfold F90_1003
  repeat' first | with_reducible exact Lim.ret _ | with_reducible exact Rli_wide_fit_1003 _ _ _ _ _ _ | with_reducible refine Lim.cond ?_ ?_ | with_reducible refine Lim.bind ?_ fun _ => ?_
noncomputable def i_wide_fit (w_negative : Bool) (w_high : Int) (w_low : Int) (k_ : Int) : Option ((Int × Int) × Bool) :=
  (i_wide_isZero w_negative w_high w_low).bind fun r0 =>
  bif r0 then
    some (((0, 0), true))
  else
    i_wide_fit_1003 k_ w_negative w_high w_low (0) (0)
theorem Mi_wide_fit (k : Nat) (w_negative : Bool) (w_high : Int) (w_low : Int) (k_ : Int) : Le (f90 k w_negative w_high w_low k_) (f90 (k + 1) w_negative w_high w_low k_) := by
  have h := Mli_wide_fit k
  unfold f90 F90
  repeat' first | with_reducible exact Le.rfl _ | with_reducible exact Mi_wide_isZero _ _ _ _ | with_reducible exact h _ _ _ _ _ _ | with_reducible refine Le.cond ?_ ?_ | with_reducible refine Le.bind ?_ fun _ => ?_
theorem Ri_wide_fit (w_negative : Bool) (w_high : Int) (w_low : Int) (k_ : Int) : Lim (fun k => f90 k w_negative w_high w_low k_) (i_wide_fit w_negative w_high w_low k_) := by
  unfold f90 F90 i_wide_fit
  repeat' first | with_reducible exact Lim.ret _ | with_reducible exact Ri_wide_isZero _ _ _ | with_reducible exact Rli_wide_fit_1003 _ _ _ _ _ _ | with_reducible refine Lim.cond ?_ ?_ | with_reducible refine Lim.bind ?_ fun _ => ?_

-- impl.Box).volume
theorem MFi_Box_volume_1003 (k : Nat) {r1003 q1003 : Int × List Int × List Int → Int → Int → Int → Int → Int → Option ((Int × Int) × Bool)} (h1003 : ∀ (b : Int × List Int × List Int) (t2s_0 : Int) (t2s_1 : Int) (n : Int) (t10 : Int) (t11 : Int), Le (r1003 b t2s_0 t2s_1 n t10 t11) (q1003 b t2s_0 t2s_1 n t10 t11)) (b : Int × List Int × List Int) (t2s_0 : Int) (t2s_1 : Int) (n : Int) (t10 : Int) (t11 : Int) : Le (F56_1003 k r1003 b t2s_0 t2s_1 n t10 t11) (F56_1003 (k + 1) q1003 b t2s_0 t2s_1 n t10 t11) := by
  unfold F56_1003
  repeat' first | with_reducible exact Le.rfl _ | with_reducible exact Mi_wideOf _ _ | with_reducible exact Mi_Box_length _ _ _ | with_reducible exact Mi_wide_fit _ _ _ _ _ | with_reducible exact h1003 _ _ _ _ _ _ | with_reducible refine Le.cond ?_ ?_ | with_reducible refine Le.bind ?_ fun _ => ?_
theorem Mli_Box_volume : ∀ k : Nat, ∀ (b : Int × List Int × List Int) (t2s_0 : Int) (t2s_1 : Int) (n : Int) (t10 : Int) (t11 : Int), Le ((l56 k) b t2s_0 t2s_1 n t10 t11) ((l56 (k + 1)) b t2s_0 t2s_1 n t10 t11)
  | 0 => fun b t2s_0 t2s_1 n t10 t11 => Le.no _
  | k + 1 => by
    have h := Mli_Box_volume k
    exact fun b t2s_0 t2s_1 n t10 t11 => MFi_Box_volume_1003 k h b t2s_0 t2s_1 n t10 t11
noncomputable def i_Box_volume_1003 (b : Int × List Int × List Int) (t2s_0 : Int) (t2s_1 : Int) (n : Int) (t10 : Int) (t11 : Int) : Option ((Int × Int) × Bool) := lim fun k => (l56 k) b t2s_0 t2s_1 n t10 t11
theorem Rli_Box_volume_1003 (b : Int × List Int × List Int) (t2s_0 : Int) (t2s_1 : Int) (n : Int) (t10 : Int) (t11 : Int) : Lim (fun k => (l56 k) b t2s_0 t2s_1 n t10 t11) (i_Box_volume_1003 b t2s_0 t2s_1 n t10 t11) := Lim.of_mono fun k => Mli_Box_volume k b t2s_0 t2s_1 n t10 t11
theorem Ei_Box_volume_1003 (b : Int × List Int × List Int) (t2s_0 : Int) (t2s_1 : Int) (n : Int) (t10 : Int) (t11 : Int) : i_Box_volume_1003 b t2s_0 t2s_1 n t10 t11 =
  bif decide (t11 < t10) then
    (i_Box_length b t11).bind fun r0 =>
    i_Box_volume_1003 b t2s_0 t2s_1 (IntKind.wrap IntKind.i64 (n * r0)) t10 (IntKind.wrap IntKind.i64 (t11 + 1))
  else
    (i_wideOf n).bind fun r1 =>
    (i_wide_fit r1.fst r1.snd.fst r1.snd.snd (IntKind.wrap IntKind.i64 (b.fst * (↑(List.length b.snd.fst) : Int)))).bind fun r2 =>
    some (((r2.fst.fst, r2.fst.snd), r2.snd)) := by
  refine Lim.uniq (Lim.shift (Rli_Box_volume_1003 b t2s_0 t2s_1 n t10 t11)) (?_ : Lim (fun k => F56_1003 k ((l56 k)) b t2s_0 t2s_1 n t10 t11) _)
  unfold F56_1003
  repeat' first | with_reducible exact Lim.ret _ | with_reducible exact Ri_wideOf _ | with_reducible exact Ri_Box_length _ _ | with_reducible exact Ri_wide_fit _ _ _ _ | with_reducible exact Rli_Box_volume_1003 _ _ _ _ _ _ | with_reducible refine Lim.cond ?_ ?_ | with_reducible refine Lim.bind ?_ fun _ => ?_
noncomputable def i_Box_volume (b : Int × (List (Int)) × List (Int)) : Option ((Int × Int) × Bool) :=
  i_Box_volume_1003 b (0) (0) (1) ((↑(List.length b.snd.fst) : Int)) (0)
theorem Mi_Box_volume (k : Nat) (b : Int × (List (Int)) × List (Int)) : Le (f56 k b) (f56 (k + 1) b) := by
  have h := Mli_Box_volume k
  unfold f56 F56
  repeat' first | with_reducible exact Le.rfl _ | with_reducible exact h _ _ _ _ _ _ | with_reducible refine Le.cond ?_ ?_ | with_reducible refine Le.bind ?_ fun _ => ?_
theorem Ri_Box_volume (b : Int × (List (Int)) × List (Int)) : Lim (fun k => f56 k b) (i_Box_volume b) := by
  unfold f56 F56 i_Box_volume
  repeat' first | with_reducible exact Lim.ret _ | with_reducible exact Rli_Box_volume_1003 _ _ _ _ _ _ | with_reducible refine Lim.cond ?_ ?_ | with_reducible refine Lim.bind ?_ fun _ => ?_

-- impl.leafPlaces
theorem MFi_leafPlaces_1003 (k : Nat) {r1003 q1003 : List Int → List (Int × Int) → Int → Int → Option (List (Int))} (h1003 : ∀ (outs : List Int) (t6 : List (Int × Int)) (t7 : Int) (t8 : Int), Le (r1003 outs t6 t7 t8) (q1003 outs t6 t7 t8)) (outs : List Int) (t6 : List (Int × Int)) (t7 : Int) (t8 : Int) : Le (F83_1003 k r1003 outs t6 t7 t8) (F83_1003 (k + 1) q1003 outs t6 t7 t8) := by
  unfold F83_1003
  repeat' first | with_reducible exact Le.rfl _ | with_reducible exact h1003 _ _ _ _ | with_reducible refine Le.cond ?_ ?_ | with_reducible refine Le.bind ?_ fun _ => ?_
theorem Mli_leafPlaces : ∀ k : Nat, ∀ (outs : List Int) (t6 : List (Int × Int)) (t7 : Int) (t8 : Int), Le ((l83 k) outs t6 t7 t8) ((l83 (k + 1)) outs t6 t7 t8)
  | 0 => fun outs t6 t7 t8 => Le.no _
  | k + 1 => by
    have h := Mli_leafPlaces k
    exact fun outs t6 t7 t8 => MFi_leafPlaces_1003 k h outs t6 t7 t8
noncomputable def i_leafPlaces_1003 (outs : List Int) (t6 : List (Int × Int)) (t7 : Int) (t8 : Int) : Option (List (Int)) := lim fun k => (l83 k) outs t6 t7 t8
theorem Rli_leafPlaces_1003 (outs : List Int) (t6 : List (Int × Int)) (t7 : Int) (t8 : Int) : Lim (fun k => (l83 k) outs t6 t7 t8) (i_leafPlaces_1003 outs t6 t7 t8) := Lim.of_mono fun k => Mli_leafPlaces k outs t6 t7 t8
theorem Ei_leafPlaces_1003 (outs : List Int) (t6 : List (Int × Int)) (t7 : Int) (t8 : Int) : i_leafPlaces_1003 outs t6 t7 t8 =
  bif decide (t8 < t7) then
    bif boundA t8 (List.length t6) then
      bif !decide ((List.getD t6 (Int.toNat t8) (0, 0)).fst = 0) then
        bif decide ((List.length outs + List.length [t8]) * 8 ≤ 140737488355328) then
          i_leafPlaces_1003 (outs ++ [t8]) t6 t7 (IntKind.wrap IntKind.i64 (t8 + 1))
        else
          none
      else
        i_leafPlaces_1003 outs t6 t7 (IntKind.wrap IntKind.i64 (t8 + 1))
    else
      none
  else
    some outs := by
  refine Lim.uniq (Lim.shift (Rli_leafPlaces_1003 outs t6 t7 t8)) (?_ : Lim (fun k => F83_1003 k ((l83 k)) outs t6 t7 t8) _)
  unfold F83_1003
  repeat' first | with_reducible exact Lim.ret _ | with_reducible exact Rli_leafPlaces_1003 _ _ _ _ | with_reducible refine Lim.cond ?_ ?_ | with_reducible refine Lim.bind ?_ fun _ => ?_
noncomputable def i_leafPlaces (l : List (Int × Int)) : Option (List (Int)) :=
  i_leafPlaces_1003 ([]) l ((↑(List.length l) : Int)) (0)
theorem Mi_leafPlaces (k : Nat) (l : List (Int × Int)) : Le (f83 k l) (f83 (k + 1) l) := by
  have h := Mli_leafPlaces k
  unfold f83 F83
  repeat' first | with_reducible exact Le.rfl _ | with_reducible exact h _ _ _ _ | with_reducible refine Le.cond ?_ ?_ | with_reducible refine Le.bind ?_ fun _ => ?_
theorem Ri_leafPlaces (l : List (Int × Int)) : Lim (fun k => f83 k l) (i_leafPlaces l) := by
  unfold f83 F83 i_leafPlaces
  repeat' first | with_reducible exact Lim.ret _ | with_reducible exact Rli_leafPlaces_1003 _ _ _ _ | with_reducible refine Lim.cond ?_ ?_ | with_reducible refine Lim.bind ?_ fun _ => ?_

-- impl.reckoner).keep
noncomputable def i_reckoner_keep (r_ok : Bool) (a_N : Int) (a_K : Int) (ok : Bool) : Option ((Bool) × Int × Int) :=
  bif r_ok then
    bif !ok then
      some ((ok, 0, 0))
    else
      some ((ok, a_N, a_K))
  else
    some ((false, 0, 0))
theorem Mi_reckoner_keep (k : Nat) (r_ok : Bool) (a_N : Int) (a_K : Int) (ok : Bool) : Le (f85 k r_ok a_N a_K ok) (f85 (k + 1) r_ok a_N a_K ok) := by
  unfold f85
  repeat' first | with_reducible exact Le.rfl _ | with_reducible refine Le.cond ?_ ?_ | with_reducible refine Le.bind ?_ fun _ => ?_
theorem Ri_reckoner_keep (r_ok : Bool) (a_N : Int) (a_K : Int) (ok : Bool) : Lim (fun k => f85 k r_ok a_N a_K ok) (i_reckoner_keep r_ok a_N a_K ok) := by
  unfold f85 i_reckoner_keep
  repeat' first | with_reducible exact Lim.ret _ | with_reducible refine Lim.cond ?_ ?_ | with_reducible refine Lim.bind ?_ fun _ => ?_

-- cmp.Or[int]
theorem MFcmp_Or_int_1003 (k : Nat) {r1003 q1003 : Int → List Int → Int → Int → Option (Int)} (h1003 : ∀ (zero : Int) (t6 : List Int) (t7 : Int) (t8 : Int), Le (r1003 zero t6 t7 t8) (q1003 zero t6 t7 t8)) (zero : Int) (t6 : List Int) (t7 : Int) (t8 : Int) : Le (F115_1003 k r1003 zero t6 t7 t8) (F115_1003 (k + 1) q1003 zero t6 t7 t8) := by
  unfold F115_1003
  repeat' first | with_reducible exact Le.rfl _ | with_reducible exact h1003 _ _ _ _ | with_reducible refine Le.cond ?_ ?_ | with_reducible refine Le.bind ?_ fun _ => ?_
theorem Mlcmp_Or_int : ∀ k : Nat, ∀ (zero : Int) (t6 : List Int) (t7 : Int) (t8 : Int), Le ((l115 k) zero t6 t7 t8) ((l115 (k + 1)) zero t6 t7 t8)
  | 0 => fun zero t6 t7 t8 => Le.no _
  | k + 1 => by
    have h := Mlcmp_Or_int k
    exact fun zero t6 t7 t8 => MFcmp_Or_int_1003 k h zero t6 t7 t8
noncomputable def cmp_Or_int_1003 (zero : Int) (t6 : List Int) (t7 : Int) (t8 : Int) : Option (Int) := lim fun k => (l115 k) zero t6 t7 t8
theorem Rlcmp_Or_int_1003 (zero : Int) (t6 : List Int) (t7 : Int) (t8 : Int) : Lim (fun k => (l115 k) zero t6 t7 t8) (cmp_Or_int_1003 zero t6 t7 t8) := Lim.of_mono fun k => Mlcmp_Or_int k zero t6 t7 t8
theorem Ecmp_Or_int_1003 (zero : Int) (t6 : List Int) (t7 : Int) (t8 : Int) : cmp_Or_int_1003 zero t6 t7 t8 =
  bif decide (t8 < t7) then
    bif boundA t8 (List.length t6) then
      bif !decide (List.getD t6 (Int.toNat t8) 0 = zero) then
        some (List.getD t6 (Int.toNat t8) 0)
      else
        cmp_Or_int_1003 zero t6 t7 (IntKind.wrap IntKind.i64 (t8 + 1))
    else
      none
  else
    some zero := by
  refine Lim.uniq (Lim.shift (Rlcmp_Or_int_1003 zero t6 t7 t8)) (?_ : Lim (fun k => F115_1003 k ((l115 k)) zero t6 t7 t8) _)
  unfold F115_1003
  repeat' first | with_reducible exact Lim.ret _ | with_reducible exact Rlcmp_Or_int_1003 _ _ _ _ | with_reducible refine Lim.cond ?_ ?_ | with_reducible refine Lim.bind ?_ fun _ => ?_
noncomputable def cmp_Or_int (vals : List (Int)) : Option (Int) :=
  cmp_Or_int_1003 (0) vals ((↑(List.length vals) : Int)) (0)
theorem Mcmp_Or_int (k : Nat) (vals : List (Int)) : Le (f115 k vals) (f115 (k + 1) vals) := by
  have h := Mlcmp_Or_int k
  unfold f115 F115
  repeat' first | with_reducible exact Le.rfl _ | with_reducible exact h _ _ _ _ | with_reducible refine Le.cond ?_ ?_ | with_reducible refine Le.bind ?_ fun _ => ?_
theorem Rcmp_Or_int (vals : List (Int)) : Lim (fun k => f115 k vals) (cmp_Or_int vals) := by
  unfold f115 F115 cmp_Or_int
  repeat' first | with_reducible exact Lim.ret _ | with_reducible exact Rlcmp_Or_int_1003 _ _ _ _ | with_reducible refine Lim.cond ?_ ?_ | with_reducible refine Lim.bind ?_ fun _ => ?_

-- cmp.isNaN[uint64]
noncomputable def cmp_isNaN_uint64 (x : Int) : Option (Bool) :=
  some (!decide (x = x))
theorem Mcmp_isNaN_uint64 (k : Nat) (x : Int) : Le (f125 k x) (f125 (k + 1) x) := by
  unfold f125
  repeat' first | with_reducible exact Le.rfl _ | with_reducible refine Le.cond ?_ ?_ | with_reducible refine Le.bind ?_ fun _ => ?_
theorem Rcmp_isNaN_uint64 (x : Int) : Lim (fun k => f125 k x) (cmp_isNaN_uint64 x) := by
  unfold f125 cmp_isNaN_uint64
  repeat' first | with_reducible exact Lim.ret _ | with_reducible refine Lim.cond ?_ ?_ | with_reducible refine Lim.bind ?_ fun _ => ?_

-- cmp.Compare[uint64]
noncomputable def cmp_Compare_uint64 (x : Int) (y : Int) : Option (Int) :=
  bif !decide (x = x) then
    bif !decide (y = y) then
      some (0)
    else
      some (-1)
  else
    bif !decide (y = y) then
      some (1)
    else
      bif decide (x < y) then
        some (-1)
      else
        bif decide (y < x) then
          some (1)
        else
          some (0)
theorem Mcmp_Compare_uint64 (k : Nat) (x : Int) (y : Int) : Le (f116 k x y) (f116 (k + 1) x y) := by
  unfold f116
  repeat' first | with_reducible exact Le.rfl _ | with_reducible refine Le.cond ?_ ?_ | with_reducible refine Le.bind ?_ fun _ => ?_
theorem Rcmp_Compare_uint64 (x : Int) (y : Int) : Lim (fun k => f116 k x y) (cmp_Compare_uint64 x y) := by
  unfold f116 cmp_Compare_uint64
  repeat' first | with_reducible exact Lim.ret _ | with_reducible refine Lim.cond ?_ ?_ | with_reducible refine Lim.bind ?_ fun _ => ?_

-- impl.compareSizes
noncomputable def i_compareSizes (a_negative : Bool) (a_high : Int) (a_low : Int) (b_negative : Bool) (b_high : Int) (b_low : Int) : Option (Int) :=
  (cmp_Compare_uint64 a_high b_high).bind fun r0 =>
  (cmp_Compare_uint64 a_low b_low).bind fun r1 =>
  (cmp_Or_int [r0, r1]).bind fun r2 =>
  some r2
theorem Mi_compareSizes (k : Nat) (a_negative : Bool) (a_high : Int) (a_low : Int) (b_negative : Bool) (b_high : Int) (b_low : Int) : Le (f98 k a_negative a_high a_low b_negative b_high b_low) (f98 (k + 1) a_negative a_high a_low b_negative b_high b_low) := by
  unfold f98
  repeat' first | with_reducible exact Le.rfl _ | with_reducible exact Mcmp_Or_int _ _ | with_reducible exact Mcmp_Compare_uint64 _ _ _ | with_reducible refine Le.cond ?_ ?_ | with_reducible refine Le.bind ?_ fun _ => ?_
theorem Ri_compareSizes (a_negative : Bool) (a_high : Int) (a_low : Int) (b_negative : Bool) (b_high : Int) (b_low : Int) : Lim (fun k => f98 k a_negative a_high a_low b_negative b_high b_low) (i_compareSizes a_negative a_high a_low b_negative b_high b_low) := by
  unfold f98 i_compareSizes
  repeat' first | with_reducible exact Lim.ret _ | with_reducible exact Rcmp_Or_int _ | with_reducible exact Rcmp_Compare_uint64 _ _ | with_reducible refine Lim.cond ?_ ?_ | with_reducible refine Lim.bind ?_ fun _ => ?_

-- bits.Add64
noncomputable def bits_Add64 (x : Int) (y : Int) (carry : Int) : Option (Int × Int) :=
  add64 x y carry
theorem Mbits_Add64 (k : Nat) (x : Int) (y : Int) (carry : Int) : Le (f117 k x y carry) (f117 (k + 1) x y carry) := by
  unfold f117
  repeat' first | with_reducible exact Le.rfl _ | with_reducible refine Le.cond ?_ ?_ | with_reducible refine Le.bind ?_ fun _ => ?_
theorem Rbits_Add64 (x : Int) (y : Int) (carry : Int) : Lim (fun k => f117 k x y carry) (bits_Add64 x y carry) := by
  unfold f117 bits_Add64
  repeat' first | with_reducible exact Lim.ret _ | with_reducible refine Lim.cond ?_ ?_ | with_reducible refine Lim.bind ?_ fun _ => ?_

-- bits.Sub64
noncomputable def bits_Sub64 (x : Int) (y : Int) (carry : Int) : Option (Int × Int) :=
  sub64 x y carry
theorem Mbits_Sub64 (k : Nat) (x : Int) (y : Int) (carry : Int) : Le (f118 k x y carry) (f118 (k + 1) x y carry) := by
  unfold f118
  repeat' first | with_reducible exact Le.rfl _ | with_reducible refine Le.cond ?_ ?_ | with_reducible refine Le.bind ?_ fun _ => ?_
theorem Rbits_Sub64 (x : Int) (y : Int) (carry : Int) : Lim (fun k => f118 k x y carry) (bits_Sub64 x y carry) := by
  unfold f118 bits_Sub64
  repeat' first | with_reducible exact Lim.ret _ | with_reducible refine Lim.cond ?_ ?_ | with_reducible refine Lim.bind ?_ fun _ => ?_

-- impl.wide).add
theorem MFi_wide_add_7 (k : Nat) {r7 q7 : Bool → Int → Int → Bool → Int → Int → Bool → Int → Int → Option (Bool × Int × Int)} (h7 : ∀ (ss_0 : Bool) (ss_1 : Int) (ss_2 : Int) (ts_0 : Bool) (ts_1 : Int) (ts_2 : Int) (t4s_0 : Bool) (t4s_1 : Int) (t4s_2 : Int), Le (r7 ss_0 ss_1 ss_2 ts_0 ts_1 ts_2 t4s_0 t4s_1 t4s_2) (q7 ss_0 ss_1 ss_2 ts_0 ts_1 ts_2 t4s_0 t4s_1 t4s_2)) (ss_0 : Bool) (ss_1 : Int) (ss_2 : Int) (ts_0 : Bool) (ts_1 : Int) (ts_2 : Int) (t4s_0 : Bool) (t4s_1 : Int) (t4s_2 : Int) : Le (F99_7 k r7 ss_0 ss_1 ss_2 ts_0 ts_1 ts_2 t4s_0 t4s_1 t4s_2) (F99_7 (k + 1) q7 ss_0 ss_1 ss_2 ts_0 ts_1 ts_2 t4s_0 t4s_1 t4s_2) := by
  unfold F99_7
  repeat' first | with_reducible exact Le.rfl _ | with_reducible exact Mbits_Sub64 _ _ _ _ | with_reducible exact h7 _ _ _ _ _ _ _ _ _ | with_reducible refine Le.cond ?_ ?_ | with_reducible refine Le.bind ?_ fun _ => ?_
theorem Mli_wide_add : ∀ k : Nat, ∀ (ss_0 : Bool) (ss_1 : Int) (ss_2 : Int) (ts_0 : Bool) (ts_1 : Int) (ts_2 : Int) (t4s_0 : Bool) (t4s_1 : Int) (t4s_2 : Int), Le ((l99 k) ss_0 ss_1 ss_2 ts_0 ts_1 ts_2 t4s_0 t4s_1 t4s_2) ((l99 (k + 1)) ss_0 ss_1 ss_2 ts_0 ts_1 ts_2 t4s_0 t4s_1 t4s_2)
  | 0 => fun ss_0 ss_1 ss_2 ts_0 ts_1 ts_2 t4s_0 t4s_1 t4s_2 => Le.no _
  | k + 1 => by
    have h := Mli_wide_add k
    exact fun ss_0 ss_1 ss_2 ts_0 ts_1 ts_2 t4s_0 t4s_1 t4s_2 => MFi_wide_add_7 k h ss_0 ss_1 ss_2 ts_0 ts_1 ts_2 t4s_0 t4s_1 t4s_2
noncomputable def i_wide_add_7 (ss_0 : Bool) (ss_1 : Int) (ss_2 : Int) (ts_0 : Bool) (ts_1 : Int) (ts_2 : Int) (t4s_0 : Bool) (t4s_1 : Int) (t4s_2 : Int) : Option (Bool × Int × Int) := lim fun k => (l99 k) ss_0 ss_1 ss_2 ts_0 ts_1 ts_2 t4s_0 t4s_1 t4s_2
theorem Rli_wide_add_7 (ss_0 : Bool) (ss_1 : Int) (ss_2 : Int) (ts_0 : Bool) (ts_1 : Int) (ts_2 : Int) (t4s_0 : Bool) (t4s_1 : Int) (t4s_2 : Int) : Lim (fun k => (l99 k) ss_0 ss_1 ss_2 ts_0 ts_1 ts_2 t4s_0 t4s_1 t4s_2) (i_wide_add_7 ss_0 ss_1 ss_2 ts_0 ts_1 ts_2 t4s_0 t4s_1 t4s_2) := Lim.of_mono fun k => Mli_wide_add k ss_0 ss_1 ss_2 ts_0 ts_1 ts_2 t4s_0 t4s_1 t4s_2
theorem Ei_wide_add_7 (ss_0 : Bool) (ss_1 : Int) (ss_2 : Int) (ts_0 : Bool) (ts_1 : Int) (ts_2 : Int) (t4s_0 : Bool) (t4s_1 : Int) (t4s_2 : Int) : i_wide_add_7 ss_0 ss_1 ss_2 ts_0 ts_1 ts_2 t4s_0 t4s_1 t4s_2 =
  (bits_Sub64 ss_2 ts_2 0).bind fun r0 =>
  (bits_Sub64 ss_1 ts_1 r0.snd).bind fun r1 =>
  some ((ss_0, r1.fst, r0.fst)) := by
  refine Lim.uniq (Lim.shift (Rli_wide_add_7 ss_0 ss_1 ss_2 ts_0 ts_1 ts_2 t4s_0 t4s_1 t4s_2)) (?_ : Lim (fun k => F99_7 k ((l99 k)) ss_0 ss_1 ss_2 ts_0 ts_1 ts_2 t4s_0 t4s_1 t4s_2) _)
  unfold F99_7
  repeat' first | with_reducible exact Lim.ret _ | with_reducible exact Rbits_Sub64 _ _ _ | with_reducible exact Rli_wide_add_7 _ _ _ _ _ _ _ _ _ | with_reducible refine Lim.cond ?_ ?_ | with_reducible refine Lim.bind ?_ fun _ => ?_
noncomputable def i_wide_add (L_negative : Bool) (L_high : Int) (L_low : Int) (i_negative : Bool) (i_high : Int) (i_low : Int) : Option (Bool × Int × Int) :=
  bif L_negative == i_negative then
    (bits_Add64 L_low i_low 0).bind fun r0 =>
    (bits_Add64 L_high i_high r0.snd).bind fun r1 =>
    some ((L_negative, r1.fst, r0.fst))
  else
    (i_compareSizes L_negative L_high L_low i_negative i_high i_low).bind fun r2 =>
    bif decide (r2 < 0) then
      i_wide_add_7 i_negative i_high i_low L_negative L_high L_low false (0) (0)
    else
      i_wide_add_7 L_negative L_high L_low i_negative i_high i_low false (0) (0)
theorem Mi_wide_add (k : Nat) (L_negative : Bool) (L_high : Int) (L_low : Int) (i_negative : Bool) (i_high : Int) (i_low : Int) : Le (f99 k L_negative L_high L_low i_negative i_high i_low) (f99 (k + 1) L_negative L_high L_low i_negative i_high i_low) := by
  have h := Mli_wide_add k
  unfold f99 F99
  repeat' first | with_reducible exact Le.rfl _ | with_reducible exact Mbits_Add64 _ _ _ _ | with_reducible exact Mi_compareSizes _ _ _ _ _ _ _ | with_reducible exact h _ _ _ _ _ _ _ _ _ | with_reducible refine Le.cond ?_ ?_ | with_reducible refine Le.bind ?_ fun _ => ?_
theorem Ri_wide_add (L_negative : Bool) (L_high : Int) (L_low : Int) (i_negative : Bool) (i_high : Int) (i_low : Int) : Lim (fun k => f99 k L_negative L_high L_low i_negative i_high i_low) (i_wide_add L_negative L_high L_low i_negative i_high i_low) := by
  unfold f99 F99 i_wide_add
  repeat' first | with_reducible exact Lim.ret _ | with_reducible exact Rbits_Add64 _ _ _ | with_reducible exact Ri_compareSizes _ _ _ _ _ _ | with_reducible exact Rli_wide_add_7 _ _ _ _ _ _ _ _ _ | with_reducible refine Lim.cond ?_ ?_ | with_reducible refine Lim.bind ?_ fun _ => ?_

-- impl.sumOf
noncomputable def i_sumOf (a_N : Int) (a_K : Int) (b_N : Int) (b_K : Int) : Option ((Int × Int) × Bool) :=
  (i_wideOf a_N).bind fun r0 =>
  (i_wide_shift r0.fst r0.snd.fst r0.snd.snd (IntKind.wrap IntKind.i64 ((bif decide (a_K < b_K) then b_K else a_K) - a_K))).bind fun r1 =>
  (i_wideOf b_N).bind fun r2 =>
  (i_wide_shift r2.fst r2.snd.fst r2.snd.snd (IntKind.wrap IntKind.i64 ((bif decide (a_K < b_K) then b_K else a_K) - b_K))).bind fun r3 =>
  (i_wide_add r1.fst r1.snd.fst r1.snd.snd r3.fst r3.snd.fst r3.snd.snd).bind fun r4 =>
  (i_wide_fit r4.fst r4.snd.fst r4.snd.snd (bif decide (a_K < b_K) then b_K else a_K)).bind fun r5 =>
  some (((r5.fst.fst, r5.fst.snd), r5.snd))
theorem Mi_sumOf (k : Nat) (a_N : Int) (a_K : Int) (b_N : Int) (b_K : Int) : Le (f112 k a_N a_K b_N b_K) (f112 (k + 1) a_N a_K b_N b_K) := by
  unfold f112
  repeat' first | with_reducible exact Le.rfl _ | with_reducible exact Mi_wideOf _ _ | with_reducible exact Mi_wide_shift _ _ _ _ _ | with_reducible exact Mi_wide_fit _ _ _ _ _ | with_reducible exact Mi_wide_add _ _ _ _ _ _ _ | with_reducible refine Le.cond ?_ ?_ | with_reducible refine Le.bind ?_ fun _ => ?_
theorem Ri_sumOf (a_N : Int) (a_K : Int) (b_N : Int) (b_K : Int) : Lim (fun k => f112 k a_N a_K b_N b_K) (i_sumOf a_N a_K b_N b_K) := by
  unfold f112 i_sumOf
  repeat' first | with_reducible exact Lim.ret _ | with_reducible exact Ri_wideOf _ | with_reducible exact Ri_wide_shift _ _ _ _ | with_reducible exact Ri_wide_fit _ _ _ _ | with_reducible exact Ri_wide_add _ _ _ _ _ _ | with_reducible refine Lim.cond ?_ ?_ | with_reducible refine Lim.bind ?_ fun _ => ?_

-- impl.reckoner).sum
noncomputable def i_reckoner_sum (r_ok : Bool) (a_N : Int) (a_K : Int) (b_N : Int) (b_K : Int) : Option ((Bool) × Int × Int) :=
  (i_sumOf a_N a_K b_N b_K).bind fun r0 =>
  (i_reckoner_keep r_ok r0.fst.fst r0.fst.snd r0.snd).bind fun r1 =>
  some ((r1.fst, r1.snd.fst, r1.snd.snd))
theorem Mi_reckoner_sum (k : Nat) (r_ok : Bool) (a_N : Int) (a_K : Int) (b_N : Int) (b_K : Int) : Le (f84 k r_ok a_N a_K b_N b_K) (f84 (k + 1) r_ok a_N a_K b_N b_K) := by
  unfold f84
  repeat' first | with_reducible exact Le.rfl _ | with_reducible exact Mi_sumOf _ _ _ _ _ | with_reducible exact Mi_reckoner_keep _ _ _ _ _ | with_reducible refine Le.cond ?_ ?_ | with_reducible refine Le.bind ?_ fun _ => ?_
theorem Ri_reckoner_sum (r_ok : Bool) (a_N : Int) (a_K : Int) (b_N : Int) (b_K : Int) : Lim (fun k => f84 k r_ok a_N a_K b_N b_K) (i_reckoner_sum r_ok a_N a_K b_N b_K) := by
  unfold f84 i_reckoner_sum
  repeat' first | with_reducible exact Lim.ret _ | with_reducible exact Ri_sumOf _ _ _ _ | with_reducible exact Ri_reckoner_keep _ _ _ _ | with_reducible refine Lim.cond ?_ ?_ | with_reducible refine Lim.bind ?_ fun _ => ?_

-- impl.kindVolumes
theorem MFi_kindVolumes_1007 (k : Nat) {r1007 q1007 : List (Int × Int) → List (Int × List Int × List Int) → Bool → List (Int × Int) → List Int → Int → Int → Option ((List (Int × Int)) × Bool)} (h1007 : ∀ (l : List (Int × Int)) (boxess : List (Int × List Int × List Int)) (rs_0 : Bool) (outs : List (Int × Int)) (t25s : List Int) (t26 : Int) (t27 : Int), Le (r1007 l boxess rs_0 outs t25s t26 t27) (q1007 l boxess rs_0 outs t25s t26 t27)) (l : List (Int × Int)) (boxess : List (Int × List Int × List Int)) (rs_0 : Bool) (outs : List (Int × Int)) (t25s : List Int) (t26 : Int) (t27 : Int) : Le (F51_1007 k r1007 l boxess rs_0 outs t25s t26 t27) (F51_1007 (k + 1) q1007 l boxess rs_0 outs t25s t26 t27) := by
  unfold F51_1007
  repeat' first | with_reducible exact Le.rfl _ | with_reducible exact Mi_Box_volume _ _ | with_reducible exact Mi_reckoner_sum _ _ _ _ _ _ | with_reducible exact Mi_reckoner_keep _ _ _ _ _ | with_reducible exact h1007 _ _ _ _ _ _ _ | with_reducible refine Le.cond ?_ ?_ | with_reducible refine Le.bind ?_ fun _ => ?_
theorem Mli_kindVolumes : ∀ k : Nat, ∀ (l : List (Int × Int)) (boxess : List (Int × List Int × List Int)) (rs_0 : Bool) (outs : List (Int × Int)) (t25s : List Int) (t26 : Int) (t27 : Int), Le ((l51 k) l boxess rs_0 outs t25s t26 t27) ((l51 (k + 1)) l boxess rs_0 outs t25s t26 t27)
  | 0 => fun l boxess rs_0 outs t25s t26 t27 => Le.no _
  | k + 1 => by
    have h := Mli_kindVolumes k
    exact fun l boxess rs_0 outs t25s t26 t27 => MFi_kindVolumes_1007 k h l boxess rs_0 outs t25s t26 t27
noncomputable def i_kindVolumes_1007 (l : List (Int × Int)) (boxess : List (Int × List Int × List Int)) (rs_0 : Bool) (outs : List (Int × Int)) (t25s : List Int) (t26 : Int) (t27 : Int) : Option ((List (Int × Int)) × Bool) := lim fun k => (l51 k) l boxess rs_0 outs t25s t26 t27
theorem Rli_kindVolumes_1007 (l : List (Int × Int)) (boxess : List (Int × List Int × List Int)) (rs_0 : Bool) (outs : List (Int × Int)) (t25s : List Int) (t26 : Int) (t27 : Int) : Lim (fun k => (l51 k) l boxess rs_0 outs t25s t26 t27) (i_kindVolumes_1007 l boxess rs_0 outs t25s t26 t27) := Lim.of_mono fun k => Mli_kindVolumes k l boxess rs_0 outs t25s t26 t27
theorem Ei_kindVolumes_1007 (l : List (Int × Int)) (boxess : List (Int × List Int × List Int)) (rs_0 : Bool) (outs : List (Int × Int)) (t25s : List Int) (t26 : Int) (t27 : Int) : i_kindVolumes_1007 l boxess rs_0 outs t25s t26 t27 =
  bif decide (t27 < t26) then
    bif boundA t27 (List.length t25s) then
      bif Nat.blt (Int.toNat t27) (List.length t25s) then
        bif boundA (List.getD t25s (Int.toNat t27) 0) (List.length l) then
          bif boundA (IntKind.wrap IntKind.i64 ((List.getD l (Int.toNat (List.getD t25s (Int.toNat t27) 0)) (0, 0)).fst - 1)) (List.length outs) then
            bif Nat.blt (Int.toNat (IntKind.wrap IntKind.i64 ((List.getD l (Int.toNat (List.getD t25s (Int.toNat t27) 0)) (0, 0)).fst - 1))) (List.length outs) then
              bif boundA t27 (List.length boxess) then
                bif Nat.blt (Int.toNat t27) (List.length boxess) then
                  (i_Box_volume (List.getD boxess (Int.toNat t27) (0, [], []))).bind fun r0 =>
                  (i_reckoner_keep rs_0 r0.fst.fst r0.fst.snd r0.snd).bind fun r1 =>
                  (i_reckoner_sum r1.fst (List.getD outs (Int.toNat (IntKind.wrap IntKind.i64 ((List.getD l (Int.toNat (List.getD t25s (Int.toNat t27) 0)) (0, 0)).fst - 1))) (0, 0)).fst (List.getD outs (Int.toNat (IntKind.wrap IntKind.i64 ((List.getD l (Int.toNat (List.getD t25s (Int.toNat t27) 0)) (0, 0)).fst - 1))) (0, 0)).snd r1.snd.fst r1.snd.snd).bind fun r2 =>
                  bif boundA (IntKind.wrap IntKind.i64 ((List.getD l (Int.toNat (List.getD t25s (Int.toNat t27) 0)) (0, 0)).fst - 1)) (List.length outs) then
                    bif Nat.blt (Int.toNat (IntKind.wrap IntKind.i64 ((List.getD l (Int.toNat (List.getD t25s (Int.toNat t27) 0)) (0, 0)).fst - 1))) (List.length outs) then
                      i_kindVolumes_1007 l boxess (r2.fst) (List.set outs (Int.toNat (IntKind.wrap IntKind.i64 ((List.getD l (Int.toNat (List.getD t25s (Int.toNat t27) 0)) (0, 0)).fst - 1))) (r2.snd.fst, r2.snd.snd)) t25s t26 (IntKind.wrap IntKind.i64 (t27 + 1))
                    else
                      none
                  else
                    none
                else
                  none
              else
                none
            else
              none
          else
            none
        else
          none
      else
        none
    else
      none
  else
    bif !rs_0 then
      some (([], false))
    else
      some ((outs, true)) := by
  refine Lim.uniq (Lim.shift (Rli_kindVolumes_1007 l boxess rs_0 outs t25s t26 t27)) (?_ : Lim (fun k => F51_1007 k ((l51 k)) l boxess rs_0 outs t25s t26 t27) _)
  unfold F51_1007
  repeat' first | with_reducible exact Lim.ret _ | with_reducible exact Ri_Box_volume _ | with_reducible exact Ri_reckoner_sum _ _ _ _ _ | with_reducible exact Ri_reckoner_keep _ _ _ _ | with_reducible exact Rli_kindVolumes_1007 _ _ _ _ _ _ _ | with_reducible refine Lim.cond ?_ ?_ | with_reducible refine Lim.bind ?_ fun _ => ?_
noncomputable def i_kindVolumes (b : Int × (List (Int)) × List (Int)) (l : List (Int × Int)) : Option ((List (Int × Int)) × Bool) :=
  (i_leafBoxes b l).bind fun r0 =>
  bif !r0.snd then
    some (([], false))
  else
    (i_leafPlaces l).bind fun r1 =>
    i_kindVolumes_1007 l (r0.fst) true (List.replicate (Int.toNat 3) (dflt (Ty.pair (Ty.int IntKind.i64) (Ty.int IntKind.i64)))) r1 ((↑(List.length r1) : Int)) (0)
theorem Mi_kindVolumes (k : Nat) (b : Int × (List (Int)) × List (Int)) (l : List (Int × Int)) : Le (f51 k b l) (f51 (k + 1) b l) := by
  have h := Mli_kindVolumes k
  unfold f51 F51
  repeat' first | with_reducible exact Le.rfl _ | with_reducible exact Mi_leafBoxes _ _ _ | with_reducible exact Mi_leafPlaces _ _ | with_reducible exact h _ _ _ _ _ _ _ | with_reducible refine Le.cond ?_ ?_ | with_reducible refine Le.bind ?_ fun _ => ?_
theorem Ri_kindVolumes (b : Int × (List (Int)) × List (Int)) (l : List (Int × Int)) : Lim (fun k => f51 k b l) (i_kindVolumes b l) := by
  unfold f51 F51 i_kindVolumes
  repeat' first | with_reducible exact Lim.ret _ | with_reducible exact Ri_leafBoxes _ _ | with_reducible exact Ri_leafPlaces _ | with_reducible exact Rli_kindVolumes_1007 _ _ _ _ _ _ _ | with_reducible refine Lim.cond ?_ ?_ | with_reducible refine Lim.bind ?_ fun _ => ?_

-- impl.compareWide
noncomputable def i_compareWide (a_negative : Bool) (a_high : Int) (a_low : Int) (b_negative : Bool) (b_high : Int) (b_low : Int) : Option (Int) :=
  (i_wide_isZero a_negative a_high a_low).bind fun r0 =>
  bif r0 then
    (i_wide_isZero b_negative b_high b_low).bind fun r1 =>
    bif r1 then
      some (0)
    else
      bif !a_negative == b_negative then
        bif a_negative then
          some (-1)
        else
          some (1)
      else
        bif a_negative then
          (i_compareSizes b_negative b_high b_low a_negative a_high a_low).bind fun r2 =>
          some r2
        else
          (i_compareSizes a_negative a_high a_low b_negative b_high b_low).bind fun r3 =>
          some r3
  else
    bif !a_negative == b_negative then
      bif a_negative then
        some (-1)
      else
        some (1)
    else
      bif a_negative then
        (i_compareSizes b_negative b_high b_low a_negative a_high a_low).bind fun r4 =>
        some r4
      else
        (i_compareSizes a_negative a_high a_low b_negative b_high b_low).bind fun r5 =>
        some r5
theorem Mi_compareWide (k : Nat) (a_negative : Bool) (a_high : Int) (a_low : Int) (b_negative : Bool) (b_high : Int) (b_low : Int) : Le (f86 k a_negative a_high a_low b_negative b_high b_low) (f86 (k + 1) a_negative a_high a_low b_negative b_high b_low) := by
  unfold f86
  repeat' first | with_reducible exact Le.rfl _ | with_reducible exact Mi_wide_isZero _ _ _ _ | with_reducible exact Mi_compareSizes _ _ _ _ _ _ _ | with_reducible refine Le.cond ?_ ?_ | with_reducible refine Le.bind ?_ fun _ => ?_
theorem Ri_compareWide (a_negative : Bool) (a_high : Int) (a_low : Int) (b_negative : Bool) (b_high : Int) (b_low : Int) : Lim (fun k => f86 k a_negative a_high a_low b_negative b_high b_low) (i_compareWide a_negative a_high a_low b_negative b_high b_low) := by
  unfold f86 i_compareWide
  repeat' first | with_reducible exact Lim.ret _ | with_reducible exact Ri_wide_isZero _ _ _ | with_reducible exact Ri_compareSizes _ _ _ _ _ _ | with_reducible refine Lim.cond ?_ ?_ | with_reducible refine Lim.bind ?_ fun _ => ?_

-- impl.compareD
noncomputable def i_compareD (a_N : Int) (a_K : Int) (b_N : Int) (b_K : Int) : Option (Int) :=
  (i_wideOf a_N).bind fun r0 =>
  (i_wide_shift r0.fst r0.snd.fst r0.snd.snd (IntKind.wrap IntKind.i64 ((bif decide (a_K < b_K) then b_K else a_K) - a_K))).bind fun r1 =>
  (i_wideOf b_N).bind fun r2 =>
  (i_wide_shift r2.fst r2.snd.fst r2.snd.snd (IntKind.wrap IntKind.i64 ((bif decide (a_K < b_K) then b_K else a_K) - b_K))).bind fun r3 =>
  (i_compareWide r1.fst r1.snd.fst r1.snd.snd r3.fst r3.snd.fst r3.snd.snd).bind fun r4 =>
  some r4
theorem Mi_compareD (k : Nat) (a_N : Int) (a_K : Int) (b_N : Int) (b_K : Int) : Le (f52 k a_N a_K b_N b_K) (f52 (k + 1) a_N a_K b_N b_K) := by
  unfold f52
  repeat' first | with_reducible exact Le.rfl _ | with_reducible exact Mi_compareWide _ _ _ _ _ _ _ | with_reducible exact Mi_wideOf _ _ | with_reducible exact Mi_wide_shift _ _ _ _ _ | with_reducible refine Le.cond ?_ ?_ | with_reducible refine Le.bind ?_ fun _ => ?_
theorem Ri_compareD (a_N : Int) (a_K : Int) (b_N : Int) (b_K : Int) : Lim (fun k => f52 k a_N a_K b_N b_K) (i_compareD a_N a_K b_N b_K) := by
  unfold f52 i_compareD
  repeat' first | with_reducible exact Lim.ret _ | with_reducible exact Ri_compareWide _ _ _ _ _ _ | with_reducible exact Ri_wideOf _ | with_reducible exact Ri_wide_shift _ _ _ _ | with_reducible refine Lim.cond ?_ ?_ | with_reducible refine Lim.bind ?_ fun _ => ?_

end Go.Proofs.YtkahcjnkmbbplaaE
