/- Functions without a count of rounds; printed. -/
import Derived.Test.YtbaeikcfchiiaaaE24
import Derived.Test.YtbaeikcfchiiaaaFD6
set_option maxRecDepth 100000
set_option maxHeartbeats 4000000
set_option linter.unusedVariables false
namespace Go.Proofs.YtbaeikcfchiiaaaE
-- laws.szIntS
noncomputable def w_szIntS (a : List (Int)) (left : Int) : Option (Int) :=
  bif decide (IntKind.wrap IntKind.i64 (left - (↑(List.length a) : Int)) < 0) then
    some (-1)
  else
    some (IntKind.wrap IntKind.i64 (left - (↑(List.length a) : Int)))
theorem Mw_szIntS (k : Nat) (a : List (Int)) (left : Int) : Le (f95 k a left) (f95 (k + 1) a left) := by
  unfold f95
  repeat' first | with_reducible exact Le.rfl _ | with_reducible refine Le.cond ?_ ?_ | with_reducible refine Le.bind ?_ fun _ => ?_
theorem Rw_szIntS (a : List (Int)) (left : Int) : Lim (fun k => f95 k a left) (w_szIntS a left) := by
  unfold f95 w_szIntS
  repeat' first | with_reducible exact Lim.ret _ | with_reducible refine Lim.cond ?_ ?_ | with_reducible refine Lim.bind ?_ fun _ => ?_

-- laws.szBox
noncomputable def w_szBox (a_K : Int) (a_Low : List (Int)) (a_High : List (Int)) (left : Int) : Option (Int) :=
  (w_szIntS a_Low left).bind fun r0 =>
  bif decide (r0 < 0) then
    some (-1)
  else
    (w_szIntS a_High r0).bind fun r1 =>
    bif decide (r1 < 0) then
      some (-1)
    else
      some r1
theorem Mw_szBox (k : Nat) (a_K : Int) (a_Low : List (Int)) (a_High : List (Int)) (left : Int) : Le (f34 k a_K a_Low a_High left) (f34 (k + 1) a_K a_Low a_High left) := by
  unfold f34
  repeat' first | with_reducible exact Le.rfl _ | with_reducible exact Mw_szIntS _ _ _ | with_reducible refine Le.cond ?_ ?_ | with_reducible refine Le.bind ?_ fun _ => ?_
theorem Rw_szBox (a_K : Int) (a_Low : List (Int)) (a_High : List (Int)) (left : Int) : Lim (fun k => f34 k a_K a_Low a_High left) (w_szBox a_K a_Low a_High left) := by
  unfold f34 w_szBox
  repeat' first | with_reducible exact Lim.ret _ | with_reducible exact Rw_szIntS _ _ | with_reducible refine Lim.cond ?_ ?_ | with_reducible refine Lim.bind ?_ fun _ => ?_

-- laws.szTermS
noncomputable def w_szTermS (a : List (Int × Int × Int × Int)) (left : Int) : Option (Int) :=
  bif decide (IntKind.wrap IntKind.i64 (left - (↑(List.length a) : Int)) < 0) then
    some (-1)
  else
    some (IntKind.wrap IntKind.i64 (left - (↑(List.length a) : Int)))
theorem Mw_szTermS (k : Nat) (a : List (Int × Int × Int × Int)) (left : Int) : Le (f205 k a left) (f205 (k + 1) a left) := by
  unfold f205
  repeat' first | with_reducible exact Le.rfl _ | with_reducible refine Le.cond ?_ ?_ | with_reducible refine Le.bind ?_ fun _ => ?_
theorem Rw_szTermS (a : List (Int × Int × Int × Int)) (left : Int) : Lim (fun k => f205 k a left) (w_szTermS a left) := by
  unfold f205 w_szTermS
  repeat' first | with_reducible exact Lim.ret _ | with_reducible refine Lim.cond ?_ ?_ | with_reducible refine Lim.bind ?_ fun _ => ?_

-- laws.szTermSS
theorem MFw_szTermSS_1005 (k : Nat) {r1005 q1005 : List (List (Int × Int × Int × Int)) → Int → Int → Option (Int)} (h1005 : ∀ (a : List (List (Int × Int × Int × Int))) (left : Int) (i : Int), Le (r1005 a left i) (q1005 a left i)) (a : List (List (Int × Int × Int × Int))) (left : Int) (i : Int) : Le (F139_1005 k r1005 a left i) (F139_1005 (k + 1) q1005 a left i) := by
  unfold F139_1005
  repeat' first | with_reducible exact Le.rfl _ | with_reducible exact Mw_szTermS _ _ _ | with_reducible exact h1005 _ _ _ | with_reducible refine Le.cond ?_ ?_ | with_reducible refine Le.bind ?_ fun _ => ?_
theorem Mlw_szTermSS : ∀ k : Nat, ∀ (a : List (List (Int × Int × Int × Int))) (left : Int) (i : Int), Le ((l139 k) a left i) ((l139 (k + 1)) a left i)
  | 0 => fun a left i => Le.no _
  | k + 1 => by
    have h := Mlw_szTermSS k
    exact fun a left i => MFw_szTermSS_1005 k h a left i
noncomputable def w_szTermSS_1005 (a : List (List (Int × Int × Int × Int))) (left : Int) (i : Int) : Option (Int) := lim fun k => (l139 k) a left i
theorem Rlw_szTermSS_1005 (a : List (List (Int × Int × Int × Int))) (left : Int) (i : Int) : Lim (fun k => (l139 k) a left i) (w_szTermSS_1005 a left i) := Lim.of_mono fun k => Mlw_szTermSS k a left i
theorem Ew_szTermSS_1005 (a : List (List (Int × Int × Int × Int))) (left : Int) (i : Int) : w_szTermSS_1005 a left i =
  bif decide (i < (↑(List.length a) : Int)) then
    bif boundA i (List.length a) then
      (w_szTermS (List.getD a (Int.toNat i) []) left).bind fun r0 =>
      bif decide (r0 < 0) then
        some (-1)
      else
        w_szTermSS_1005 a r0 (IntKind.wrap IntKind.i64 (i + 1))
    else
      none
  else
    some left := by
  refine Lim.uniq (Lim.shift (Rlw_szTermSS_1005 a left i)) (?_ : Lim (fun k => F139_1005 k ((l139 k)) a left i) _)
  unfold F139_1005
  repeat' first | with_reducible exact Lim.ret _ | with_reducible exact Rw_szTermS _ _ | with_reducible exact Rlw_szTermSS_1005 _ _ _ | with_reducible refine Lim.cond ?_ ?_ | with_reducible refine Lim.bind ?_ fun _ => ?_
noncomputable def w_szTermSS (a : List (List (Int × Int × Int × Int))) (left : Int) : Option (Int) :=
  bif decide (IntKind.wrap IntKind.i64 (left - (↑(List.length a) : Int)) < 0) then
    some (-1)
  else
    w_szTermSS_1005 a (IntKind.wrap IntKind.i64 (left - (↑(List.length a) : Int))) (0)
theorem Mw_szTermSS (k : Nat) (a : List (List (Int × Int × Int × Int))) (left : Int) : Le (f139 k a left) (f139 (k + 1) a left) := by
  have h := Mlw_szTermSS k
  unfold f139 F139
  repeat' first | with_reducible exact Le.rfl _ | with_reducible exact h _ _ _ | with_reducible refine Le.cond ?_ ?_ | with_reducible refine Le.bind ?_ fun _ => ?_
theorem Rw_szTermSS (a : List (List (Int × Int × Int × Int))) (left : Int) : Lim (fun k => f139 k a left) (w_szTermSS a left) := by
  unfold f139 F139 w_szTermSS
  repeat' first | with_reducible exact Lim.ret _ | with_reducible exact Rlw_szTermSS_1005 _ _ _ | with_reducible refine Lim.cond ?_ ?_ | with_reducible refine Lim.bind ?_ fun _ => ?_

-- laws.szEntry
noncomputable def w_szEntry (a_Name : ByteArray) (a_System : List (List (Int × Int × Int × Int))) (a_Box_K : Int) (a_Box_Low : List (Int)) (a_Box_High : List (Int)) (a_Least : Int) (a_Most : Int) (a_Version : Int) (left : Int) : Option (Int) :=
  bif decide (IntKind.wrap IntKind.i64 (left - (↑(ByteArray.size a_Name) : Int)) < 0) then
    some (-1)
  else
    (w_szTermSS a_System (IntKind.wrap IntKind.i64 (left - (↑(ByteArray.size a_Name) : Int)))).bind fun r0 =>
    bif decide (r0 < 0) then
      some (-1)
    else
      (w_szBox a_Box_K a_Box_Low a_Box_High r0).bind fun r1 =>
      bif decide (r1 < 0) then
        some (-1)
      else
        some r1
theorem Mw_szEntry (k : Nat) (a_Name : ByteArray) (a_System : List (List (Int × Int × Int × Int))) (a_Box_K : Int) (a_Box_Low : List (Int)) (a_Box_High : List (Int)) (a_Least : Int) (a_Most : Int) (a_Version : Int) (left : Int) : Le (f82 k a_Name a_System a_Box_K a_Box_Low a_Box_High a_Least a_Most a_Version left) (f82 (k + 1) a_Name a_System a_Box_K a_Box_Low a_Box_High a_Least a_Most a_Version left) := by
  unfold f82
  repeat' first | with_reducible exact Le.rfl _ | with_reducible exact Mw_szTermSS _ _ _ | with_reducible exact Mw_szBox _ _ _ _ _ | with_reducible refine Le.cond ?_ ?_ | with_reducible refine Le.bind ?_ fun _ => ?_
theorem Rw_szEntry (a_Name : ByteArray) (a_System : List (List (Int × Int × Int × Int))) (a_Box_K : Int) (a_Box_Low : List (Int)) (a_Box_High : List (Int)) (a_Least : Int) (a_Most : Int) (a_Version : Int) (left : Int) : Lim (fun k => f82 k a_Name a_System a_Box_K a_Box_Low a_Box_High a_Least a_Most a_Version left) (w_szEntry a_Name a_System a_Box_K a_Box_Low a_Box_High a_Least a_Most a_Version left) := by
  unfold f82 w_szEntry
  repeat' first | with_reducible exact Lim.ret _ | with_reducible exact Rw_szTermSS _ _ | with_reducible exact Rw_szBox _ _ _ _ | with_reducible refine Lim.cond ?_ ?_ | with_reducible refine Lim.bind ?_ fun _ => ?_

-- laws.szEntryS
theorem MFw_szEntryS_1005 (k : Nat) {r1005 q1005 : List (ByteArray × List (List (Int × Int × Int × Int)) × (Int × List Int × List Int) × Int × Int × Int) → Int → Int → Option (Int)} (h1005 : ∀ (a : List (ByteArray × List (List (Int × Int × Int × Int)) × (Int × List Int × List Int) × Int × Int × Int)) (left : Int) (i : Int), Le (r1005 a left i) (q1005 a left i)) (a : List (ByteArray × List (List (Int × Int × Int × Int)) × (Int × List Int × List Int) × Int × Int × Int)) (left : Int) (i : Int) : Le (F22_1005 k r1005 a left i) (F22_1005 (k + 1) q1005 a left i) := by
  unfold F22_1005
  repeat' first | with_reducible exact Le.rfl _ | with_reducible exact Mw_szEntry _ _ _ _ _ _ _ _ _ _ | with_reducible exact h1005 _ _ _ | with_reducible refine Le.cond ?_ ?_ | with_reducible refine Le.bind ?_ fun _ => ?_
theorem Mlw_szEntryS : ∀ k : Nat, ∀ (a : List (ByteArray × List (List (Int × Int × Int × Int)) × (Int × List Int × List Int) × Int × Int × Int)) (left : Int) (i : Int), Le ((l22 k) a left i) ((l22 (k + 1)) a left i)
  | 0 => fun a left i => Le.no _
  | k + 1 => by
    have h := Mlw_szEntryS k
    exact fun a left i => MFw_szEntryS_1005 k h a left i
noncomputable def w_szEntryS_1005 (a : List (ByteArray × List (List (Int × Int × Int × Int)) × (Int × List Int × List Int) × Int × Int × Int)) (left : Int) (i : Int) : Option (Int) := lim fun k => (l22 k) a left i
theorem Rlw_szEntryS_1005 (a : List (ByteArray × List (List (Int × Int × Int × Int)) × (Int × List Int × List Int) × Int × Int × Int)) (left : Int) (i : Int) : Lim (fun k => (l22 k) a left i) (w_szEntryS_1005 a left i) := Lim.of_mono fun k => Mlw_szEntryS k a left i
theorem Ew_szEntryS_1005 (a : List (ByteArray × List (List (Int × Int × Int × Int)) × (Int × List Int × List Int) × Int × Int × Int)) (left : Int) (i : Int) : w_szEntryS_1005 a left i =
  bif decide (i < (↑(List.length a) : Int)) then
    bif boundA i (List.length a) then
      (w_szEntry (List.getD a (Int.toNat i) (ByteArray.empty, [], (0, [], []), 0, 0, 0)).fst (List.getD a (Int.toNat i) (ByteArray.empty, [], (0, [], []), 0, 0, 0)).snd.fst (List.getD a (Int.toNat i) (ByteArray.empty, [], (0, [], []), 0, 0, 0)).snd.snd.fst.fst (List.getD a (Int.toNat i) (ByteArray.empty, [], (0, [], []), 0, 0, 0)).snd.snd.fst.snd.fst (List.getD a (Int.toNat i) (ByteArray.empty, [], (0, [], []), 0, 0, 0)).snd.snd.fst.snd.snd (List.getD a (Int.toNat i) (ByteArray.empty, [], (0, [], []), 0, 0, 0)).snd.snd.snd.fst (List.getD a (Int.toNat i) (ByteArray.empty, [], (0, [], []), 0, 0, 0)).snd.snd.snd.snd.fst (List.getD a (Int.toNat i) (ByteArray.empty, [], (0, [], []), 0, 0, 0)).snd.snd.snd.snd.snd left).bind fun r0 =>
      bif decide (r0 < 0) then
        some (-1)
      else
        w_szEntryS_1005 a r0 (IntKind.wrap IntKind.i64 (i + 1))
    else
      none
  else
    some left := by
  refine Lim.uniq (Lim.shift (Rlw_szEntryS_1005 a left i)) (?_ : Lim (fun k => F22_1005 k ((l22 k)) a left i) _)
  unfold F22_1005
  repeat' first | with_reducible exact Lim.ret _ | with_reducible exact Rw_szEntry _ _ _ _ _ _ _ _ _ | with_reducible exact Rlw_szEntryS_1005 _ _ _ | with_reducible refine Lim.cond ?_ ?_ | with_reducible refine Lim.bind ?_ fun _ => ?_
noncomputable def w_szEntryS (a : List (ByteArray × (List (List (Int × Int × Int × Int))) × (Int × (List (Int)) × List (Int)) × Int × Int × Int)) (left : Int) : Option (Int) :=
  bif decide (IntKind.wrap IntKind.i64 (left - (↑(List.length a) : Int)) < 0) then
    some (-1)
  else
    w_szEntryS_1005 a (IntKind.wrap IntKind.i64 (left - (↑(List.length a) : Int))) (0)
theorem Mw_szEntryS (k : Nat) (a : List (ByteArray × (List (List (Int × Int × Int × Int))) × (Int × (List (Int)) × List (Int)) × Int × Int × Int)) (left : Int) : Le (f22 k a left) (f22 (k + 1) a left) := by
  have h := Mlw_szEntryS k
  unfold f22 F22
  repeat' first | with_reducible exact Le.rfl _ | with_reducible exact h _ _ _ | with_reducible refine Le.cond ?_ ?_ | with_reducible refine Le.bind ?_ fun _ => ?_
theorem Rw_szEntryS (a : List (ByteArray × (List (List (Int × Int × Int × Int))) × (Int × (List (Int)) × List (Int)) × Int × Int × Int)) (left : Int) : Lim (fun k => f22 k a left) (w_szEntryS a left) := by
  unfold f22 F22 w_szEntryS
  repeat' first | with_reducible exact Lim.ret _ | with_reducible exact Rlw_szEntryS_1005 _ _ _ | with_reducible refine Lim.cond ?_ ?_ | with_reducible refine Lim.bind ?_ fun _ => ?_

-- laws.roomBehind
noncomputable def w_roomBehind (n : Int) : Option (Int) :=
  bif decide (Int.tmod n 6 = 5) then
    some (0)
  else
    bif decide (Int.tmod n 3 = 0) then
      some (1)
    else
      some n
theorem Mw_roomBehind (k : Nat) (n : Int) : Le (f71 k n) (f71 (k + 1) n) := by
  unfold f71
  repeat' first | with_reducible exact Le.rfl _ | with_reducible refine Le.cond ?_ ?_ | with_reducible refine Le.bind ?_ fun _ => ?_
theorem Rw_roomBehind (n : Int) : Lim (fun k => f71 k n) (w_roomBehind n) := by
  unfold f71 w_roomBehind
  repeat' first | with_reducible exact Lim.ret _ | with_reducible refine Lim.cond ?_ ?_ | with_reducible refine Lim.bind ?_ fun _ => ?_

-- laws.toIntS
theorem MFw_toIntS_1005 (k : Nat) {r1005 q1005 : List Int → List Int → Int → Option (List (Int) × Nat)} (h1005 : ∀ (a : List Int) (outs : List Int) (i : Int), Le (r1005 a outs i) (q1005 a outs i)) {r1009 q1009 : List Int → List Int → Int → Option (List (Int) × Nat)} (h1009 : ∀ (a : List Int) (outs : List Int) (i : Int), Le (r1009 a outs i) (q1009 a outs i)) (a : List Int) (outs : List Int) (i : Int) : Le (F15_1005 k r1005 r1009 a outs i) (F15_1005 (k + 1) q1005 q1009 a outs i) := by
  unfold F15_1005
  repeat' first | with_reducible exact Le.rfl _ | with_reducible exact h1005 _ _ _ | with_reducible exact h1009 _ _ _ | with_reducible refine Le.cond ?_ ?_ | with_reducible refine Le.bind ?_ fun _ => ?_
theorem MFw_toIntS_1009 (k : Nat) {r1005 q1005 : List Int → List Int → Int → Option (List (Int) × Nat)} (h1005 : ∀ (a : List Int) (outs : List Int) (i : Int), Le (r1005 a outs i) (q1005 a outs i)) {r1009 q1009 : List Int → List Int → Int → Option (List (Int) × Nat)} (h1009 : ∀ (a : List Int) (outs : List Int) (i : Int), Le (r1009 a outs i) (q1009 a outs i)) (a : List Int) (outs : List Int) (i : Int) : Le (F15_1009 k r1005 r1009 a outs i) (F15_1009 (k + 1) q1005 q1009 a outs i) := by
  unfold F15_1009
  repeat' first | with_reducible exact Le.rfl _ | with_reducible exact h1005 _ _ _ | with_reducible exact h1009 _ _ _ | with_reducible refine Le.cond ?_ ?_ | with_reducible refine Le.bind ?_ fun _ => ?_
theorem Mlw_toIntS : ∀ k : Nat, (∀ (a : List Int) (outs : List Int) (i : Int), Le ((l15 k).1 a outs i) ((l15 (k + 1)).1 a outs i)) ∧ (∀ (a : List Int) (outs : List Int) (i : Int), Le ((l15 k).2 a outs i) ((l15 (k + 1)).2 a outs i))
  | 0 => ⟨fun a outs i => Le.no _, fun a outs i => Le.no _⟩
  | k + 1 => by
    have h := Mlw_toIntS k
    exact ⟨fun a outs i => MFw_toIntS_1005 k h.1 h.2 a outs i, fun a outs i => MFw_toIntS_1009 k h.1 h.2 a outs i⟩
noncomputable def w_toIntS_1005 (a : List Int) (outs : List Int) (i : Int) : Option (List (Int) × Nat) := lim fun k => (l15 k).1 a outs i
theorem Rlw_toIntS_1005 (a : List Int) (outs : List Int) (i : Int) : Lim (fun k => (l15 k).1 a outs i) (w_toIntS_1005 a outs i) := Lim.of_mono fun k => (Mlw_toIntS k).1 a outs i
noncomputable def w_toIntS_1009 (a : List Int) (outs : List Int) (i : Int) : Option (List (Int) × Nat) := lim fun k => (l15 k).2 a outs i
theorem Rlw_toIntS_1009 (a : List Int) (outs : List Int) (i : Int) : Lim (fun k => (l15 k).2 a outs i) (w_toIntS_1009 a outs i) := Lim.of_mono fun k => (Mlw_toIntS k).2 a outs i
theorem Ew_toIntS_1005 (a : List Int) (outs : List Int) (i : Int) : w_toIntS_1005 a outs i =
  bif decide (i < (↑(List.length a) : Int)) then
    bif boundA i (List.length a) then
      bif boundA i (List.length outs) then
        bif Nat.blt (Int.toNat i) (List.length outs) then
          w_toIntS_1005 a (List.set outs (Int.toNat i) (List.getD a (Int.toNat i) 0)) (IntKind.wrap IntKind.i64 (i + 1))
        else
          none
      else
        none
    else
      none
  else
    w_toIntS_1009 a outs ((↑(List.length a) : Int)) := by
  refine Lim.uniq (Lim.shift (Rlw_toIntS_1005 a outs i)) (?_ : Lim (fun k => F15_1005 k ((l15 k).1) ((l15 k).2) a outs i) _)
  unfold F15_1005
  repeat' first | with_reducible exact Lim.ret _ | with_reducible exact Rlw_toIntS_1005 _ _ _ | with_reducible exact Rlw_toIntS_1009 _ _ _ | with_reducible refine Lim.cond ?_ ?_ | with_reducible refine Lim.bind ?_ fun _ => ?_
theorem Ew_toIntS_1009 (a : List Int) (outs : List Int) (i : Int) : w_toIntS_1009 a outs i =
  bif decide (i < (↑(List.length outs) : Int)) then
    bif boundA i (List.length outs) then
      bif Nat.blt (Int.toNat i) (List.length outs) then
        w_toIntS_1009 a (List.set outs (Int.toNat i) (-7000000000000000101)) (IntKind.wrap IntKind.i64 (i + 1))
      else
        none
    else
      none
  else
    bif boundE (↑(List.length a) : Int) (List.length outs) then
      some ((outs, Option.getD (some (Int.toNat (↑(List.length a) : Int))) (List.length outs)))
    else
      none := by
  refine Lim.uniq (Lim.shift (Rlw_toIntS_1009 a outs i)) (?_ : Lim (fun k => F15_1009 k ((l15 k).1) ((l15 k).2) a outs i) _)
  unfold F15_1009
  repeat' first | with_reducible exact Lim.ret _ | with_reducible exact Rlw_toIntS_1005 _ _ _ | with_reducible exact Rlw_toIntS_1009 _ _ _ | with_reducible refine Lim.cond ?_ ?_ | with_reducible refine Lim.bind ?_ fun _ => ?_
noncomputable def w_toIntS (a : List (Int)) (bare : Bool) : Option (List (Int) × Nat) :=
  bif bare then
    bif decide ((↑(List.length a) : Int) = 0) then
      some (([], 0))
    else
      (w_roomBehind (↑(List.length a) : Int)).bind fun r0 =>
      bif decide (0 ≤ IntKind.wrap IntKind.i64 ((↑(List.length a) : Int) + r0)) then
        bif decide (IntKind.wrap IntKind.i64 ((↑(List.length a) : Int) + r0) ≤ IntKind.wrap IntKind.i64 ((↑(List.length a) : Int) + r0)) then
          bif decide (IntKind.wrap IntKind.i64 ((↑(List.length a) : Int) + r0) * (↑8 : Int) ≤ 140737488355328) then
            w_toIntS_1005 a (List.replicate (Int.toNat (IntKind.wrap IntKind.i64 ((↑(List.length a) : Int) + r0))) (dflt (Ty.int IntKind.i64))) (0)
          else
            none
        else
          none
      else
        none
  else
    (w_roomBehind (↑(List.length a) : Int)).bind fun r1 =>
    bif decide (0 ≤ IntKind.wrap IntKind.i64 ((↑(List.length a) : Int) + r1)) then
      bif decide (IntKind.wrap IntKind.i64 ((↑(List.length a) : Int) + r1) ≤ IntKind.wrap IntKind.i64 ((↑(List.length a) : Int) + r1)) then
        bif decide (IntKind.wrap IntKind.i64 ((↑(List.length a) : Int) + r1) * (↑8 : Int) ≤ 140737488355328) then
          w_toIntS_1005 a (List.replicate (Int.toNat (IntKind.wrap IntKind.i64 ((↑(List.length a) : Int) + r1))) (dflt (Ty.int IntKind.i64))) (0)
        else
          none
      else
        none
    else
      none
theorem Mw_toIntS (k : Nat) (a : List (Int)) (bare : Bool) : Le (f15 k a bare) (f15 (k + 1) a bare) := by
  have h := Mlw_toIntS k
  unfold f15 F15
  repeat' first | with_reducible exact Le.rfl _ | with_reducible exact Mw_roomBehind _ _ | with_reducible exact h.1 _ _ _ | with_reducible exact h.2 _ _ _ | with_reducible refine Le.cond ?_ ?_ | with_reducible refine Le.bind ?_ fun _ => ?_
theorem Rw_toIntS (a : List (Int)) (bare : Bool) : Lim (fun k => f15 k a bare) (w_toIntS a bare) := by
  unfold f15 F15 w_toIntS
  repeat' first | with_reducible exact Lim.ret _ | with_reducible exact Rw_roomBehind _ | with_reducible exact Rlw_toIntS_1005 _ _ _ | with_reducible exact Rlw_toIntS_1009 _ _ _ | with_reducible refine Lim.cond ?_ ?_ | with_reducible refine Lim.bind ?_ fun _ => ?_

-- laws.toBox
noncomputable def w_toBox (a_K : Int) (a_Low : List (Int)) (a_High : List (Int)) (bare : Bool) : Option (Int × (List (Int) × Nat) × List (Int) × Nat) :=
  (w_toIntS a_Low bare).bind fun r0 =>
  (w_toIntS a_High bare).bind fun r1 =>
  some ((a_K, (r0.fst, Option.getD (some r0.snd) (List.length r0.fst)), r1.fst, Option.getD (some r1.snd) (List.length r1.fst)))
theorem Mw_toBox (k : Nat) (a_K : Int) (a_Low : List (Int)) (a_High : List (Int)) (bare : Bool) : Le (f37 k a_K a_Low a_High bare) (f37 (k + 1) a_K a_Low a_High bare) := by
  unfold f37
  repeat' first | with_reducible exact Le.rfl _ | with_reducible exact Mw_toIntS _ _ _ | with_reducible refine Le.cond ?_ ?_ | with_reducible refine Le.bind ?_ fun _ => ?_
theorem Rw_toBox (a_K : Int) (a_Low : List (Int)) (a_High : List (Int)) (bare : Bool) : Lim (fun k => f37 k a_K a_Low a_High bare) (w_toBox a_K a_Low a_High bare) := by
  unfold f37 w_toBox
  repeat' first | with_reducible exact Lim.ret _ | with_reducible exact Rw_toIntS _ _ | with_reducible refine Lim.cond ?_ ?_ | with_reducible refine Lim.bind ?_ fun _ => ?_

-- laws.fillerTerm
noncomputable def w_fillerTerm  : Option (Int × Int × Int × Int) :=
  some ((-7000000000000000101, -7000000000000000101, -7000000000000000101, -7000000000000000101))
theorem Mw_fillerTerm (k : Nat)  : Le (f142 k ) (f142 (k + 1) ) := by
  unfold f142
  repeat' first | with_reducible exact Le.rfl _ | with_reducible refine Le.cond ?_ ?_ | with_reducible refine Le.bind ?_ fun _ => ?_
theorem Rw_fillerTerm  : Lim (fun k => f142 k ) (w_fillerTerm ) := by
  unfold f142 w_fillerTerm
  repeat' first | with_reducible exact Lim.ret _ | with_reducible refine Lim.cond ?_ ?_ | with_reducible refine Lim.bind ?_ fun _ => ?_

-- laws.toTerm
noncomputable def w_toTerm (a_C : Int) (a_X : Int) (a_Y : Int) (a_Z : Int) : Option (Int × Int × Int × Int) :=
  some ((a_C, a_X, a_Y, a_Z))
theorem Mw_toTerm (k : Nat) (a_C : Int) (a_X : Int) (a_Y : Int) (a_Z : Int) : Le (f253 k a_C a_X a_Y a_Z) (f253 (k + 1) a_C a_X a_Y a_Z) := by
  unfold f253
  repeat' first | with_reducible exact Le.rfl _ | with_reducible refine Le.cond ?_ ?_ | with_reducible refine Le.bind ?_ fun _ => ?_
theorem Rw_toTerm (a_C : Int) (a_X : Int) (a_Y : Int) (a_Z : Int) : Lim (fun k => f253 k a_C a_X a_Y a_Z) (w_toTerm a_C a_X a_Y a_Z) := by
  unfold f253 w_toTerm
  repeat' first | with_reducible exact Lim.ret _ | with_reducible refine Lim.cond ?_ ?_ | with_reducible refine Lim.bind ?_ fun _ => ?_

-- laws.toTermS
theorem MFw_toTermS_1005 (k : Nat) {r1005 q1005 : List (Int × Int × Int × Int) → List (Int × Int × Int × Int) → Int → Option (List (Int × Int × Int × Int) × Nat)} (h1005 : ∀ (a : List (Int × Int × Int × Int)) (outs : List (Int × Int × Int × Int)) (i : Int), Le (r1005 a outs i) (q1005 a outs i)) {r1009 q1009 : List (Int × Int × Int × Int) → List (Int × Int × Int × Int) → Int → Option (List (Int × Int × Int × Int) × Nat)} (h1009 : ∀ (a : List (Int × Int × Int × Int)) (outs : List (Int × Int × Int × Int)) (i : Int), Le (r1009 a outs i) (q1009 a outs i)) (a : List (Int × Int × Int × Int)) (outs : List (Int × Int × Int × Int)) (i : Int) : Le (F208_1005 k r1005 r1009 a outs i) (F208_1005 (k + 1) q1005 q1009 a outs i) := by
  unfold F208_1005
  repeat' first | with_reducible exact Le.rfl _ | with_reducible exact h1005 _ _ _ | with_reducible exact h1009 _ _ _ | with_reducible refine Le.cond ?_ ?_ | with_reducible refine Le.bind ?_ fun _ => ?_
theorem MFw_toTermS_1009 (k : Nat) {r1005 q1005 : List (Int × Int × Int × Int) → List (Int × Int × Int × Int) → Int → Option (List (Int × Int × Int × Int) × Nat)} (h1005 : ∀ (a : List (Int × Int × Int × Int)) (outs : List (Int × Int × Int × Int)) (i : Int), Le (r1005 a outs i) (q1005 a outs i)) {r1009 q1009 : List (Int × Int × Int × Int) → List (Int × Int × Int × Int) → Int → Option (List (Int × Int × Int × Int) × Nat)} (h1009 : ∀ (a : List (Int × Int × Int × Int)) (outs : List (Int × Int × Int × Int)) (i : Int), Le (r1009 a outs i) (q1009 a outs i)) (a : List (Int × Int × Int × Int)) (outs : List (Int × Int × Int × Int)) (i : Int) : Le (F208_1009 k r1005 r1009 a outs i) (F208_1009 (k + 1) q1005 q1009 a outs i) := by
  unfold F208_1009
  repeat' first | with_reducible exact Le.rfl _ | with_reducible exact h1005 _ _ _ | with_reducible exact h1009 _ _ _ | with_reducible refine Le.cond ?_ ?_ | with_reducible refine Le.bind ?_ fun _ => ?_
theorem Mlw_toTermS : ∀ k : Nat, (∀ (a : List (Int × Int × Int × Int)) (outs : List (Int × Int × Int × Int)) (i : Int), Le ((l208 k).1 a outs i) ((l208 (k + 1)).1 a outs i)) ∧ (∀ (a : List (Int × Int × Int × Int)) (outs : List (Int × Int × Int × Int)) (i : Int), Le ((l208 k).2 a outs i) ((l208 (k + 1)).2 a outs i))
  | 0 => ⟨fun a outs i => Le.no _, fun a outs i => Le.no _⟩
  | k + 1 => by
    have h := Mlw_toTermS k
    exact ⟨fun a outs i => MFw_toTermS_1005 k h.1 h.2 a outs i, fun a outs i => MFw_toTermS_1009 k h.1 h.2 a outs i⟩
noncomputable def w_toTermS_1005 (a : List (Int × Int × Int × Int)) (outs : List (Int × Int × Int × Int)) (i : Int) : Option (List (Int × Int × Int × Int) × Nat) := lim fun k => (l208 k).1 a outs i
theorem Rlw_toTermS_1005 (a : List (Int × Int × Int × Int)) (outs : List (Int × Int × Int × Int)) (i : Int) : Lim (fun k => (l208 k).1 a outs i) (w_toTermS_1005 a outs i) := Lim.of_mono fun k => (Mlw_toTermS k).1 a outs i
noncomputable def w_toTermS_1009 (a : List (Int × Int × Int × Int)) (outs : List (Int × Int × Int × Int)) (i : Int) : Option (List (Int × Int × Int × Int) × Nat) := lim fun k => (l208 k).2 a outs i
theorem Rlw_toTermS_1009 (a : List (Int × Int × Int × Int)) (outs : List (Int × Int × Int × Int)) (i : Int) : Lim (fun k => (l208 k).2 a outs i) (w_toTermS_1009 a outs i) := Lim.of_mono fun k => (Mlw_toTermS k).2 a outs i
theorem Ew_toTermS_1005 (a : List (Int × Int × Int × Int)) (outs : List (Int × Int × Int × Int)) (i : Int) : w_toTermS_1005 a outs i =
  bif decide (i < (↑(List.length a) : Int)) then
    bif boundA i (List.length a) then
      bif boundA i (List.length outs) then
        bif Nat.blt (Int.toNat i) (List.length outs) then
          w_toTermS_1005 a (List.set outs (Int.toNat i) ((List.getD a (Int.toNat i) (0, 0, 0, 0)).fst, (List.getD a (Int.toNat i) (0, 0, 0, 0)).snd.fst, (List.getD a (Int.toNat i) (0, 0, 0, 0)).snd.snd.fst, (List.getD a (Int.toNat i) (0, 0, 0, 0)).snd.snd.snd)) (IntKind.wrap IntKind.i64 (i + 1))
        else
          none
      else
        none
    else
      none
  else
    w_toTermS_1009 a outs ((↑(List.length a) : Int)) := by
  refine Lim.uniq (Lim.shift (Rlw_toTermS_1005 a outs i)) (?_ : Lim (fun k => F208_1005 k ((l208 k).1) ((l208 k).2) a outs i) _)
  unfold F208_1005
  repeat' first | with_reducible exact Lim.ret _ | with_reducible exact Rlw_toTermS_1005 _ _ _ | with_reducible exact Rlw_toTermS_1009 _ _ _ | with_reducible refine Lim.cond ?_ ?_ | with_reducible refine Lim.bind ?_ fun _ => ?_
theorem Ew_toTermS_1009 (a : List (Int × Int × Int × Int)) (outs : List (Int × Int × Int × Int)) (i : Int) : w_toTermS_1009 a outs i =
  bif decide (i < (↑(List.length outs) : Int)) then
    bif boundA i (List.length outs) then
      bif Nat.blt (Int.toNat i) (List.length outs) then
        w_toTermS_1009 a (List.set outs (Int.toNat i) (-7000000000000000101, -7000000000000000101, -7000000000000000101, -7000000000000000101)) (IntKind.wrap IntKind.i64 (i + 1))
      else
        none
    else
      none
  else
    bif boundE (↑(List.length a) : Int) (List.length outs) then
      some ((outs, Option.getD (some (Int.toNat (↑(List.length a) : Int))) (List.length outs)))
    else
      none := by
  refine Lim.uniq (Lim.shift (Rlw_toTermS_1009 a outs i)) (?_ : Lim (fun k => F208_1009 k ((l208 k).1) ((l208 k).2) a outs i) _)
  unfold F208_1009
  repeat' first | with_reducible exact Lim.ret _ | with_reducible exact Rlw_toTermS_1005 _ _ _ | with_reducible exact Rlw_toTermS_1009 _ _ _ | with_reducible refine Lim.cond ?_ ?_ | with_reducible refine Lim.bind ?_ fun _ => ?_
noncomputable def w_toTermS (a : List (Int × Int × Int × Int)) (bare : Bool) : Option (List (Int × Int × Int × Int) × Nat) :=
  bif bare then
    bif decide ((↑(List.length a) : Int) = 0) then
      some (([], 0))
    else
      (w_roomBehind (↑(List.length a) : Int)).bind fun r0 =>
      bif decide (0 ≤ IntKind.wrap IntKind.i64 ((↑(List.length a) : Int) + r0)) then
        bif decide (IntKind.wrap IntKind.i64 ((↑(List.length a) : Int) + r0) ≤ IntKind.wrap IntKind.i64 ((↑(List.length a) : Int) + r0)) then
          bif decide (IntKind.wrap IntKind.i64 ((↑(List.length a) : Int) + r0) * (↑32 : Int) ≤ 140737488355328) then
            w_toTermS_1005 a (List.replicate (Int.toNat (IntKind.wrap IntKind.i64 ((↑(List.length a) : Int) + r0))) (dflt (Ty.pair (Ty.int IntKind.i64) (Ty.pair (Ty.int IntKind.i64) (Ty.pair (Ty.int IntKind.i64) (Ty.int IntKind.i64)))))) (0)
          else
            none
        else
          none
      else
        none
  else
    (w_roomBehind (↑(List.length a) : Int)).bind fun r1 =>
    bif decide (0 ≤ IntKind.wrap IntKind.i64 ((↑(List.length a) : Int) + r1)) then
      bif decide (IntKind.wrap IntKind.i64 ((↑(List.length a) : Int) + r1) ≤ IntKind.wrap IntKind.i64 ((↑(List.length a) : Int) + r1)) then
        bif decide (IntKind.wrap IntKind.i64 ((↑(List.length a) : Int) + r1) * (↑32 : Int) ≤ 140737488355328) then
          w_toTermS_1005 a (List.replicate (Int.toNat (IntKind.wrap IntKind.i64 ((↑(List.length a) : Int) + r1))) (dflt (Ty.pair (Ty.int IntKind.i64) (Ty.pair (Ty.int IntKind.i64) (Ty.pair (Ty.int IntKind.i64) (Ty.int IntKind.i64)))))) (0)
        else
          none
      else
        none
    else
      none
theorem Mw_toTermS (k : Nat) (a : List (Int × Int × Int × Int)) (bare : Bool) : Le (f208 k a bare) (f208 (k + 1) a bare) := by
  have h := Mlw_toTermS k
  unfold f208 F208
  repeat' first | with_reducible exact Le.rfl _ | with_reducible exact Mw_roomBehind _ _ | with_reducible exact h.1 _ _ _ | with_reducible exact h.2 _ _ _ | with_reducible refine Le.cond ?_ ?_ | with_reducible refine Le.bind ?_ fun _ => ?_
theorem Rw_toTermS (a : List (Int × Int × Int × Int)) (bare : Bool) : Lim (fun k => f208 k a bare) (w_toTermS a bare) := by
  unfold f208 F208 w_toTermS
  repeat' first | with_reducible exact Lim.ret _ | with_reducible exact Rw_roomBehind _ | with_reducible exact Rlw_toTermS_1005 _ _ _ | with_reducible exact Rlw_toTermS_1009 _ _ _ | with_reducible refine Lim.cond ?_ ?_ | with_reducible refine Lim.bind ?_ fun _ => ?_

-- laws.toTermSS
theorem MFw_toTermSS_1005 (k : Nat) {r1005 q1005 : List (List (Int × Int × Int × Int)) → Bool → List (List (Int × Int × Int × Int) × Nat) → Int → Option (List (List (Int × Int × Int × Int) × Nat) × Nat)} (h1005 : ∀ (a : List (List (Int × Int × Int × Int))) (bare : Bool) (outs : List (List (Int × Int × Int × Int) × Nat)) (i : Int), Le (r1005 a bare outs i) (q1005 a bare outs i)) {r1009 q1009 : List (List (Int × Int × Int × Int)) → List (List (Int × Int × Int × Int) × Nat) → Int → Option (List (List (Int × Int × Int × Int) × Nat) × Nat)} (h1009 : ∀ (a : List (List (Int × Int × Int × Int))) (outs : List (List (Int × Int × Int × Int) × Nat)) (i : Int), Le (r1009 a outs i) (q1009 a outs i)) (a : List (List (Int × Int × Int × Int))) (bare : Bool) (outs : List (List (Int × Int × Int × Int) × Nat)) (i : Int) : Le (F141_1005 k r1005 r1009 a bare outs i) (F141_1005 (k + 1) q1005 q1009 a bare outs i) := by
  unfold F141_1005
  repeat' first | with_reducible exact Le.rfl _ | with_reducible exact Mw_toTermS _ _ _ | with_reducible exact h1005 _ _ _ _ | with_reducible exact h1009 _ _ _ | with_reducible refine Le.cond ?_ ?_ | with_reducible refine Le.bind ?_ fun _ => ?_
theorem MFw_toTermSS_1009 (k : Nat) {r1005 q1005 : List (List (Int × Int × Int × Int)) → Bool → List (List (Int × Int × Int × Int) × Nat) → Int → Option (List (List (Int × Int × Int × Int) × Nat) × Nat)} (h1005 : ∀ (a : List (List (Int × Int × Int × Int))) (bare : Bool) (outs : List (List (Int × Int × Int × Int) × Nat)) (i : Int), Le (r1005 a bare outs i) (q1005 a bare outs i)) {r1009 q1009 : List (List (Int × Int × Int × Int)) → List (List (Int × Int × Int × Int) × Nat) → Int → Option (List (List (Int × Int × Int × Int) × Nat) × Nat)} (h1009 : ∀ (a : List (List (Int × Int × Int × Int))) (outs : List (List (Int × Int × Int × Int) × Nat)) (i : Int), Le (r1009 a outs i) (q1009 a outs i)) (a : List (List (Int × Int × Int × Int))) (outs : List (List (Int × Int × Int × Int) × Nat)) (i : Int) : Le (F141_1009 k r1005 r1009 a outs i) (F141_1009 (k + 1) q1005 q1009 a outs i) := by
  unfold F141_1009
  repeat' first | with_reducible exact Le.rfl _ | with_reducible exact h1005 _ _ _ _ | with_reducible exact h1009 _ _ _ | with_reducible refine Le.cond ?_ ?_ | with_reducible refine Le.bind ?_ fun _ => ?_
theorem Mlw_toTermSS : ∀ k : Nat, (∀ (a : List (List (Int × Int × Int × Int))) (bare : Bool) (outs : List (List (Int × Int × Int × Int) × Nat)) (i : Int), Le ((l141 k).1 a bare outs i) ((l141 (k + 1)).1 a bare outs i)) ∧ (∀ (a : List (List (Int × Int × Int × Int))) (outs : List (List (Int × Int × Int × Int) × Nat)) (i : Int), Le ((l141 k).2 a outs i) ((l141 (k + 1)).2 a outs i))
  | 0 => ⟨fun a bare outs i => Le.no _, fun a outs i => Le.no _⟩
  | k + 1 => by
    have h := Mlw_toTermSS k
    exact ⟨fun a bare outs i => MFw_toTermSS_1005 k h.1 h.2 a bare outs i, fun a outs i => MFw_toTermSS_1009 k h.1 h.2 a outs i⟩
noncomputable def w_toTermSS_1005 (a : List (List (Int × Int × Int × Int))) (bare : Bool) (outs : List (List (Int × Int × Int × Int) × Nat)) (i : Int) : Option (List (List (Int × Int × Int × Int) × Nat) × Nat) := lim fun k => (l141 k).1 a bare outs i
theorem Rlw_toTermSS_1005 (a : List (List (Int × Int × Int × Int))) (bare : Bool) (outs : List (List (Int × Int × Int × Int) × Nat)) (i : Int) : Lim (fun k => (l141 k).1 a bare outs i) (w_toTermSS_1005 a bare outs i) := Lim.of_mono fun k => (Mlw_toTermSS k).1 a bare outs i
noncomputable def w_toTermSS_1009 (a : List (List (Int × Int × Int × Int))) (outs : List (List (Int × Int × Int × Int) × Nat)) (i : Int) : Option (List (List (Int × Int × Int × Int) × Nat) × Nat) := lim fun k => (l141 k).2 a outs i
theorem Rlw_toTermSS_1009 (a : List (List (Int × Int × Int × Int))) (outs : List (List (Int × Int × Int × Int) × Nat)) (i : Int) : Lim (fun k => (l141 k).2 a outs i) (w_toTermSS_1009 a outs i) := Lim.of_mono fun k => (Mlw_toTermSS k).2 a outs i
theorem Ew_toTermSS_1005 (a : List (List (Int × Int × Int × Int))) (bare : Bool) (outs : List (List (Int × Int × Int × Int) × Nat)) (i : Int) : w_toTermSS_1005 a bare outs i =
  bif decide (i < (↑(List.length a) : Int)) then
    bif boundA i (List.length a) then
      (w_toTermS (List.getD a (Int.toNat i) []) bare).bind fun r0 =>
      bif boundA i (List.length outs) then
        bif Nat.blt (Int.toNat i) (List.length outs) then
          w_toTermSS_1005 a bare (List.set outs (Int.toNat i) (r0.fst, r0.snd)) (IntKind.wrap IntKind.i64 (i + 1))
        else
          none
      else
        none
    else
      none
  else
    w_toTermSS_1009 a outs ((↑(List.length a) : Int)) := by
  refine Lim.uniq (Lim.shift (Rlw_toTermSS_1005 a bare outs i)) (?_ : Lim (fun k => F141_1005 k ((l141 k).1) ((l141 k).2) a bare outs i) _)
  unfold F141_1005
  repeat' first | with_reducible exact Lim.ret _ | with_reducible exact Rw_toTermS _ _ | with_reducible exact Rlw_toTermSS_1005 _ _ _ _ | with_reducible exact Rlw_toTermSS_1009 _ _ _ | with_reducible refine Lim.cond ?_ ?_ | with_reducible refine Lim.bind ?_ fun _ => ?_
theorem Ew_toTermSS_1009 (a : List (List (Int × Int × Int × Int))) (outs : List (List (Int × Int × Int × Int) × Nat)) (i : Int) : w_toTermSS_1009 a outs i =
  bif decide (i < (↑(List.length outs) : Int)) then
    bif boundA i (List.length outs) then
      bif Nat.blt (Int.toNat i) (List.length outs) then
        w_toTermSS_1009 a (List.set outs (Int.toNat i) ([(-7000000000000000101, -7000000000000000101, -7000000000000000101, -7000000000000000101)], List.length [(-7000000000000000101, -7000000000000000101, -7000000000000000101, -7000000000000000101)])) (IntKind.wrap IntKind.i64 (i + 1))
      else
        none
    else
      none
  else
    bif boundE (↑(List.length a) : Int) (List.length outs) then
      some ((outs, Option.getD (some (Int.toNat (↑(List.length a) : Int))) (List.length outs)))
    else
      none := by
  refine Lim.uniq (Lim.shift (Rlw_toTermSS_1009 a outs i)) (?_ : Lim (fun k => F141_1009 k ((l141 k).1) ((l141 k).2) a outs i) _)
  unfold F141_1009
  repeat' first | with_reducible exact Lim.ret _ | with_reducible exact Rlw_toTermSS_1005 _ _ _ _ | with_reducible exact Rlw_toTermSS_1009 _ _ _ | with_reducible refine Lim.cond ?_ ?_ | with_reducible refine Lim.bind ?_ fun _ => ?_
noncomputable def w_toTermSS (a : List (List (Int × Int × Int × Int))) (bare : Bool) : Option (List (List (Int × Int × Int × Int) × Nat) × Nat) :=
  bif bare then
    bif decide ((↑(List.length a) : Int) = 0) then
      some (([], 0))
    else
      (w_roomBehind (↑(List.length a) : Int)).bind fun r0 =>
      bif decide (0 ≤ IntKind.wrap IntKind.i64 ((↑(List.length a) : Int) + r0)) then
        bif decide (IntKind.wrap IntKind.i64 ((↑(List.length a) : Int) + r0) ≤ IntKind.wrap IntKind.i64 ((↑(List.length a) : Int) + r0)) then
          bif decide (IntKind.wrap IntKind.i64 ((↑(List.length a) : Int) + r0) * (↑24 : Int) ≤ 140737488355328) then
            w_toTermSS_1005 a bare (List.replicate (Int.toNat (IntKind.wrap IntKind.i64 ((↑(List.length a) : Int) + r0))) (dflt (Ty.vslice 150 (Ty.pair (Ty.int IntKind.i64) (Ty.pair (Ty.int IntKind.i64) (Ty.pair (Ty.int IntKind.i64) (Ty.int IntKind.i64))))))) (0)
          else
            none
        else
          none
      else
        none
  else
    (w_roomBehind (↑(List.length a) : Int)).bind fun r1 =>
    bif decide (0 ≤ IntKind.wrap IntKind.i64 ((↑(List.length a) : Int) + r1)) then
      bif decide (IntKind.wrap IntKind.i64 ((↑(List.length a) : Int) + r1) ≤ IntKind.wrap IntKind.i64 ((↑(List.length a) : Int) + r1)) then
        bif decide (IntKind.wrap IntKind.i64 ((↑(List.length a) : Int) + r1) * (↑24 : Int) ≤ 140737488355328) then
          w_toTermSS_1005 a bare (List.replicate (Int.toNat (IntKind.wrap IntKind.i64 ((↑(List.length a) : Int) + r1))) (dflt (Ty.vslice 150 (Ty.pair (Ty.int IntKind.i64) (Ty.pair (Ty.int IntKind.i64) (Ty.pair (Ty.int IntKind.i64) (Ty.int IntKind.i64))))))) (0)
        else
          none
      else
        none
    else
      none
theorem Mw_toTermSS (k : Nat) (a : List (List (Int × Int × Int × Int))) (bare : Bool) : Le (f141 k a bare) (f141 (k + 1) a bare) := by
  have h := Mlw_toTermSS k
  unfold f141 F141
  repeat' first | with_reducible exact Le.rfl _ | with_reducible exact Mw_roomBehind _ _ | with_reducible exact h.1 _ _ _ _ | with_reducible exact h.2 _ _ _ | with_reducible refine Le.cond ?_ ?_ | with_reducible refine Le.bind ?_ fun _ => ?_
theorem Rw_toTermSS (a : List (List (Int × Int × Int × Int))) (bare : Bool) : Lim (fun k => f141 k a bare) (w_toTermSS a bare) := by
  unfold f141 F141 w_toTermSS
  repeat' first | with_reducible exact Lim.ret _ | with_reducible exact Rw_roomBehind _ | with_reducible exact Rlw_toTermSS_1005 _ _ _ _ | with_reducible exact Rlw_toTermSS_1009 _ _ _ | with_reducible refine Lim.cond ?_ ?_ | with_reducible refine Lim.bind ?_ fun _ => ?_

-- laws.toEntry
noncomputable def w_toEntry (a_Name : ByteArray) (a_System : List (List (Int × Int × Int × Int))) (a_Box_K : Int) (a_Box_Low : List (Int)) (a_Box_High : List (Int)) (a_Least : Int) (a_Most : Int) (a_Version : Int) (bare : Bool) : Option (ByteArray × (List (List (Int × Int × Int × Int) × Nat) × Nat) × (Int × (List (Int) × Nat) × List (Int) × Nat) × Int × Int × Int) :=
  (w_toTermSS a_System bare).bind fun r0 =>
  (w_toBox a_Box_K a_Box_Low a_Box_High bare).bind fun r1 =>
  some ((a_Name, (r0.fst, Option.getD (some r0.snd) (List.length r0.fst)), (r1.fst, (r1.snd.fst.fst, Option.getD (some r1.snd.fst.snd) (List.length r1.snd.fst.fst)), r1.snd.snd.fst, Option.getD (some r1.snd.snd.snd) (List.length r1.snd.snd.fst)), a_Least, a_Most, a_Version))
theorem Mw_toEntry (k : Nat) (a_Name : ByteArray) (a_System : List (List (Int × Int × Int × Int))) (a_Box_K : Int) (a_Box_Low : List (Int)) (a_Box_High : List (Int)) (a_Least : Int) (a_Most : Int) (a_Version : Int) (bare : Bool) : Le (f84 k a_Name a_System a_Box_K a_Box_Low a_Box_High a_Least a_Most a_Version bare) (f84 (k + 1) a_Name a_System a_Box_K a_Box_Low a_Box_High a_Least a_Most a_Version bare) := by
  unfold f84
  repeat' first | with_reducible exact Le.rfl _ | with_reducible exact Mw_toTermSS _ _ _ | with_reducible exact Mw_toBox _ _ _ _ _ | with_reducible refine Le.cond ?_ ?_ | with_reducible refine Le.bind ?_ fun _ => ?_
theorem Rw_toEntry (a_Name : ByteArray) (a_System : List (List (Int × Int × Int × Int))) (a_Box_K : Int) (a_Box_Low : List (Int)) (a_Box_High : List (Int)) (a_Least : Int) (a_Most : Int) (a_Version : Int) (bare : Bool) : Lim (fun k => f84 k a_Name a_System a_Box_K a_Box_Low a_Box_High a_Least a_Most a_Version bare) (w_toEntry a_Name a_System a_Box_K a_Box_Low a_Box_High a_Least a_Most a_Version bare) := by
  unfold f84 w_toEntry
  repeat' first | with_reducible exact Lim.ret _ | with_reducible exact Rw_toTermSS _ _ | with_reducible exact Rw_toBox _ _ _ _ | with_reducible refine Lim.cond ?_ ?_ | with_reducible refine Lim.bind ?_ fun _ => ?_

-- laws.fillerBox
noncomputable def w_fillerBox  : Option (Int × (List (Int) × Nat) × List (Int) × Nat) :=
  some ((-7000000000000000101, ([-7000000000000000101], Option.getD none (List.length [-7000000000000000101])), [-7000000000000000101], Option.getD none (List.length [-7000000000000000101])))
theorem Mw_fillerBox (k : Nat)  : Le (f143 k ) (f143 (k + 1) ) := by
  unfold f143
  repeat' first | with_reducible exact Le.rfl _ | with_reducible refine Le.cond ?_ ?_ | with_reducible refine Le.bind ?_ fun _ => ?_
theorem Rw_fillerBox  : Lim (fun k => f143 k ) (w_fillerBox ) := by
  unfold f143 w_fillerBox
  repeat' first | with_reducible exact Lim.ret _ | with_reducible refine Lim.cond ?_ ?_ | with_reducible refine Lim.bind ?_ fun _ => ?_

-- laws.fillerEntry
noncomputable def w_fillerEntry  : Option (ByteArray × (List (List (Int × Int × Int × Int) × Nat) × Nat) × (Int × (List (Int) × Nat) × List (Int) × Nat) × Int × Int × Int) :=
  some (({ data := #[126, 115, 112, 97, 114, 101, 126] }, ([([(-7000000000000000101, -7000000000000000101, -7000000000000000101, -7000000000000000101)], List.length [(-7000000000000000101, -7000000000000000101, -7000000000000000101, -7000000000000000101)])], Option.getD none (List.length [([(-7000000000000000101, -7000000000000000101, -7000000000000000101, -7000000000000000101)], List.length [(-7000000000000000101, -7000000000000000101, -7000000000000000101, -7000000000000000101)])])), (-7000000000000000101, ([-7000000000000000101], Option.getD (some (Option.getD none (List.length [-7000000000000000101]))) (List.length [-7000000000000000101])), [-7000000000000000101], Option.getD (some (Option.getD none (List.length [-7000000000000000101]))) (List.length [-7000000000000000101])), -7000000000000000101, -7000000000000000101, -7000000000000000101))
theorem Mw_fillerEntry (k : Nat)  : Le (f85 k ) (f85 (k + 1) ) := by
  unfold f85
  repeat' first | with_reducible exact Le.rfl _ | with_reducible refine Le.cond ?_ ?_ | with_reducible refine Le.bind ?_ fun _ => ?_
theorem Rw_fillerEntry  : Lim (fun k => f85 k ) (w_fillerEntry ) := by
  unfold f85 w_fillerEntry
  repeat' first | with_reducible exact Lim.ret _ | with_reducible refine Lim.cond ?_ ?_ | with_reducible refine Lim.bind ?_ fun _ => ?_

-- laws.toEntryS
theorem MFw_toEntryS_1005 (k : Nat) {r1005 q1005 : List (ByteArray × List (List (Int × Int × Int × Int)) × (Int × List Int × List Int) × Int × Int × Int) → Bool → List (ByteArray × (List (List (Int × Int × Int × Int) × Nat) × Nat) × (Int × (List Int × Nat) × List Int × Nat) × Int × Int × Int) → Int → Option (List (ByteArray × (List (List (Int × Int × Int × Int) × Nat) × Nat) × (Int × (List (Int) × Nat) × List (Int) × Nat) × Int × Int × Int) × Nat)} (h1005 : ∀ (a : List (ByteArray × List (List (Int × Int × Int × Int)) × (Int × List Int × List Int) × Int × Int × Int)) (bare : Bool) (outs : List (ByteArray × (List (List (Int × Int × Int × Int) × Nat) × Nat) × (Int × (List Int × Nat) × List Int × Nat) × Int × Int × Int)) (i : Int), Le (r1005 a bare outs i) (q1005 a bare outs i)) {r1009 q1009 : List (ByteArray × List (List (Int × Int × Int × Int)) × (Int × List Int × List Int) × Int × Int × Int) → List (ByteArray × (List (List (Int × Int × Int × Int) × Nat) × Nat) × (Int × (List Int × Nat) × List Int × Nat) × Int × Int × Int) → Int → Option (List (ByteArray × (List (List (Int × Int × Int × Int) × Nat) × Nat) × (Int × (List (Int) × Nat) × List (Int) × Nat) × Int × Int × Int) × Nat)} (h1009 : ∀ (a : List (ByteArray × List (List (Int × Int × Int × Int)) × (Int × List Int × List Int) × Int × Int × Int)) (outs : List (ByteArray × (List (List (Int × Int × Int × Int) × Nat) × Nat) × (Int × (List Int × Nat) × List Int × Nat) × Int × Int × Int)) (i : Int), Le (r1009 a outs i) (q1009 a outs i)) (a : List (ByteArray × List (List (Int × Int × Int × Int)) × (Int × List Int × List Int) × Int × Int × Int)) (bare : Bool) (outs : List (ByteArray × (List (List (Int × Int × Int × Int) × Nat) × Nat) × (Int × (List Int × Nat) × List Int × Nat) × Int × Int × Int)) (i : Int) : Le (F24_1005 k r1005 r1009 a bare outs i) (F24_1005 (k + 1) q1005 q1009 a bare outs i) := by
  unfold F24_1005
  repeat' first | with_reducible exact Le.rfl _ | with_reducible exact Mw_toEntry _ _ _ _ _ _ _ _ _ _ | with_reducible exact h1005 _ _ _ _ | with_reducible exact h1009 _ _ _ | with_reducible refine Le.cond ?_ ?_ | with_reducible refine Le.bind ?_ fun _ => ?_
theorem MFw_toEntryS_1009 (k : Nat) {r1005 q1005 : List (ByteArray × List (List (Int × Int × Int × Int)) × (Int × List Int × List Int) × Int × Int × Int) → Bool → List (ByteArray × (List (List (Int × Int × Int × Int) × Nat) × Nat) × (Int × (List Int × Nat) × List Int × Nat) × Int × Int × Int) → Int → Option (List (ByteArray × (List (List (Int × Int × Int × Int) × Nat) × Nat) × (Int × (List (Int) × Nat) × List (Int) × Nat) × Int × Int × Int) × Nat)} (h1005 : ∀ (a : List (ByteArray × List (List (Int × Int × Int × Int)) × (Int × List Int × List Int) × Int × Int × Int)) (bare : Bool) (outs : List (ByteArray × (List (List (Int × Int × Int × Int) × Nat) × Nat) × (Int × (List Int × Nat) × List Int × Nat) × Int × Int × Int)) (i : Int), Le (r1005 a bare outs i) (q1005 a bare outs i)) {r1009 q1009 : List (ByteArray × List (List (Int × Int × Int × Int)) × (Int × List Int × List Int) × Int × Int × Int) → List (ByteArray × (List (List (Int × Int × Int × Int) × Nat) × Nat) × (Int × (List Int × Nat) × List Int × Nat) × Int × Int × Int) → Int → Option (List (ByteArray × (List (List (Int × Int × Int × Int) × Nat) × Nat) × (Int × (List (Int) × Nat) × List (Int) × Nat) × Int × Int × Int) × Nat)} (h1009 : ∀ (a : List (ByteArray × List (List (Int × Int × Int × Int)) × (Int × List Int × List Int) × Int × Int × Int)) (outs : List (ByteArray × (List (List (Int × Int × Int × Int) × Nat) × Nat) × (Int × (List Int × Nat) × List Int × Nat) × Int × Int × Int)) (i : Int), Le (r1009 a outs i) (q1009 a outs i)) (a : List (ByteArray × List (List (Int × Int × Int × Int)) × (Int × List Int × List Int) × Int × Int × Int)) (outs : List (ByteArray × (List (List (Int × Int × Int × Int) × Nat) × Nat) × (Int × (List Int × Nat) × List Int × Nat) × Int × Int × Int)) (i : Int) : Le (F24_1009 k r1005 r1009 a outs i) (F24_1009 (k + 1) q1005 q1009 a outs i) := by
  unfold F24_1009
  repeat' first | with_reducible exact Le.rfl _ | with_reducible exact h1005 _ _ _ _ | with_reducible exact h1009 _ _ _ | with_reducible refine Le.cond ?_ ?_ | with_reducible refine Le.bind ?_ fun _ => ?_
theorem Mlw_toEntryS : ∀ k : Nat, (∀ (a : List (ByteArray × List (List (Int × Int × Int × Int)) × (Int × List Int × List Int) × Int × Int × Int)) (bare : Bool) (outs : List (ByteArray × (List (List (Int × Int × Int × Int) × Nat) × Nat) × (Int × (List Int × Nat) × List Int × Nat) × Int × Int × Int)) (i : Int), Le ((l24 k).1 a bare outs i) ((l24 (k + 1)).1 a bare outs i)) ∧ (∀ (a : List (ByteArray × List (List (Int × Int × Int × Int)) × (Int × List Int × List Int) × Int × Int × Int)) (outs : List (ByteArray × (List (List (Int × Int × Int × Int) × Nat) × Nat) × (Int × (List Int × Nat) × List Int × Nat) × Int × Int × Int)) (i : Int), Le ((l24 k).2 a outs i) ((l24 (k + 1)).2 a outs i))
  | 0 => ⟨fun a bare outs i => Le.no _, fun a outs i => Le.no _⟩
  | k + 1 => by
    have h := Mlw_toEntryS k
    exact ⟨fun a bare outs i => MFw_toEntryS_1005 k h.1 h.2 a bare outs i, fun a outs i => MFw_toEntryS_1009 k h.1 h.2 a outs i⟩
noncomputable def w_toEntryS_1005 (a : List (ByteArray × List (List (Int × Int × Int × Int)) × (Int × List Int × List Int) × Int × Int × Int)) (bare : Bool) (outs : List (ByteArray × (List (List (Int × Int × Int × Int) × Nat) × Nat) × (Int × (List Int × Nat) × List Int × Nat) × Int × Int × Int)) (i : Int) : Option (List (ByteArray × (List (List (Int × Int × Int × Int) × Nat) × Nat) × (Int × (List (Int) × Nat) × List (Int) × Nat) × Int × Int × Int) × Nat) := lim fun k => (l24 k).1 a bare outs i
theorem Rlw_toEntryS_1005 (a : List (ByteArray × List (List (Int × Int × Int × Int)) × (Int × List Int × List Int) × Int × Int × Int)) (bare : Bool) (outs : List (ByteArray × (List (List (Int × Int × Int × Int) × Nat) × Nat) × (Int × (List Int × Nat) × List Int × Nat) × Int × Int × Int)) (i : Int) : Lim (fun k => (l24 k).1 a bare outs i) (w_toEntryS_1005 a bare outs i) := Lim.of_mono fun k => (Mlw_toEntryS k).1 a bare outs i
noncomputable def w_toEntryS_1009 (a : List (ByteArray × List (List (Int × Int × Int × Int)) × (Int × List Int × List Int) × Int × Int × Int)) (outs : List (ByteArray × (List (List (Int × Int × Int × Int) × Nat) × Nat) × (Int × (List Int × Nat) × List Int × Nat) × Int × Int × Int)) (i : Int) : Option (List (ByteArray × (List (List (Int × Int × Int × Int) × Nat) × Nat) × (Int × (List (Int) × Nat) × List (Int) × Nat) × Int × Int × Int) × Nat) := lim fun k => (l24 k).2 a outs i
theorem Rlw_toEntryS_1009 (a : List (ByteArray × List (List (Int × Int × Int × Int)) × (Int × List Int × List Int) × Int × Int × Int)) (outs : List (ByteArray × (List (List (Int × Int × Int × Int) × Nat) × Nat) × (Int × (List Int × Nat) × List Int × Nat) × Int × Int × Int)) (i : Int) : Lim (fun k => (l24 k).2 a outs i) (w_toEntryS_1009 a outs i) := Lim.of_mono fun k => (Mlw_toEntryS k).2 a outs i
theorem Ew_toEntryS_1005 (a : List (ByteArray × List (List (Int × Int × Int × Int)) × (Int × List Int × List Int) × Int × Int × Int)) (bare : Bool) (outs : List (ByteArray × (List (List (Int × Int × Int × Int) × Nat) × Nat) × (Int × (List Int × Nat) × List Int × Nat) × Int × Int × Int)) (i : Int) : w_toEntryS_1005 a bare outs i =
  bif decide (i < (↑(List.length a) : Int)) then
    bif boundA i (List.length a) then
      (w_toEntry (List.getD a (Int.toNat i) (ByteArray.empty, [], (0, [], []), 0, 0, 0)).fst (List.getD a (Int.toNat i) (ByteArray.empty, [], (0, [], []), 0, 0, 0)).snd.fst (List.getD a (Int.toNat i) (ByteArray.empty, [], (0, [], []), 0, 0, 0)).snd.snd.fst.fst (List.getD a (Int.toNat i) (ByteArray.empty, [], (0, [], []), 0, 0, 0)).snd.snd.fst.snd.fst (List.getD a (Int.toNat i) (ByteArray.empty, [], (0, [], []), 0, 0, 0)).snd.snd.fst.snd.snd (List.getD a (Int.toNat i) (ByteArray.empty, [], (0, [], []), 0, 0, 0)).snd.snd.snd.fst (List.getD a (Int.toNat i) (ByteArray.empty, [], (0, [], []), 0, 0, 0)).snd.snd.snd.snd.fst (List.getD a (Int.toNat i) (ByteArray.empty, [], (0, [], []), 0, 0, 0)).snd.snd.snd.snd.snd bare).bind fun r0 =>
      bif boundA i (List.length outs) then
        bif Nat.blt (Int.toNat i) (List.length outs) then
          w_toEntryS_1005 a bare (List.set outs (Int.toNat i) (r0.fst, (r0.snd.fst.fst, r0.snd.fst.snd), (r0.snd.snd.fst.fst, (r0.snd.snd.fst.snd.fst.fst, r0.snd.snd.fst.snd.fst.snd), r0.snd.snd.fst.snd.snd.fst, r0.snd.snd.fst.snd.snd.snd), r0.snd.snd.snd.fst, r0.snd.snd.snd.snd.fst, r0.snd.snd.snd.snd.snd)) (IntKind.wrap IntKind.i64 (i + 1))
        else
          none
      else
        none
    else
      none
  else
    w_toEntryS_1009 a outs ((↑(List.length a) : Int)) := by
  refine Lim.uniq (Lim.shift (Rlw_toEntryS_1005 a bare outs i)) (?_ : Lim (fun k => F24_1005 k ((l24 k).1) ((l24 k).2) a bare outs i) _)
  unfold F24_1005
  repeat' first | with_reducible exact Lim.ret _ | with_reducible exact Rw_toEntry _ _ _ _ _ _ _ _ _ | with_reducible exact Rlw_toEntryS_1005 _ _ _ _ | with_reducible exact Rlw_toEntryS_1009 _ _ _ | with_reducible refine Lim.cond ?_ ?_ | with_reducible refine Lim.bind ?_ fun _ => ?_
theorem Ew_toEntryS_1009 (a : List (ByteArray × List (List (Int × Int × Int × Int)) × (Int × List Int × List Int) × Int × Int × Int)) (outs : List (ByteArray × (List (List (Int × Int × Int × Int) × Nat) × Nat) × (Int × (List Int × Nat) × List Int × Nat) × Int × Int × Int)) (i : Int) : w_toEntryS_1009 a outs i =
  bif decide (i < (↑(List.length outs) : Int)) then
    bif boundA i (List.length outs) then
      bif Nat.blt (Int.toNat i) (List.length outs) then
        w_toEntryS_1009 a (List.set outs (Int.toNat i) ({ data := #[126, 115, 112, 97, 114, 101, 126] }, ([([(-7000000000000000101, -7000000000000000101, -7000000000000000101, -7000000000000000101)], List.length [(-7000000000000000101, -7000000000000000101, -7000000000000000101, -7000000000000000101)])], Option.getD none (List.length [([(-7000000000000000101, -7000000000000000101, -7000000000000000101, -7000000000000000101)], List.length [(-7000000000000000101, -7000000000000000101, -7000000000000000101, -7000000000000000101)])])), (-7000000000000000101, ([-7000000000000000101], Option.getD (some (Option.getD none (List.length [-7000000000000000101]))) (List.length [-7000000000000000101])), [-7000000000000000101], Option.getD (some (Option.getD none (List.length [-7000000000000000101]))) (List.length [-7000000000000000101])), -7000000000000000101, -7000000000000000101, -7000000000000000101)) (IntKind.wrap IntKind.i64 (i + 1))
      else
        none
    else
      none
  else
    bif boundE (↑(List.length a) : Int) (List.length outs) then
      some ((outs, Option.getD (some (Int.toNat (↑(List.length a) : Int))) (List.length outs)))
    else
      none := by
  refine Lim.uniq (Lim.shift (Rlw_toEntryS_1009 a outs i)) (?_ : Lim (fun k => F24_1009 k ((l24 k).1) ((l24 k).2) a outs i) _)
  unfold F24_1009
  repeat' first | with_reducible exact Lim.ret _ | with_reducible exact Rlw_toEntryS_1005 _ _ _ _ | with_reducible exact Rlw_toEntryS_1009 _ _ _ | with_reducible refine Lim.cond ?_ ?_ | with_reducible refine Lim.bind ?_ fun _ => ?_
noncomputable def w_toEntryS (a : List (ByteArray × (List (List (Int × Int × Int × Int))) × (Int × (List (Int)) × List (Int)) × Int × Int × Int)) (bare : Bool) : Option (List (ByteArray × (List (List (Int × Int × Int × Int) × Nat) × Nat) × (Int × (List (Int) × Nat) × List (Int) × Nat) × Int × Int × Int) × Nat) :=
  bif bare then
    bif decide ((↑(List.length a) : Int) = 0) then
      some (([], 0))
    else
      (w_roomBehind (↑(List.length a) : Int)).bind fun r0 =>
      bif decide (0 ≤ IntKind.wrap IntKind.i64 ((↑(List.length a) : Int) + r0)) then
        bif decide (IntKind.wrap IntKind.i64 ((↑(List.length a) : Int) + r0) ≤ IntKind.wrap IntKind.i64 ((↑(List.length a) : Int) + r0)) then
          bif decide (IntKind.wrap IntKind.i64 ((↑(List.length a) : Int) + r0) * (↑120 : Int) ≤ 140737488355328) then
            w_toEntryS_1005 a bare (List.replicate (Int.toNat (IntKind.wrap IntKind.i64 ((↑(List.length a) : Int) + r0))) (dflt (Ty.pair Ty.str (Ty.pair (Ty.vslice 152 (Ty.vslice 150 (Ty.pair (Ty.int IntKind.i64) (Ty.pair (Ty.int IntKind.i64) (Ty.pair (Ty.int IntKind.i64) (Ty.int IntKind.i64)))))) (Ty.pair (Ty.pair (Ty.int IntKind.i64) (Ty.pair (Ty.vslice 3 (Ty.int IntKind.i64)) (Ty.vslice 3 (Ty.int IntKind.i64)))) (Ty.pair (Ty.int IntKind.i64) (Ty.pair (Ty.int IntKind.i64) (Ty.int IntKind.i64)))))))) (0)
          else
            none
        else
          none
      else
        none
  else
    (w_roomBehind (↑(List.length a) : Int)).bind fun r1 =>
    bif decide (0 ≤ IntKind.wrap IntKind.i64 ((↑(List.length a) : Int) + r1)) then
      bif decide (IntKind.wrap IntKind.i64 ((↑(List.length a) : Int) + r1) ≤ IntKind.wrap IntKind.i64 ((↑(List.length a) : Int) + r1)) then
        bif decide (IntKind.wrap IntKind.i64 ((↑(List.length a) : Int) + r1) * (↑120 : Int) ≤ 140737488355328) then
          w_toEntryS_1005 a bare (List.replicate (Int.toNat (IntKind.wrap IntKind.i64 ((↑(List.length a) : Int) + r1))) (dflt (Ty.pair Ty.str (Ty.pair (Ty.vslice 152 (Ty.vslice 150 (Ty.pair (Ty.int IntKind.i64) (Ty.pair (Ty.int IntKind.i64) (Ty.pair (Ty.int IntKind.i64) (Ty.int IntKind.i64)))))) (Ty.pair (Ty.pair (Ty.int IntKind.i64) (Ty.pair (Ty.vslice 3 (Ty.int IntKind.i64)) (Ty.vslice 3 (Ty.int IntKind.i64)))) (Ty.pair (Ty.int IntKind.i64) (Ty.pair (Ty.int IntKind.i64) (Ty.int IntKind.i64)))))))) (0)
        else
          none
      else
        none
    else
      none
theorem Mw_toEntryS (k : Nat) (a : List (ByteArray × (List (List (Int × Int × Int × Int))) × (Int × (List (Int)) × List (Int)) × Int × Int × Int)) (bare : Bool) : Le (f24 k a bare) (f24 (k + 1) a bare) := by
  have h := Mlw_toEntryS k
  unfold f24 F24
  repeat' first | with_reducible exact Le.rfl _ | with_reducible exact Mw_roomBehind _ _ | with_reducible exact h.1 _ _ _ _ | with_reducible exact h.2 _ _ _ | with_reducible refine Le.cond ?_ ?_ | with_reducible refine Le.bind ?_ fun _ => ?_
theorem Rw_toEntryS (a : List (ByteArray × (List (List (Int × Int × Int × Int))) × (Int × (List (Int)) × List (Int)) × Int × Int × Int)) (bare : Bool) : Lim (fun k => f24 k a bare) (w_toEntryS a bare) := by
  unfold f24 F24 w_toEntryS
  repeat' first | with_reducible exact Lim.ret _ | with_reducible exact Rw_roomBehind _ | with_reducible exact Rlw_toEntryS_1005 _ _ _ _ | with_reducible exact Rlw_toEntryS_1009 _ _ _ | with_reducible refine Lim.cond ?_ ?_ | with_reducible refine Lim.bind ?_ fun _ => ?_

-- laws.eqIntS
theorem MFw_eqIntS_1004 (k : Nat) {r1004 q1004 : List Int → List Int → Int → Option (Bool)} (h1004 : ∀ (a : List Int) (b : List Int) (i : Int), Le (r1004 a b i) (q1004 a b i)) (a : List Int) (b : List Int) (i : Int) : Le (F31_1004 k r1004 a b i) (F31_1004 (k + 1) q1004 a b i) := by
  unfold F31_1004
  repeat' first | with_reducible exact Le.rfl _ | with_reducible exact h1004 _ _ _ | with_reducible refine Le.cond ?_ ?_ | with_reducible refine Le.bind ?_ fun _ => ?_
theorem Mlw_eqIntS : ∀ k : Nat, ∀ (a : List Int) (b : List Int) (i : Int), Le ((l31 k) a b i) ((l31 (k + 1)) a b i)
  | 0 => fun a b i => Le.no _
  | k + 1 => by
    have h := Mlw_eqIntS k
    exact fun a b i => MFw_eqIntS_1004 k h a b i
noncomputable def w_eqIntS_1004 (a : List Int) (b : List Int) (i : Int) : Option (Bool) := lim fun k => (l31 k) a b i
theorem Rlw_eqIntS_1004 (a : List Int) (b : List Int) (i : Int) : Lim (fun k => (l31 k) a b i) (w_eqIntS_1004 a b i) := Lim.of_mono fun k => Mlw_eqIntS k a b i
theorem Ew_eqIntS_1004 (a : List Int) (b : List Int) (i : Int) : w_eqIntS_1004 a b i =
  bif decide (i < (↑(List.length a) : Int)) then
    bif boundA i (List.length a) then
      bif boundA i (List.length b) then
        bif !decide (List.getD a (Int.toNat i) 0 = List.getD b (Int.toNat i) 0) then
          some false
        else
          w_eqIntS_1004 a b (IntKind.wrap IntKind.i64 (i + 1))
      else
        none
    else
      none
  else
    some true := by
  refine Lim.uniq (Lim.shift (Rlw_eqIntS_1004 a b i)) (?_ : Lim (fun k => F31_1004 k ((l31 k)) a b i) _)
  unfold F31_1004
  repeat' first | with_reducible exact Lim.ret _ | with_reducible exact Rlw_eqIntS_1004 _ _ _ | with_reducible refine Lim.cond ?_ ?_ | with_reducible refine Lim.bind ?_ fun _ => ?_
noncomputable def w_eqIntS (a : List (Int)) (b : List (Int)) : Option (Bool) :=
  bif !decide ((↑(List.length a) : Int) = (↑(List.length b) : Int)) then
    some false
  else
    w_eqIntS_1004 a b (0)
theorem Mw_eqIntS (k : Nat) (a : List (Int)) (b : List (Int)) : Le (f31 k a b) (f31 (k + 1) a b) := by
  have h := Mlw_eqIntS k
  unfold f31 F31
  repeat' first | with_reducible exact Le.rfl _ | with_reducible exact h _ _ _ | with_reducible refine Le.cond ?_ ?_ | with_reducible refine Le.bind ?_ fun _ => ?_
theorem Rw_eqIntS (a : List (Int)) (b : List (Int)) : Lim (fun k => f31 k a b) (w_eqIntS a b) := by
  unfold f31 F31 w_eqIntS
  repeat' first | with_reducible exact Lim.ret _ | with_reducible exact Rlw_eqIntS_1004 _ _ _ | with_reducible refine Lim.cond ?_ ?_ | with_reducible refine Lim.bind ?_ fun _ => ?_

-- laws.intactIntS
noncomputable def w_intactIntS (x : List (Int)) (x_n : Nat) (y : List (Int)) (y_n : Nat) : Option (Bool) :=
  (w_roomBehind (↑y_n : Int)).bind fun r0 =>
  bif decide ((↑x_n : Int) = (↑y_n : Int)) then
    bif boundE (IntKind.wrap IntKind.i64 ((↑y_n : Int) + r0)) (List.length x) then
      bif decide (0 ≤ 0) && decide (0 ≤ IntKind.wrap IntKind.i64 ((↑y_n : Int) + r0)) then
        bif boundE (IntKind.wrap IntKind.i64 ((↑y_n : Int) + r0)) (List.length y) then
          bif decide (0 ≤ 0) && decide (0 ≤ IntKind.wrap IntKind.i64 ((↑y_n : Int) + r0)) then
            (w_eqIntS (List.drop (Int.toNat 0) (List.take (Int.toNat (IntKind.wrap IntKind.i64 ((↑y_n : Int) + r0))) x)) (List.drop (Int.toNat 0) (List.take (Int.toNat (IntKind.wrap IntKind.i64 ((↑y_n : Int) + r0))) y))).bind fun r1 =>
            some r1
          else
            none
        else
          none
      else
        none
    else
      none
  else
    some false
theorem Mw_intactIntS (k : Nat) (x : List (Int)) (x_n : Nat) (y : List (Int)) (y_n : Nat) : Le (f19 k x x_n y y_n) (f19 (k + 1) x x_n y y_n) := by
  unfold f19
  repeat' first | with_reducible exact Le.rfl _ | with_reducible exact Mw_eqIntS _ _ _ | with_reducible exact Mw_roomBehind _ _ | with_reducible refine Le.cond ?_ ?_ | with_reducible refine Le.bind ?_ fun _ => ?_
theorem Rw_intactIntS (x : List (Int)) (x_n : Nat) (y : List (Int)) (y_n : Nat) : Lim (fun k => f19 k x x_n y y_n) (w_intactIntS x x_n y y_n) := by
  unfold f19 w_intactIntS
  repeat' first | with_reducible exact Lim.ret _ | with_reducible exact Rw_eqIntS _ _ | with_reducible exact Rw_roomBehind _ | with_reducible refine Lim.cond ?_ ?_ | with_reducible refine Lim.bind ?_ fun _ => ?_

-- laws.intactBox
noncomputable def w_intactBox (x_K : Int) (x_Low : List (Int)) (x_Low_n : Nat) (x_High : List (Int)) (x_High_n : Nat) (y_K : Int) (y_Low : List (Int)) (y_Low_n : Nat) (y_High : List (Int)) (y_High_n : Nat) : Option (Bool) :=
  bif !decide (x_K = y_K) then
    some false
  else
    (w_intactIntS x_Low x_Low_n y_Low y_Low_n).bind fun r0 =>
    bif !r0 then
      some false
    else
      (w_intactIntS x_High x_High_n y_High y_High_n).bind fun r1 =>
      bif !r1 then
        some false
      else
        some true
theorem Mw_intactBox (k : Nat) (x_K : Int) (x_Low : List (Int)) (x_Low_n : Nat) (x_High : List (Int)) (x_High_n : Nat) (y_K : Int) (y_Low : List (Int)) (y_Low_n : Nat) (y_High : List (Int)) (y_High_n : Nat) : Le (f41 k x_K x_Low x_Low_n x_High x_High_n y_K y_Low y_Low_n y_High y_High_n) (f41 (k + 1) x_K x_Low x_Low_n x_High x_High_n y_K y_Low y_Low_n y_High y_High_n) := by
  unfold f41
  repeat' first | with_reducible exact Le.rfl _ | with_reducible exact Mw_intactIntS _ _ _ _ _ | with_reducible refine Le.cond ?_ ?_ | with_reducible refine Le.bind ?_ fun _ => ?_
theorem Rw_intactBox (x_K : Int) (x_Low : List (Int)) (x_Low_n : Nat) (x_High : List (Int)) (x_High_n : Nat) (y_K : Int) (y_Low : List (Int)) (y_Low_n : Nat) (y_High : List (Int)) (y_High_n : Nat) : Lim (fun k => f41 k x_K x_Low x_Low_n x_High x_High_n y_K y_Low y_Low_n y_High y_High_n) (w_intactBox x_K x_Low x_Low_n x_High x_High_n y_K y_Low y_Low_n y_High y_High_n) := by
  unfold f41 w_intactBox
  repeat' first | with_reducible exact Lim.ret _ | with_reducible exact Rw_intactIntS _ _ _ _ | with_reducible refine Lim.cond ?_ ?_ | with_reducible refine Lim.bind ?_ fun _ => ?_

-- laws.eqTerm
noncomputable def w_eqTerm (a_C : Int) (a_X : Int) (a_Y : Int) (a_Z : Int) (b_C : Int) (b_X : Int) (b_Y : Int) (b_Z : Int) : Option (Bool) :=
  bif !decide (a_C = b_C) then
    some false
  else
    bif !decide (a_X = b_X) then
      some false
    else
      bif !decide (a_Y = b_Y) then
        some false
      else
        bif !decide (a_Z = b_Z) then
          some false
        else
          some true
theorem Mw_eqTerm (k : Nat) (a_C : Int) (a_X : Int) (a_Y : Int) (a_Z : Int) (b_C : Int) (b_X : Int) (b_Y : Int) (b_Z : Int) : Le (f281 k a_C a_X a_Y a_Z b_C b_X b_Y b_Z) (f281 (k + 1) a_C a_X a_Y a_Z b_C b_X b_Y b_Z) := by
  unfold f281
  repeat' first | with_reducible exact Le.rfl _ | with_reducible refine Le.cond ?_ ?_ | with_reducible refine Le.bind ?_ fun _ => ?_
theorem Rw_eqTerm (a_C : Int) (a_X : Int) (a_Y : Int) (a_Z : Int) (b_C : Int) (b_X : Int) (b_Y : Int) (b_Z : Int) : Lim (fun k => f281 k a_C a_X a_Y a_Z b_C b_X b_Y b_Z) (w_eqTerm a_C a_X a_Y a_Z b_C b_X b_Y b_Z) := by
  unfold f281 w_eqTerm
  repeat' first | with_reducible exact Lim.ret _ | with_reducible refine Lim.cond ?_ ?_ | with_reducible refine Lim.bind ?_ fun _ => ?_

-- laws.eqTermS
theorem MFw_eqTermS_1004 (k : Nat) {r1004 q1004 : List (Int × Int × Int × Int) → List (Int × Int × Int × Int) → Int → Option (Bool)} (h1004 : ∀ (a : List (Int × Int × Int × Int)) (b : List (Int × Int × Int × Int)) (i : Int), Le (r1004 a b i) (q1004 a b i)) (a : List (Int × Int × Int × Int)) (b : List (Int × Int × Int × Int)) (i : Int) : Le (F255_1004 k r1004 a b i) (F255_1004 (k + 1) q1004 a b i) := by
  unfold F255_1004
  repeat' first | with_reducible exact Le.rfl _ | with_reducible exact Mw_eqTerm _ _ _ _ _ _ _ _ _ | with_reducible exact h1004 _ _ _ | with_reducible refine Le.cond ?_ ?_ | with_reducible refine Le.bind ?_ fun _ => ?_
theorem Mlw_eqTermS : ∀ k : Nat, ∀ (a : List (Int × Int × Int × Int)) (b : List (Int × Int × Int × Int)) (i : Int), Le ((l255 k) a b i) ((l255 (k + 1)) a b i)
  | 0 => fun a b i => Le.no _
  | k + 1 => by
    have h := Mlw_eqTermS k
    exact fun a b i => MFw_eqTermS_1004 k h a b i
noncomputable def w_eqTermS_1004 (a : List (Int × Int × Int × Int)) (b : List (Int × Int × Int × Int)) (i : Int) : Option (Bool) := lim fun k => (l255 k) a b i
theorem Rlw_eqTermS_1004 (a : List (Int × Int × Int × Int)) (b : List (Int × Int × Int × Int)) (i : Int) : Lim (fun k => (l255 k) a b i) (w_eqTermS_1004 a b i) := Lim.of_mono fun k => Mlw_eqTermS k a b i
theorem Ew_eqTermS_1004 (a : List (Int × Int × Int × Int)) (b : List (Int × Int × Int × Int)) (i : Int) : w_eqTermS_1004 a b i =
  bif decide (i < (↑(List.length a) : Int)) then
    bif boundA i (List.length a) then
      bif boundA i (List.length b) then
        (w_eqTerm (List.getD a (Int.toNat i) (0, 0, 0, 0)).fst (List.getD a (Int.toNat i) (0, 0, 0, 0)).snd.fst (List.getD a (Int.toNat i) (0, 0, 0, 0)).snd.snd.fst (List.getD a (Int.toNat i) (0, 0, 0, 0)).snd.snd.snd (List.getD b (Int.toNat i) (0, 0, 0, 0)).fst (List.getD b (Int.toNat i) (0, 0, 0, 0)).snd.fst (List.getD b (Int.toNat i) (0, 0, 0, 0)).snd.snd.fst (List.getD b (Int.toNat i) (0, 0, 0, 0)).snd.snd.snd).bind fun r0 =>
        bif !r0 then
          some false
        else
          w_eqTermS_1004 a b (IntKind.wrap IntKind.i64 (i + 1))
      else
        none
    else
      none
  else
    some true := by
  refine Lim.uniq (Lim.shift (Rlw_eqTermS_1004 a b i)) (?_ : Lim (fun k => F255_1004 k ((l255 k)) a b i) _)
  unfold F255_1004
  repeat' first | with_reducible exact Lim.ret _ | with_reducible exact Rw_eqTerm _ _ _ _ _ _ _ _ | with_reducible exact Rlw_eqTermS_1004 _ _ _ | with_reducible refine Lim.cond ?_ ?_ | with_reducible refine Lim.bind ?_ fun _ => ?_
noncomputable def w_eqTermS (a : List (Int × Int × Int × Int)) (b : List (Int × Int × Int × Int)) : Option (Bool) :=
  bif !decide ((↑(List.length a) : Int) = (↑(List.length b) : Int)) then
    some false
  else
    w_eqTermS_1004 a b (0)
theorem Mw_eqTermS (k : Nat) (a : List (Int × Int × Int × Int)) (b : List (Int × Int × Int × Int)) : Le (f255 k a b) (f255 (k + 1) a b) := by
  have h := Mlw_eqTermS k
  unfold f255 F255
  repeat' first | with_reducible exact Le.rfl _ | with_reducible exact h _ _ _ | with_reducible refine Le.cond ?_ ?_ | with_reducible refine Le.bind ?_ fun _ => ?_
theorem Rw_eqTermS (a : List (Int × Int × Int × Int)) (b : List (Int × Int × Int × Int)) : Lim (fun k => f255 k a b) (w_eqTermS a b) := by
  unfold f255 F255 w_eqTermS
  repeat' first | with_reducible exact Lim.ret _ | with_reducible exact Rlw_eqTermS_1004 _ _ _ | with_reducible refine Lim.cond ?_ ?_ | with_reducible refine Lim.bind ?_ fun _ => ?_

-- laws.intactTermS
noncomputable def w_intactTermS (x : List (Int × Int × Int × Int)) (x_n : Nat) (y : List (Int × Int × Int × Int)) (y_n : Nat) : Option (Bool) :=
  (w_roomBehind (↑y_n : Int)).bind fun r0 =>
  bif decide ((↑x_n : Int) = (↑y_n : Int)) then
    bif boundE (IntKind.wrap IntKind.i64 ((↑y_n : Int) + r0)) (List.length x) then
      bif decide (0 ≤ 0) && decide (0 ≤ IntKind.wrap IntKind.i64 ((↑y_n : Int) + r0)) then
        bif boundE (IntKind.wrap IntKind.i64 ((↑y_n : Int) + r0)) (List.length y) then
          bif decide (0 ≤ 0) && decide (0 ≤ IntKind.wrap IntKind.i64 ((↑y_n : Int) + r0)) then
            (w_eqTermS (List.drop (Int.toNat 0) (List.take (Int.toNat (IntKind.wrap IntKind.i64 ((↑y_n : Int) + r0))) x)) (List.drop (Int.toNat 0) (List.take (Int.toNat (IntKind.wrap IntKind.i64 ((↑y_n : Int) + r0))) y))).bind fun r1 =>
            some r1
          else
            none
        else
          none
      else
        none
    else
      none
  else
    some false
theorem Mw_intactTermS (k : Nat) (x : List (Int × Int × Int × Int)) (x_n : Nat) (y : List (Int × Int × Int × Int)) (y_n : Nat) : Le (f210 k x x_n y y_n) (f210 (k + 1) x x_n y y_n) := by
  unfold f210
  repeat' first | with_reducible exact Le.rfl _ | with_reducible exact Mw_eqTermS _ _ _ | with_reducible exact Mw_roomBehind _ _ | with_reducible refine Le.cond ?_ ?_ | with_reducible refine Le.bind ?_ fun _ => ?_
theorem Rw_intactTermS (x : List (Int × Int × Int × Int)) (x_n : Nat) (y : List (Int × Int × Int × Int)) (y_n : Nat) : Lim (fun k => f210 k x x_n y y_n) (w_intactTermS x x_n y y_n) := by
  unfold f210 w_intactTermS
  repeat' first | with_reducible exact Lim.ret _ | with_reducible exact Rw_eqTermS _ _ | with_reducible exact Rw_roomBehind _ | with_reducible refine Lim.cond ?_ ?_ | with_reducible refine Lim.bind ?_ fun _ => ?_

-- laws.eqTermSS
theorem MFw_eqTermSS_1004 (k : Nat) {r1004 q1004 : List (List (Int × Int × Int × Int)) → List (List (Int × Int × Int × Int)) → Int → Option (Bool)} (h1004 : ∀ (a : List (List (Int × Int × Int × Int))) (b : List (List (Int × Int × Int × Int))) (i : Int), Le (r1004 a b i) (q1004 a b i)) (a : List (List (Int × Int × Int × Int))) (b : List (List (Int × Int × Int × Int))) (i : Int) : Le (F211_1004 k r1004 a b i) (F211_1004 (k + 1) q1004 a b i) := by
  unfold F211_1004
  repeat' first | with_reducible exact Le.rfl _ | with_reducible exact Mw_eqTermS _ _ _ | with_reducible exact h1004 _ _ _ | with_reducible refine Le.cond ?_ ?_ | with_reducible refine Le.bind ?_ fun _ => ?_
theorem Mlw_eqTermSS : ∀ k : Nat, ∀ (a : List (List (Int × Int × Int × Int))) (b : List (List (Int × Int × Int × Int))) (i : Int), Le ((l211 k) a b i) ((l211 (k + 1)) a b i)
  | 0 => fun a b i => Le.no _
  | k + 1 => by
    have h := Mlw_eqTermSS k
    exact fun a b i => MFw_eqTermSS_1004 k h a b i
noncomputable def w_eqTermSS_1004 (a : List (List (Int × Int × Int × Int))) (b : List (List (Int × Int × Int × Int))) (i : Int) : Option (Bool) := lim fun k => (l211 k) a b i
theorem Rlw_eqTermSS_1004 (a : List (List (Int × Int × Int × Int))) (b : List (List (Int × Int × Int × Int))) (i : Int) : Lim (fun k => (l211 k) a b i) (w_eqTermSS_1004 a b i) := Lim.of_mono fun k => Mlw_eqTermSS k a b i
theorem Ew_eqTermSS_1004 (a : List (List (Int × Int × Int × Int))) (b : List (List (Int × Int × Int × Int))) (i : Int) : w_eqTermSS_1004 a b i =
  bif decide (i < (↑(List.length a) : Int)) then
    bif boundA i (List.length a) then
      bif boundA i (List.length b) then
        (w_eqTermS (List.getD a (Int.toNat i) []) (List.getD b (Int.toNat i) [])).bind fun r0 =>
        bif !r0 then
          some false
        else
          w_eqTermSS_1004 a b (IntKind.wrap IntKind.i64 (i + 1))
      else
        none
    else
      none
  else
    some true := by
  refine Lim.uniq (Lim.shift (Rlw_eqTermSS_1004 a b i)) (?_ : Lim (fun k => F211_1004 k ((l211 k)) a b i) _)
  unfold F211_1004
  repeat' first | with_reducible exact Lim.ret _ | with_reducible exact Rw_eqTermS _ _ | with_reducible exact Rlw_eqTermSS_1004 _ _ _ | with_reducible refine Lim.cond ?_ ?_ | with_reducible refine Lim.bind ?_ fun _ => ?_
noncomputable def w_eqTermSS (a : List (List (Int × Int × Int × Int))) (b : List (List (Int × Int × Int × Int))) : Option (Bool) :=
  bif !decide ((↑(List.length a) : Int) = (↑(List.length b) : Int)) then
    some false
  else
    w_eqTermSS_1004 a b (0)
theorem Mw_eqTermSS (k : Nat) (a : List (List (Int × Int × Int × Int))) (b : List (List (Int × Int × Int × Int))) : Le (f211 k a b) (f211 (k + 1) a b) := by
  have h := Mlw_eqTermSS k
  unfold f211 F211
  repeat' first | with_reducible exact Le.rfl _ | with_reducible exact h _ _ _ | with_reducible refine Le.cond ?_ ?_ | with_reducible refine Le.bind ?_ fun _ => ?_
theorem Rw_eqTermSS (a : List (List (Int × Int × Int × Int))) (b : List (List (Int × Int × Int × Int))) : Lim (fun k => f211 k a b) (w_eqTermSS a b) := by
  unfold f211 F211 w_eqTermSS
  repeat' first | with_reducible exact Lim.ret _ | with_reducible exact Rlw_eqTermSS_1004 _ _ _ | with_reducible refine Lim.cond ?_ ?_ | with_reducible refine Lim.bind ?_ fun _ => ?_

-- laws.intactTermSS
theorem MFw_intactTermSS_1005 (k : Nat) {r1005 q1005 : List (List (Int × Int × Int × Int) × Nat) → Nat → List (List (Int × Int × Int × Int) × Nat) → Nat → Int → Int → Option (Bool)} (h1005 : ∀ (x : List (List (Int × Int × Int × Int) × Nat)) (x_n : Nat) (y : List (List (Int × Int × Int × Int) × Nat)) (y_n : Nat) (n : Int) (i : Int), Le (r1005 x x_n y y_n n i) (q1005 x x_n y y_n n i)) (x : List (List (Int × Int × Int × Int) × Nat)) (x_n : Nat) (y : List (List (Int × Int × Int × Int) × Nat)) (y_n : Nat) (n : Int) (i : Int) : Le (F145_1005 k r1005 x x_n y y_n n i) (F145_1005 (k + 1) q1005 x x_n y y_n n i) := by
  unfold F145_1005
  repeat' first | with_reducible exact Le.rfl _ | with_reducible exact Mw_intactTermS _ _ _ _ _ | with_reducible exact Mw_eqTermSS _ _ _ | with_reducible exact h1005 _ _ _ _ _ _ | with_reducible refine Le.cond ?_ ?_ | with_reducible refine Le.bind ?_ fun _ => ?_
theorem Mlw_intactTermSS : ∀ k : Nat, ∀ (x : List (List (Int × Int × Int × Int) × Nat)) (x_n : Nat) (y : List (List (Int × Int × Int × Int) × Nat)) (y_n : Nat) (n : Int) (i : Int), Le ((l145 k) x x_n y y_n n i) ((l145 (k + 1)) x x_n y y_n n i)
  | 0 => fun x x_n y y_n n i => Le.no _
  | k + 1 => by
    have h := Mlw_intactTermSS k
    exact fun x x_n y y_n n i => MFw_intactTermSS_1005 k h x x_n y y_n n i
noncomputable def w_intactTermSS_1005 (x : List (List (Int × Int × Int × Int) × Nat)) (x_n : Nat) (y : List (List (Int × Int × Int × Int) × Nat)) (y_n : Nat) (n : Int) (i : Int) : Option (Bool) := lim fun k => (l145 k) x x_n y y_n n i
theorem Rlw_intactTermSS_1005 (x : List (List (Int × Int × Int × Int) × Nat)) (x_n : Nat) (y : List (List (Int × Int × Int × Int) × Nat)) (y_n : Nat) (n : Int) (i : Int) : Lim (fun k => (l145 k) x x_n y y_n n i) (w_intactTermSS_1005 x x_n y y_n n i) := Lim.of_mono fun k => Mlw_intactTermSS k x x_n y y_n n i
theorem Ew_intactTermSS_1005 (x : List (List (Int × Int × Int × Int) × Nat)) (x_n : Nat) (y : List (List (Int × Int × Int × Int) × Nat)) (y_n : Nat) (n : Int) (i : Int) : w_intactTermSS_1005 x x_n y y_n n i =
  bif decide (i < (↑y_n : Int)) then
    bif boundA i x_n then
      bif boundA i y_n then
        (w_intactTermS (List.getD x (Int.toNat i) ([], 0)).fst (List.getD x (Int.toNat i) ([], 0)).snd (List.getD y (Int.toNat i) ([], 0)).fst (List.getD y (Int.toNat i) ([], 0)).snd).bind fun r0 =>
        bif !r0 then
          some false
        else
          w_intactTermSS_1005 x x_n y y_n n (IntKind.wrap IntKind.i64 (i + 1))
      else
        none
    else
      none
  else
    bif boundE n (List.length x) then
      bif decide (0 ≤ (↑y_n : Int)) && decide ((↑y_n : Int) ≤ n) then
        bif boundE n (List.length y) then
          bif decide (0 ≤ (↑y_n : Int)) && decide ((↑y_n : Int) ≤ n) then
            (w_eqTermSS (List.map (fun (x : T (Ty.vslice 150 (Ty.pair (Ty.int IntKind.i64) (Ty.pair (Ty.int IntKind.i64) (Ty.pair (Ty.int IntKind.i64) (Ty.int IntKind.i64)))))) => List.map (fun (x : T (Ty.pair (Ty.int IntKind.i64) (Ty.pair (Ty.int IntKind.i64) (Ty.pair (Ty.int IntKind.i64) (Ty.int IntKind.i64))))) => (x.fst, x.snd.fst, x.snd.snd.fst, x.snd.snd.snd)) (List.take x.snd x.fst)) (List.drop (Int.toNat (↑y_n : Int)) (List.take (Int.toNat n) x))) (List.map (fun (x : T (Ty.vslice 150 (Ty.pair (Ty.int IntKind.i64) (Ty.pair (Ty.int IntKind.i64) (Ty.pair (Ty.int IntKind.i64) (Ty.int IntKind.i64)))))) => List.map (fun (x : T (Ty.pair (Ty.int IntKind.i64) (Ty.pair (Ty.int IntKind.i64) (Ty.pair (Ty.int IntKind.i64) (Ty.int IntKind.i64))))) => (x.fst, x.snd.fst, x.snd.snd.fst, x.snd.snd.snd)) (List.take x.snd x.fst)) (List.drop (Int.toNat (↑y_n : Int)) (List.take (Int.toNat n) y)))).bind fun r1 =>
            some r1
          else
            none
        else
          none
      else
        none
    else
      none := by
  refine Lim.uniq (Lim.shift (Rlw_intactTermSS_1005 x x_n y y_n n i)) (?_ : Lim (fun k => F145_1005 k ((l145 k)) x x_n y y_n n i) _)
  unfold F145_1005
  repeat' first | with_reducible exact Lim.ret _ | with_reducible exact Rw_intactTermS _ _ _ _ | with_reducible exact Rw_eqTermSS _ _ | with_reducible exact Rlw_intactTermSS_1005 _ _ _ _ _ _ | with_reducible refine Lim.cond ?_ ?_ | with_reducible refine Lim.bind ?_ fun _ => ?_
noncomputable def w_intactTermSS (x : List (List (Int × Int × Int × Int) × Nat)) (x_n : Nat) (y : List (List (Int × Int × Int × Int) × Nat)) (y_n : Nat) : Option (Bool) :=
  (w_roomBehind (↑y_n : Int)).bind fun r0 =>
  bif !decide ((↑x_n : Int) = (↑y_n : Int)) then
    some false
  else
    w_intactTermSS_1005 x x_n y y_n (IntKind.wrap IntKind.i64 ((↑y_n : Int) + r0)) (0)
theorem Mw_intactTermSS (k : Nat) (x : List (List (Int × Int × Int × Int) × Nat)) (x_n : Nat) (y : List (List (Int × Int × Int × Int) × Nat)) (y_n : Nat) : Le (f145 k x x_n y y_n) (f145 (k + 1) x x_n y y_n) := by
  have h := Mlw_intactTermSS k
  unfold f145 F145
  repeat' first | with_reducible exact Le.rfl _ | with_reducible exact Mw_roomBehind _ _ | with_reducible exact h _ _ _ _ _ _ | with_reducible refine Le.cond ?_ ?_ | with_reducible refine Le.bind ?_ fun _ => ?_
theorem Rw_intactTermSS (x : List (List (Int × Int × Int × Int) × Nat)) (x_n : Nat) (y : List (List (Int × Int × Int × Int) × Nat)) (y_n : Nat) : Lim (fun k => f145 k x x_n y y_n) (w_intactTermSS x x_n y y_n) := by
  unfold f145 F145 w_intactTermSS
  repeat' first | with_reducible exact Lim.ret _ | with_reducible exact Rw_roomBehind _ | with_reducible exact Rlw_intactTermSS_1005 _ _ _ _ _ _ | with_reducible refine Lim.cond ?_ ?_ | with_reducible refine Lim.bind ?_ fun _ => ?_

-- laws.intactEntry
noncomputable def w_intactEntry (x_Name : ByteArray) (x_System : List (List (Int × Int × Int × Int) × Nat)) (x_System_n : Nat) (x_Box_K : Int) (x_Box_Low : List (Int)) (x_Box_Low_n : Nat) (x_Box_High : List (Int)) (x_Box_High_n : Nat) (x_Least : Int) (x_Most : Int) (x_Version : Int) (y_Name : ByteArray) (y_System : List (List (Int × Int × Int × Int) × Nat)) (y_System_n : Nat) (y_Box_K : Int) (y_Box_Low : List (Int)) (y_Box_Low_n : Nat) (y_Box_High : List (Int)) (y_Box_High_n : Nat) (y_Least : Int) (y_Most : Int) (y_Version : Int) : Option (Bool) :=
  bif !ByteArray.toList x_Name == ByteArray.toList y_Name then
    some false
  else
    (w_intactTermSS x_System x_System_n y_System y_System_n).bind fun r0 =>
    bif !r0 then
      some false
    else
      (w_intactBox x_Box_K x_Box_Low x_Box_Low_n x_Box_High x_Box_High_n y_Box_K y_Box_Low y_Box_Low_n y_Box_High y_Box_High_n).bind fun r1 =>
      bif !r1 then
        some false
      else
        bif !decide (x_Least = y_Least) then
          some false
        else
          bif !decide (x_Most = y_Most) then
            some false
          else
            bif !decide (x_Version = y_Version) then
              some false
            else
              some true
theorem Mw_intactEntry (k : Nat) (x_Name : ByteArray) (x_System : List (List (Int × Int × Int × Int) × Nat)) (x_System_n : Nat) (x_Box_K : Int) (x_Box_Low : List (Int)) (x_Box_Low_n : Nat) (x_Box_High : List (Int)) (x_Box_High_n : Nat) (x_Least : Int) (x_Most : Int) (x_Version : Int) (y_Name : ByteArray) (y_System : List (List (Int × Int × Int × Int) × Nat)) (y_System_n : Nat) (y_Box_K : Int) (y_Box_Low : List (Int)) (y_Box_Low_n : Nat) (y_Box_High : List (Int)) (y_Box_High_n : Nat) (y_Least : Int) (y_Most : Int) (y_Version : Int) : Le (f87 k x_Name x_System x_System_n x_Box_K x_Box_Low x_Box_Low_n x_Box_High x_Box_High_n x_Least x_Most x_Version y_Name y_System y_System_n y_Box_K y_Box_Low y_Box_Low_n y_Box_High y_Box_High_n y_Least y_Most y_Version) (f87 (k + 1) x_Name x_System x_System_n x_Box_K x_Box_Low x_Box_Low_n x_Box_High x_Box_High_n x_Least x_Most x_Version y_Name y_System y_System_n y_Box_K y_Box_Low y_Box_Low_n y_Box_High y_Box_High_n y_Least y_Most y_Version) := by
  unfold f87
  repeat' first | with_reducible exact Le.rfl _ | with_reducible exact Mw_intactTermSS _ _ _ _ _ | with_reducible exact Mw_intactBox _ _ _ _ _ _ _ _ _ _ _ | with_reducible refine Le.cond ?_ ?_ | with_reducible refine Le.bind ?_ fun _ => ?_
theorem Rw_intactEntry (x_Name : ByteArray) (x_System : List (List (Int × Int × Int × Int) × Nat)) (x_System_n : Nat) (x_Box_K : Int) (x_Box_Low : List (Int)) (x_Box_Low_n : Nat) (x_Box_High : List (Int)) (x_Box_High_n : Nat) (x_Least : Int) (x_Most : Int) (x_Version : Int) (y_Name : ByteArray) (y_System : List (List (Int × Int × Int × Int) × Nat)) (y_System_n : Nat) (y_Box_K : Int) (y_Box_Low : List (Int)) (y_Box_Low_n : Nat) (y_Box_High : List (Int)) (y_Box_High_n : Nat) (y_Least : Int) (y_Most : Int) (y_Version : Int) : Lim (fun k => f87 k x_Name x_System x_System_n x_Box_K x_Box_Low x_Box_Low_n x_Box_High x_Box_High_n x_Least x_Most x_Version y_Name y_System y_System_n y_Box_K y_Box_Low y_Box_Low_n y_Box_High y_Box_High_n y_Least y_Most y_Version) (w_intactEntry x_Name x_System x_System_n x_Box_K x_Box_Low x_Box_Low_n x_Box_High x_Box_High_n x_Least x_Most x_Version y_Name y_System y_System_n y_Box_K y_Box_Low y_Box_Low_n y_Box_High y_Box_High_n y_Least y_Most y_Version) := by
  unfold f87 w_intactEntry
  repeat' first | with_reducible exact Lim.ret _ | with_reducible exact Rw_intactTermSS _ _ _ _ | with_reducible exact Rw_intactBox _ _ _ _ _ _ _ _ _ _ | with_reducible refine Lim.cond ?_ ?_ | with_reducible refine Lim.bind ?_ fun _ => ?_

-- laws.eqBox
noncomputable def w_eqBox (a_K : Int) (a_Low : List (Int)) (a_High : List (Int)) (b_K : Int) (b_Low : List (Int)) (b_High : List (Int)) : Option (Bool) :=
  bif !decide (a_K = b_K) then
    some false
  else
    (w_eqIntS a_Low b_Low).bind fun r0 =>
    bif !r0 then
      some false
    else
      (w_eqIntS a_High b_High).bind fun r1 =>
      bif !r1 then
        some false
      else
        some true
theorem Mw_eqBox (k : Nat) (a_K : Int) (a_Low : List (Int)) (a_High : List (Int)) (b_K : Int) (b_Low : List (Int)) (b_High : List (Int)) : Le (f104 k a_K a_Low a_High b_K b_Low b_High) (f104 (k + 1) a_K a_Low a_High b_K b_Low b_High) := by
  unfold f104
  repeat' first | with_reducible exact Le.rfl _ | with_reducible exact Mw_eqIntS _ _ _ | with_reducible refine Le.cond ?_ ?_ | with_reducible refine Le.bind ?_ fun _ => ?_
theorem Rw_eqBox (a_K : Int) (a_Low : List (Int)) (a_High : List (Int)) (b_K : Int) (b_Low : List (Int)) (b_High : List (Int)) : Lim (fun k => f104 k a_K a_Low a_High b_K b_Low b_High) (w_eqBox a_K a_Low a_High b_K b_Low b_High) := by
  unfold f104 w_eqBox
  repeat' first | with_reducible exact Lim.ret _ | with_reducible exact Rw_eqIntS _ _ | with_reducible refine Lim.cond ?_ ?_ | with_reducible refine Lim.bind ?_ fun _ => ?_

-- laws.eqEntry
noncomputable def w_eqEntry (a_Name : ByteArray) (a_System : List (List (Int × Int × Int × Int))) (a_Box_K : Int) (a_Box_Low : List (Int)) (a_Box_High : List (Int)) (a_Least : Int) (a_Most : Int) (a_Version : Int) (b_Name : ByteArray) (b_System : List (List (Int × Int × Int × Int))) (b_Box_K : Int) (b_Box_Low : List (Int)) (b_Box_High : List (Int)) (b_Least : Int) (b_Most : Int) (b_Version : Int) : Option (Bool) :=
  bif !ByteArray.toList a_Name == ByteArray.toList b_Name then
    some false
  else
    (w_eqTermSS a_System b_System).bind fun r0 =>
    bif !r0 then
      some false
    else
      (w_eqBox a_Box_K a_Box_Low a_Box_High b_Box_K b_Box_Low b_Box_High).bind fun r1 =>
      bif !r1 then
        some false
      else
        bif !decide (a_Least = b_Least) then
          some false
        else
          bif !decide (a_Most = b_Most) then
            some false
          else
            bif !decide (a_Version = b_Version) then
              some false
            else
              some true
theorem Mw_eqEntry (k : Nat) (a_Name : ByteArray) (a_System : List (List (Int × Int × Int × Int))) (a_Box_K : Int) (a_Box_Low : List (Int)) (a_Box_High : List (Int)) (a_Least : Int) (a_Most : Int) (a_Version : Int) (b_Name : ByteArray) (b_System : List (List (Int × Int × Int × Int))) (b_Box_K : Int) (b_Box_Low : List (Int)) (b_Box_High : List (Int)) (b_Least : Int) (b_Most : Int) (b_Version : Int) : Le (f146 k a_Name a_System a_Box_K a_Box_Low a_Box_High a_Least a_Most a_Version b_Name b_System b_Box_K b_Box_Low b_Box_High b_Least b_Most b_Version) (f146 (k + 1) a_Name a_System a_Box_K a_Box_Low a_Box_High a_Least a_Most a_Version b_Name b_System b_Box_K b_Box_Low b_Box_High b_Least b_Most b_Version) := by
  unfold f146
  repeat' first | with_reducible exact Le.rfl _ | with_reducible exact Mw_eqBox _ _ _ _ _ _ _ | with_reducible exact Mw_eqTermSS _ _ _ | with_reducible refine Le.cond ?_ ?_ | with_reducible refine Le.bind ?_ fun _ => ?_
theorem Rw_eqEntry (a_Name : ByteArray) (a_System : List (List (Int × Int × Int × Int))) (a_Box_K : Int) (a_Box_Low : List (Int)) (a_Box_High : List (Int)) (a_Least : Int) (a_Most : Int) (a_Version : Int) (b_Name : ByteArray) (b_System : List (List (Int × Int × Int × Int))) (b_Box_K : Int) (b_Box_Low : List (Int)) (b_Box_High : List (Int)) (b_Least : Int) (b_Most : Int) (b_Version : Int) : Lim (fun k => f146 k a_Name a_System a_Box_K a_Box_Low a_Box_High a_Least a_Most a_Version b_Name b_System b_Box_K b_Box_Low b_Box_High b_Least b_Most b_Version) (w_eqEntry a_Name a_System a_Box_K a_Box_Low a_Box_High a_Least a_Most a_Version b_Name b_System b_Box_K b_Box_Low b_Box_High b_Least b_Most b_Version) := by
  unfold f146 w_eqEntry
  repeat' first | with_reducible exact Lim.ret _ | with_reducible exact Rw_eqBox _ _ _ _ _ _ | with_reducible exact Rw_eqTermSS _ _ | with_reducible refine Lim.cond ?_ ?_ | with_reducible refine Lim.bind ?_ fun _ => ?_

-- laws.eqEntryS
theorem MFw_eqEntryS_1004 (k : Nat) {r1004 q1004 : List (ByteArray × List (List (Int × Int × Int × Int)) × (Int × List Int × List Int) × Int × Int × Int) → List (ByteArray × List (List (Int × Int × Int × Int)) × (Int × List Int × List Int) × Int × Int × Int) → Int → Option (Bool)} (h1004 : ∀ (a : List (ByteArray × List (List (Int × Int × Int × Int)) × (Int × List Int × List Int) × Int × Int × Int)) (b : List (ByteArray × List (List (Int × Int × Int × Int)) × (Int × List Int × List Int) × Int × Int × Int)) (i : Int), Le (r1004 a b i) (q1004 a b i)) (a : List (ByteArray × List (List (Int × Int × Int × Int)) × (Int × List Int × List Int) × Int × Int × Int)) (b : List (ByteArray × List (List (Int × Int × Int × Int)) × (Int × List Int × List Int) × Int × Int × Int)) (i : Int) : Le (F88_1004 k r1004 a b i) (F88_1004 (k + 1) q1004 a b i) := by
  unfold F88_1004
  repeat' first | with_reducible exact Le.rfl _ | with_reducible exact Mw_eqEntry _ _ _ _ _ _ _ _ _ _ _ _ _ _ _ _ _ | with_reducible exact h1004 _ _ _ | with_reducible refine Le.cond ?_ ?_ | with_reducible refine Le.bind ?_ fun _ => ?_
theorem Mlw_eqEntryS : ∀ k : Nat, ∀ (a : List (ByteArray × List (List (Int × Int × Int × Int)) × (Int × List Int × List Int) × Int × Int × Int)) (b : List (ByteArray × List (List (Int × Int × Int × Int)) × (Int × List Int × List Int) × Int × Int × Int)) (i : Int), Le ((l88 k) a b i) ((l88 (k + 1)) a b i)
  | 0 => fun a b i => Le.no _
  | k + 1 => by
    have h := Mlw_eqEntryS k
    exact fun a b i => MFw_eqEntryS_1004 k h a b i
noncomputable def w_eqEntryS_1004 (a : List (ByteArray × List (List (Int × Int × Int × Int)) × (Int × List Int × List Int) × Int × Int × Int)) (b : List (ByteArray × List (List (Int × Int × Int × Int)) × (Int × List Int × List Int) × Int × Int × Int)) (i : Int) : Option (Bool) := lim fun k => (l88 k) a b i
theorem Rlw_eqEntryS_1004 (a : List (ByteArray × List (List (Int × Int × Int × Int)) × (Int × List Int × List Int) × Int × Int × Int)) (b : List (ByteArray × List (List (Int × Int × Int × Int)) × (Int × List Int × List Int) × Int × Int × Int)) (i : Int) : Lim (fun k => (l88 k) a b i) (w_eqEntryS_1004 a b i) := Lim.of_mono fun k => Mlw_eqEntryS k a b i
theorem Ew_eqEntryS_1004 (a : List (ByteArray × List (List (Int × Int × Int × Int)) × (Int × List Int × List Int) × Int × Int × Int)) (b : List (ByteArray × List (List (Int × Int × Int × Int)) × (Int × List Int × List Int) × Int × Int × Int)) (i : Int) : w_eqEntryS_1004 a b i =
  bif decide (i < (↑(List.length a) : Int)) then
    bif boundA i (List.length a) then
      bif boundA i (List.length b) then
        (w_eqEntry (List.getD a (Int.toNat i) (ByteArray.empty, [], (0, [], []), 0, 0, 0)).fst (List.getD a (Int.toNat i) (ByteArray.empty, [], (0, [], []), 0, 0, 0)).snd.fst (List.getD a (Int.toNat i) (ByteArray.empty, [], (0, [], []), 0, 0, 0)).snd.snd.fst.fst (List.getD a (Int.toNat i) (ByteArray.empty, [], (0, [], []), 0, 0, 0)).snd.snd.fst.snd.fst (List.getD a (Int.toNat i) (ByteArray.empty, [], (0, [], []), 0, 0, 0)).snd.snd.fst.snd.snd (List.getD a (Int.toNat i) (ByteArray.empty, [], (0, [], []), 0, 0, 0)).snd.snd.snd.fst (List.getD a (Int.toNat i) (ByteArray.empty, [], (0, [], []), 0, 0, 0)).snd.snd.snd.snd.fst (List.getD a (Int.toNat i) (ByteArray.empty, [], (0, [], []), 0, 0, 0)).snd.snd.snd.snd.snd (List.getD b (Int.toNat i) (ByteArray.empty, [], (0, [], []), 0, 0, 0)).fst (List.getD b (Int.toNat i) (ByteArray.empty, [], (0, [], []), 0, 0, 0)).snd.fst (List.getD b (Int.toNat i) (ByteArray.empty, [], (0, [], []), 0, 0, 0)).snd.snd.fst.fst (List.getD b (Int.toNat i) (ByteArray.empty, [], (0, [], []), 0, 0, 0)).snd.snd.fst.snd.fst (List.getD b (Int.toNat i) (ByteArray.empty, [], (0, [], []), 0, 0, 0)).snd.snd.fst.snd.snd (List.getD b (Int.toNat i) (ByteArray.empty, [], (0, [], []), 0, 0, 0)).snd.snd.snd.fst (List.getD b (Int.toNat i) (ByteArray.empty, [], (0, [], []), 0, 0, 0)).snd.snd.snd.snd.fst (List.getD b (Int.toNat i) (ByteArray.empty, [], (0, [], []), 0, 0, 0)).snd.snd.snd.snd.snd).bind fun r0 =>
        bif !r0 then
          some false
        else
          w_eqEntryS_1004 a b (IntKind.wrap IntKind.i64 (i + 1))
      else
        none
    else
      none
  else
    some true := by
  refine Lim.uniq (Lim.shift (Rlw_eqEntryS_1004 a b i)) (?_ : Lim (fun k => F88_1004 k ((l88 k)) a b i) _)
  unfold F88_1004
  repeat' first | with_reducible exact Lim.ret _ | with_reducible exact Rw_eqEntry _ _ _ _ _ _ _ _ _ _ _ _ _ _ _ _ | with_reducible exact Rlw_eqEntryS_1004 _ _ _ | with_reducible refine Lim.cond ?_ ?_ | with_reducible refine Lim.bind ?_ fun _ => ?_
noncomputable def w_eqEntryS (a : List (ByteArray × (List (List (Int × Int × Int × Int))) × (Int × (List (Int)) × List (Int)) × Int × Int × Int)) (b : List (ByteArray × (List (List (Int × Int × Int × Int))) × (Int × (List (Int)) × List (Int)) × Int × Int × Int)) : Option (Bool) :=
  bif !decide ((↑(List.length a) : Int) = (↑(List.length b) : Int)) then
    some false
  else
    w_eqEntryS_1004 a b (0)
theorem Mw_eqEntryS (k : Nat) (a : List (ByteArray × (List (List (Int × Int × Int × Int))) × (Int × (List (Int)) × List (Int)) × Int × Int × Int)) (b : List (ByteArray × (List (List (Int × Int × Int × Int))) × (Int × (List (Int)) × List (Int)) × Int × Int × Int)) : Le (f88 k a b) (f88 (k + 1) a b) := by
  have h := Mlw_eqEntryS k
  unfold f88 F88
  repeat' first | with_reducible exact Le.rfl _ | with_reducible exact h _ _ _ | with_reducible refine Le.cond ?_ ?_ | with_reducible refine Le.bind ?_ fun _ => ?_
theorem Rw_eqEntryS (a : List (ByteArray × (List (List (Int × Int × Int × Int))) × (Int × (List (Int)) × List (Int)) × Int × Int × Int)) (b : List (ByteArray × (List (List (Int × Int × Int × Int))) × (Int × (List (Int)) × List (Int)) × Int × Int × Int)) : Lim (fun k => f88 k a b) (w_eqEntryS a b) := by
  unfold f88 F88 w_eqEntryS
  repeat' first | with_reducible exact Lim.ret _ | with_reducible exact Rlw_eqEntryS_1004 _ _ _ | with_reducible refine Lim.cond ?_ ?_ | with_reducible refine Lim.bind ?_ fun _ => ?_

-- laws.intactEntryS
theorem MFw_intactEntryS_1005 (k : Nat) {r1005 q1005 : List (ByteArray × (List (List (Int × Int × Int × Int) × Nat) × Nat) × (Int × (List Int × Nat) × List Int × Nat) × Int × Int × Int) → Nat → List (ByteArray × (List (List (Int × Int × Int × Int) × Nat) × Nat) × (Int × (List Int × Nat) × List Int × Nat) × Int × Int × Int) → Nat → Int → Int → Option (Bool)} (h1005 : ∀ (x : List (ByteArray × (List (List (Int × Int × Int × Int) × Nat) × Nat) × (Int × (List Int × Nat) × List Int × Nat) × Int × Int × Int)) (x_n : Nat) (y : List (ByteArray × (List (List (Int × Int × Int × Int) × Nat) × Nat) × (Int × (List Int × Nat) × List Int × Nat) × Int × Int × Int)) (y_n : Nat) (n : Int) (i : Int), Le (r1005 x x_n y y_n n i) (q1005 x x_n y y_n n i)) (x : List (ByteArray × (List (List (Int × Int × Int × Int) × Nat) × Nat) × (Int × (List Int × Nat) × List Int × Nat) × Int × Int × Int)) (x_n : Nat) (y : List (ByteArray × (List (List (Int × Int × Int × Int) × Nat) × Nat) × (Int × (List Int × Nat) × List Int × Nat) × Int × Int × Int)) (y_n : Nat) (n : Int) (i : Int) : Le (F26_1005 k r1005 x x_n y y_n n i) (F26_1005 (k + 1) q1005 x x_n y y_n n i) := by
  unfold F26_1005
  repeat' first | with_reducible exact Le.rfl _ | with_reducible exact Mw_intactEntry _ _ _ _ _ _ _ _ _ _ _ _ _ _ _ _ _ _ _ _ _ _ _ | with_reducible exact Mw_eqEntryS _ _ _ | with_reducible exact h1005 _ _ _ _ _ _ | with_reducible refine Le.cond ?_ ?_ | with_reducible refine Le.bind ?_ fun _ => ?_
theorem Mlw_intactEntryS : ∀ k : Nat, ∀ (x : List (ByteArray × (List (List (Int × Int × Int × Int) × Nat) × Nat) × (Int × (List Int × Nat) × List Int × Nat) × Int × Int × Int)) (x_n : Nat) (y : List (ByteArray × (List (List (Int × Int × Int × Int) × Nat) × Nat) × (Int × (List Int × Nat) × List Int × Nat) × Int × Int × Int)) (y_n : Nat) (n : Int) (i : Int), Le ((l26 k) x x_n y y_n n i) ((l26 (k + 1)) x x_n y y_n n i)
  | 0 => fun x x_n y y_n n i => Le.no _
  | k + 1 => by
    have h := Mlw_intactEntryS k
    exact fun x x_n y y_n n i => MFw_intactEntryS_1005 k h x x_n y y_n n i
noncomputable def w_intactEntryS_1005 (x : List (ByteArray × (List (List (Int × Int × Int × Int) × Nat) × Nat) × (Int × (List Int × Nat) × List Int × Nat) × Int × Int × Int)) (x_n : Nat) (y : List (ByteArray × (List (List (Int × Int × Int × Int) × Nat) × Nat) × (Int × (List Int × Nat) × List Int × Nat) × Int × Int × Int)) (y_n : Nat) (n : Int) (i : Int) : Option (Bool) := lim fun k => (l26 k) x x_n y y_n n i
theorem Rlw_intactEntryS_1005 (x : List (ByteArray × (List (List (Int × Int × Int × Int) × Nat) × Nat) × (Int × (List Int × Nat) × List Int × Nat) × Int × Int × Int)) (x_n : Nat) (y : List (ByteArray × (List (List (Int × Int × Int × Int) × Nat) × Nat) × (Int × (List Int × Nat) × List Int × Nat) × Int × Int × Int)) (y_n : Nat) (n : Int) (i : Int) : Lim (fun k => (l26 k) x x_n y y_n n i) (w_intactEntryS_1005 x x_n y y_n n i) := Lim.of_mono fun k => Mlw_intactEntryS k x x_n y y_n n i
theorem Ew_intactEntryS_1005 (x : List (ByteArray × (List (List (Int × Int × Int × Int) × Nat) × Nat) × (Int × (List Int × Nat) × List Int × Nat) × Int × Int × Int)) (x_n : Nat) (y : List (ByteArray × (List (List (Int × Int × Int × Int) × Nat) × Nat) × (Int × (List Int × Nat) × List Int × Nat) × Int × Int × Int)) (y_n : Nat) (n : Int) (i : Int) : w_intactEntryS_1005 x x_n y y_n n i =
  bif decide (i < (↑y_n : Int)) then
    bif boundA i x_n then
      bif boundA i y_n then
        (w_intactEntry (List.getD x (Int.toNat i) (ByteArray.empty, ([], 0), (0, ([], 0), [], 0), 0, 0, 0)).fst (List.getD x (Int.toNat i) (ByteArray.empty, ([], 0), (0, ([], 0), [], 0), 0, 0, 0)).snd.fst.fst (List.getD x (Int.toNat i) (ByteArray.empty, ([], 0), (0, ([], 0), [], 0), 0, 0, 0)).snd.fst.snd (List.getD x (Int.toNat i) (ByteArray.empty, ([], 0), (0, ([], 0), [], 0), 0, 0, 0)).snd.snd.fst.fst (List.getD x (Int.toNat i) (ByteArray.empty, ([], 0), (0, ([], 0), [], 0), 0, 0, 0)).snd.snd.fst.snd.fst.fst (List.getD x (Int.toNat i) (ByteArray.empty, ([], 0), (0, ([], 0), [], 0), 0, 0, 0)).snd.snd.fst.snd.fst.snd (List.getD x (Int.toNat i) (ByteArray.empty, ([], 0), (0, ([], 0), [], 0), 0, 0, 0)).snd.snd.fst.snd.snd.fst (List.getD x (Int.toNat i) (ByteArray.empty, ([], 0), (0, ([], 0), [], 0), 0, 0, 0)).snd.snd.fst.snd.snd.snd (List.getD x (Int.toNat i) (ByteArray.empty, ([], 0), (0, ([], 0), [], 0), 0, 0, 0)).snd.snd.snd.fst (List.getD x (Int.toNat i) (ByteArray.empty, ([], 0), (0, ([], 0), [], 0), 0, 0, 0)).snd.snd.snd.snd.fst (List.getD x (Int.toNat i) (ByteArray.empty, ([], 0), (0, ([], 0), [], 0), 0, 0, 0)).snd.snd.snd.snd.snd (List.getD y (Int.toNat i) (ByteArray.empty, ([], 0), (0, ([], 0), [], 0), 0, 0, 0)).fst (List.getD y (Int.toNat i) (ByteArray.empty, ([], 0), (0, ([], 0), [], 0), 0, 0, 0)).snd.fst.fst (List.getD y (Int.toNat i) (ByteArray.empty, ([], 0), (0, ([], 0), [], 0), 0, 0, 0)).snd.fst.snd (List.getD y (Int.toNat i) (ByteArray.empty, ([], 0), (0, ([], 0), [], 0), 0, 0, 0)).snd.snd.fst.fst (List.getD y (Int.toNat i) (ByteArray.empty, ([], 0), (0, ([], 0), [], 0), 0, 0, 0)).snd.snd.fst.snd.fst.fst (List.getD y (Int.toNat i) (ByteArray.empty, ([], 0), (0, ([], 0), [], 0), 0, 0, 0)).snd.snd.fst.snd.fst.snd (List.getD y (Int.toNat i) (ByteArray.empty, ([], 0), (0, ([], 0), [], 0), 0, 0, 0)).snd.snd.fst.snd.snd.fst (List.getD y (Int.toNat i) (ByteArray.empty, ([], 0), (0, ([], 0), [], 0), 0, 0, 0)).snd.snd.fst.snd.snd.snd (List.getD y (Int.toNat i) (ByteArray.empty, ([], 0), (0, ([], 0), [], 0), 0, 0, 0)).snd.snd.snd.fst (List.getD y (Int.toNat i) (ByteArray.empty, ([], 0), (0, ([], 0), [], 0), 0, 0, 0)).snd.snd.snd.snd.fst (List.getD y (Int.toNat i) (ByteArray.empty, ([], 0), (0, ([], 0), [], 0), 0, 0, 0)).snd.snd.snd.snd.snd).bind fun r0 =>
        bif !r0 then
          some false
        else
          w_intactEntryS_1005 x x_n y y_n n (IntKind.wrap IntKind.i64 (i + 1))
      else
        none
    else
      none
  else
    bif boundE n (List.length x) then
      bif decide (0 ≤ (↑y_n : Int)) && decide ((↑y_n : Int) ≤ n) then
        bif boundE n (List.length y) then
          bif decide (0 ≤ (↑y_n : Int)) && decide ((↑y_n : Int) ≤ n) then
            (w_eqEntryS (List.map (fun (x : T (Ty.pair Ty.str (Ty.pair (Ty.vslice 152 (Ty.vslice 150 (Ty.pair (Ty.int IntKind.i64) (Ty.pair (Ty.int IntKind.i64) (Ty.pair (Ty.int IntKind.i64) (Ty.int IntKind.i64)))))) (Ty.pair (Ty.pair (Ty.int IntKind.i64) (Ty.pair (Ty.vslice 3 (Ty.int IntKind.i64)) (Ty.vslice 3 (Ty.int IntKind.i64)))) (Ty.pair (Ty.int IntKind.i64) (Ty.pair (Ty.int IntKind.i64) (Ty.int IntKind.i64))))))) => (x.fst, List.map (fun (x : T (Ty.vslice 150 (Ty.pair (Ty.int IntKind.i64) (Ty.pair (Ty.int IntKind.i64) (Ty.pair (Ty.int IntKind.i64) (Ty.int IntKind.i64)))))) => List.map (fun (x : T (Ty.pair (Ty.int IntKind.i64) (Ty.pair (Ty.int IntKind.i64) (Ty.pair (Ty.int IntKind.i64) (Ty.int IntKind.i64))))) => (x.fst, x.snd.fst, x.snd.snd.fst, x.snd.snd.snd)) (List.take x.snd x.fst)) (List.take x.snd.fst.snd x.snd.fst.fst), (x.snd.snd.fst.fst, List.map (fun (x : T (Ty.int IntKind.i64)) => x) (List.take x.snd.snd.fst.snd.fst.snd x.snd.snd.fst.snd.fst.fst), List.map (fun (x : T (Ty.int IntKind.i64)) => x) (List.take x.snd.snd.fst.snd.snd.snd x.snd.snd.fst.snd.snd.fst)), x.snd.snd.snd.fst, x.snd.snd.snd.snd.fst, x.snd.snd.snd.snd.snd)) (List.drop (Int.toNat (↑y_n : Int)) (List.take (Int.toNat n) x))) (List.map (fun (x : T (Ty.pair Ty.str (Ty.pair (Ty.vslice 152 (Ty.vslice 150 (Ty.pair (Ty.int IntKind.i64) (Ty.pair (Ty.int IntKind.i64) (Ty.pair (Ty.int IntKind.i64) (Ty.int IntKind.i64)))))) (Ty.pair (Ty.pair (Ty.int IntKind.i64) (Ty.pair (Ty.vslice 3 (Ty.int IntKind.i64)) (Ty.vslice 3 (Ty.int IntKind.i64)))) (Ty.pair (Ty.int IntKind.i64) (Ty.pair (Ty.int IntKind.i64) (Ty.int IntKind.i64))))))) => (x.fst, List.map (fun (x : T (Ty.vslice 150 (Ty.pair (Ty.int IntKind.i64) (Ty.pair (Ty.int IntKind.i64) (Ty.pair (Ty.int IntKind.i64) (Ty.int IntKind.i64)))))) => List.map (fun (x : T (Ty.pair (Ty.int IntKind.i64) (Ty.pair (Ty.int IntKind.i64) (Ty.pair (Ty.int IntKind.i64) (Ty.int IntKind.i64))))) => (x.fst, x.snd.fst, x.snd.snd.fst, x.snd.snd.snd)) (List.take x.snd x.fst)) (List.take x.snd.fst.snd x.snd.fst.fst), (x.snd.snd.fst.fst, List.map (fun (x : T (Ty.int IntKind.i64)) => x) (List.take x.snd.snd.fst.snd.fst.snd x.snd.snd.fst.snd.fst.fst), List.map (fun (x : T (Ty.int IntKind.i64)) => x) (List.take x.snd.snd.fst.snd.snd.snd x.snd.snd.fst.snd.snd.fst)), x.snd.snd.snd.fst, x.snd.snd.snd.snd.fst, x.snd.snd.snd.snd.snd)) (List.drop (Int.toNat (↑y_n : Int)) (List.take (Int.toNat n) y)))).bind fun r1 =>
            some r1
          else
            none
        else
          none
      else
        none
    else
      none := by
  refine Lim.uniq (Lim.shift (Rlw_intactEntryS_1005 x x_n y y_n n i)) (?_ : Lim (fun k => F26_1005 k ((l26 k)) x x_n y y_n n i) _)
  unfold F26_1005
  repeat' first | with_reducible exact Lim.ret _ | with_reducible exact Rw_intactEntry _ _ _ _ _ _ _ _ _ _ _ _ _ _ _ _ _ _ _ _ _ _ | with_reducible exact Rw_eqEntryS _ _ | with_reducible exact Rlw_intactEntryS_1005 _ _ _ _ _ _ | with_reducible refine Lim.cond ?_ ?_ | with_reducible refine Lim.bind ?_ fun _ => ?_
noncomputable def w_intactEntryS (x : List (ByteArray × (List (List (Int × Int × Int × Int) × Nat) × Nat) × (Int × (List (Int) × Nat) × List (Int) × Nat) × Int × Int × Int)) (x_n : Nat) (y : List (ByteArray × (List (List (Int × Int × Int × Int) × Nat) × Nat) × (Int × (List (Int) × Nat) × List (Int) × Nat) × Int × Int × Int)) (y_n : Nat) : Option (Bool) :=
  (w_roomBehind (↑y_n : Int)).bind fun r0 =>
  bif !decide ((↑x_n : Int) = (↑y_n : Int)) then
    some false
  else
    w_intactEntryS_1005 x x_n y y_n (IntKind.wrap IntKind.i64 ((↑y_n : Int) + r0)) (0)
theorem Mw_intactEntryS (k : Nat) (x : List (ByteArray × (List (List (Int × Int × Int × Int) × Nat) × Nat) × (Int × (List (Int) × Nat) × List (Int) × Nat) × Int × Int × Int)) (x_n : Nat) (y : List (ByteArray × (List (List (Int × Int × Int × Int) × Nat) × Nat) × (Int × (List (Int) × Nat) × List (Int) × Nat) × Int × Int × Int)) (y_n : Nat) : Le (f26 k x x_n y y_n) (f26 (k + 1) x x_n y y_n) := by
  have h := Mlw_intactEntryS k
  unfold f26 F26
  repeat' first | with_reducible exact Le.rfl _ | with_reducible exact Mw_roomBehind _ _ | with_reducible exact h _ _ _ _ _ _ | with_reducible refine Le.cond ?_ ?_ | with_reducible refine Le.bind ?_ fun _ => ?_
theorem Rw_intactEntryS (x : List (ByteArray × (List (List (Int × Int × Int × Int) × Nat) × Nat) × (Int × (List (Int) × Nat) × List (Int) × Nat) × Int × Int × Int)) (x_n : Nat) (y : List (ByteArray × (List (List (Int × Int × Int × Int) × Nat) × Nat) × (Int × (List (Int) × Nat) × List (Int) × Nat) × Int × Int × Int)) (y_n : Nat) : Lim (fun k => f26 k x x_n y y_n) (w_intactEntryS x x_n y y_n) := by
  unfold f26 F26 w_intactEntryS
  repeat' first | with_reducible exact Lim.ret _ | with_reducible exact Rw_roomBehind _ | with_reducible exact Rlw_intactEntryS_1005 _ _ _ _ _ _ | with_reducible refine Lim.cond ?_ ?_ | with_reducible refine Lim.bind ?_ fun _ => ?_

-- spec.l1In
noncomputable def s_l1In (n : Int) (lo : Int) (hi : Int) : Option (Bool) :=
  bif decide (lo ≤ n) then
    some (decide (n ≤ hi))
  else
    some false
theorem Ms_l1In (k : Nat) (n : Int) (lo : Int) (hi : Int) : Le (f121 k n lo hi) (f121 (k + 1) n lo hi) := by
  unfold f121
  repeat' first | with_reducible exact Le.rfl _ | with_reducible refine Le.cond ?_ ?_ | with_reducible refine Le.bind ?_ fun _ => ?_
theorem Rs_l1In (n : Int) (lo : Int) (hi : Int) : Lim (fun k => f121 k n lo hi) (s_l1In n lo hi) := by
  unfold f121 s_l1In
  repeat' first | with_reducible exact Lim.ret _ | with_reducible refine Lim.cond ?_ ?_ | with_reducible refine Lim.bind ?_ fun _ => ?_

-- spec.caName
theorem MFs_caName_1002 (k : Nat) {r1002 q1002 : ByteArray → Int → Option (Bool)} (h1002 : ∀ (s : ByteArray) (i : Int), Le (r1002 s i) (q1002 s i)) (s : ByteArray) (i : Int) : Le (F206_1002 k r1002 s i) (F206_1002 (k + 1) q1002 s i) := by
  unfold F206_1002
  repeat' first | with_reducible exact Le.rfl _ | with_reducible exact Ms_l1In _ _ _ _ | with_reducible exact h1002 _ _ | with_reducible refine Le.cond ?_ ?_ | with_reducible refine Le.bind ?_ fun _ => ?_
theorem Mls_caName : ∀ k : Nat, ∀ (s : ByteArray) (i : Int), Le ((l206 k) s i) ((l206 (k + 1)) s i)
  | 0 => fun s i => Le.no _
  | k + 1 => by
    have h := Mls_caName k
    exact fun s i => MFs_caName_1002 k h s i
noncomputable def s_caName_1002 (s : ByteArray) (i : Int) : Option (Bool) := lim fun k => (l206 k) s i
theorem Rls_caName_1002 (s : ByteArray) (i : Int) : Lim (fun k => (l206 k) s i) (s_caName_1002 s i) := Lim.of_mono fun k => Mls_caName k s i
theorem Es_caName_1002 (s : ByteArray) (i : Int) : s_caName_1002 s i =
  bif decide (i < (↑(ByteArray.size s) : Int)) then
    bif boundA i (ByteArray.size s) then
      bif decide ((↑(UInt8.toNat (Array.getD s.data (Int.toNat i) 0)) : Int) < 97) then
        some false
      else
        bif boundA i (ByteArray.size s) then
          bif decide (122 < (↑(UInt8.toNat (Array.getD s.data (Int.toNat i) 0)) : Int)) then
            some false
          else
            s_caName_1002 s (IntKind.wrap IntKind.i64 (i + 1))
        else
          none
    else
      none
  else
    (s_l1In (↑(ByteArray.size s) : Int) 1 8).bind fun r0 =>
    some r0 := by
  refine Lim.uniq (Lim.shift (Rls_caName_1002 s i)) (?_ : Lim (fun k => F206_1002 k ((l206 k)) s i) _)
  unfold F206_1002
  repeat' first | with_reducible exact Lim.ret _ | with_reducible exact Rs_l1In _ _ _ | with_reducible exact Rls_caName_1002 _ _ | with_reducible refine Lim.cond ?_ ?_ | with_reducible refine Lim.bind ?_ fun _ => ?_
noncomputable def s_caName (s : ByteArray) : Option (Bool) :=
  s_caName_1002 s (0)
theorem Ms_caName (k : Nat) (s : ByteArray) : Le (f206 k s) (f206 (k + 1) s) := by
  have h := Mls_caName k
  unfold f206 F206
  repeat' first | with_reducible exact Le.rfl _ | with_reducible exact h _ _ | with_reducible refine Le.cond ?_ ?_ | with_reducible refine Le.bind ?_ fun _ => ?_
theorem Rs_caName (s : ByteArray) : Lim (fun k => f206 k s) (s_caName s) := by
  unfold f206 F206 s_caName
  repeat' first | with_reducible exact Lim.ret _ | with_reducible exact Rls_caName_1002 _ _ | with_reducible refine Lim.cond ?_ ?_ | with_reducible refine Lim.bind ?_ fun _ => ?_

-- spec.dyPower
noncomputable def s_dyPower (k_ : Int) : Option (Int) :=
  bif !decide (IntKind.wrap IntKind.u64 k_ < 0) then
    some (IntKind.wrap IntKind.i64 (1 * 2 ^ min (Int.toNat (IntKind.wrap IntKind.u64 k_)) (IntKind.bits IntKind.i64)))
  else
    none
theorem Ms_dyPower (k : Nat) (k_ : Int) : Le (f90 k k_) (f90 (k + 1) k_) := by
  unfold f90
  repeat' first | with_reducible exact Le.rfl _ | with_reducible refine Le.cond ?_ ?_ | with_reducible refine Le.bind ?_ fun _ => ?_
theorem Rs_dyPower (k_ : Int) : Lim (fun k => f90 k k_) (s_dyPower k_) := by
  unfold f90 s_dyPower
  repeat' first | with_reducible exact Lim.ret _ | with_reducible refine Lim.cond ?_ ?_ | with_reducible refine Lim.bind ?_ fun _ => ?_

-- spec.bxGood
theorem MFs_bxGood_1006 (k : Nat) {r1006 q1006 : Int → List Int → List Int → Int → Bool → List Int → Int → Int → Option (Bool)} (h1006 : ∀ (is_0 : Int) (is_1 : List Int) (is_2 : List Int) (t : Int) (t4 : Bool) (t36 : List Int) (t37 : Int) (t38 : Int), Le (r1006 is_0 is_1 is_2 t t4 t36 t37 t38) (q1006 is_0 is_1 is_2 t t4 t36 t37 t38)) (is_0 : Int) (is_1 : List Int) (is_2 : List Int) (t : Int) (t4 : Bool) (t36 : List Int) (t37 : Int) (t38 : Int) : Le (F155_1006 k r1006 is_0 is_1 is_2 t t4 t36 t37 t38) (F155_1006 (k + 1) q1006 is_0 is_1 is_2 t t4 t36 t37 t38) := by
  unfold F155_1006
  repeat' first | with_reducible exact Le.rfl _ | with_reducible exact Ms_l1In _ _ _ _ | with_reducible exact h1006 _ _ _ _ _ _ _ _ | with_reducible refine Le.cond ?_ ?_ | with_reducible refine Le.bind ?_ fun _ => ?_
theorem Mls_bxGood : ∀ k : Nat, ∀ (is_0 : Int) (is_1 : List Int) (is_2 : List Int) (t : Int) (t4 : Bool) (t36 : List Int) (t37 : Int) (t38 : Int), Le ((l155 k) is_0 is_1 is_2 t t4 t36 t37 t38) ((l155 (k + 1)) is_0 is_1 is_2 t t4 t36 t37 t38)
  | 0 => fun is_0 is_1 is_2 t t4 t36 t37 t38 => Le.no _
  | k + 1 => by
    have h := Mls_bxGood k
    exact fun is_0 is_1 is_2 t t4 t36 t37 t38 => MFs_bxGood_1006 k h is_0 is_1 is_2 t t4 t36 t37 t38
noncomputable def s_bxGood_1006 (is_0 : Int) (is_1 : List Int) (is_2 : List Int) (t : Int) (t4 : Bool) (t36 : List Int) (t37 : Int) (t38 : Int) : Option (Bool) := lim fun k => (l155 k) is_0 is_1 is_2 t t4 t36 t37 t38
theorem Rls_bxGood_1006 (is_0 : Int) (is_1 : List Int) (is_2 : List Int) (t : Int) (t4 : Bool) (t36 : List Int) (t37 : Int) (t38 : Int) : Lim (fun k => (l155 k) is_0 is_1 is_2 t t4 t36 t37 t38) (s_bxGood_1006 is_0 is_1 is_2 t t4 t36 t37 t38) := Lim.of_mono fun k => Mls_bxGood k is_0 is_1 is_2 t t4 t36 t37 t38
theorem Es_bxGood_1006 (is_0 : Int) (is_1 : List Int) (is_2 : List Int) (t : Int) (t4 : Bool) (t36 : List Int) (t37 : Int) (t38 : Int) : s_bxGood_1006 is_0 is_1 is_2 t t4 t36 t37 t38 =
  bif decide (t38 < t37) then
    bif boundA t38 (List.length t36) then
      bif boundA t38 (List.length is_2) then
        (s_l1In (List.getD t36 (Int.toNat t38) 0) (IntKind.wrap IntKind.i64 (0 - t)) t).bind fun r0 =>
        bif !r0 then
          some false
        else
          (s_l1In (List.getD is_2 (Int.toNat t38) 0) (IntKind.wrap IntKind.i64 (0 - t)) t).bind fun r1 =>
          bif !r1 then
            some false
          else
            bif decide (List.getD is_2 (Int.toNat t38) 0 ≤ List.getD t36 (Int.toNat t38) 0) then
              some false
            else
              bif t4 then
                s_bxGood_1006 is_0 is_1 is_2 t true t36 t37 (IntKind.wrap IntKind.i64 (t38 + 1))
              else
                bif !decide (Int.tmod (List.getD t36 (Int.toNat t38) 0) 2 = 0) then
                  s_bxGood_1006 is_0 is_1 is_2 t true t36 t37 (IntKind.wrap IntKind.i64 (t38 + 1))
                else
                  s_bxGood_1006 is_0 is_1 is_2 t (!decide (Int.tmod (List.getD is_2 (Int.toNat t38) 0) 2 = 0)) t36 t37 (IntKind.wrap IntKind.i64 (t38 + 1))
      else
        none
    else
      none
  else
    some t4 := by
  refine Lim.uniq (Lim.shift (Rls_bxGood_1006 is_0 is_1 is_2 t t4 t36 t37 t38)) (?_ : Lim (fun k => F155_1006 k ((l155 k)) is_0 is_1 is_2 t t4 t36 t37 t38) _)
  unfold F155_1006
  repeat' first | with_reducible exact Lim.ret _ | with_reducible exact Rs_l1In _ _ _ | with_reducible exact Rls_bxGood_1006 _ _ _ _ _ _ _ _ | with_reducible refine Lim.cond ?_ ?_ | with_reducible refine Lim.bind ?_ fun _ => ?_
noncomputable def s_bxGood (L_K : Int) (L_Low : List (Int)) (L_High : List (Int)) : Option (Bool) :=
  (s_l1In L_K 0 8).bind fun r0 =>
  bif !r0 then
    some false
  else
    (s_l1In (↑(List.length L_Low) : Int) 1 3).bind fun r1 =>
    bif !r1 then
      some false
    else
      bif !decide ((↑(List.length L_High) : Int) = (↑(List.length L_Low) : Int)) then
        some false
      else
        (s_dyPower L_K).bind fun r2 =>
        s_bxGood_1006 L_K L_Low L_High (IntKind.wrap IntKind.i64 (8 * r2)) (decide (L_K = 0)) L_Low ((↑(List.length L_Low) : Int)) (0)
theorem Ms_bxGood (k : Nat) (L_K : Int) (L_Low : List (Int)) (L_High : List (Int)) : Le (f155 k L_K L_Low L_High) (f155 (k + 1) L_K L_Low L_High) := by
  have h := Mls_bxGood k
  unfold f155 F155
  repeat' first | with_reducible exact Le.rfl _ | with_reducible exact Ms_l1In _ _ _ _ | with_reducible exact Ms_dyPower _ _ | with_reducible exact h _ _ _ _ _ _ _ _ | with_reducible refine Le.cond ?_ ?_ | with_reducible refine Le.bind ?_ fun _ => ?_
theorem Rs_bxGood (L_K : Int) (L_Low : List (Int)) (L_High : List (Int)) : Lim (fun k => f155 k L_K L_Low L_High) (s_bxGood L_K L_Low L_High) := by
  unfold f155 F155 s_bxGood
  repeat' first | with_reducible exact Lim.ret _ | with_reducible exact Rs_l1In _ _ _ | with_reducible exact Rs_dyPower _ | with_reducible exact Rls_bxGood_1006 _ _ _ _ _ _ _ _ | with_reducible refine Lim.cond ?_ ?_ | with_reducible refine Lim.bind ?_ fun _ => ?_

-- spec.poTerm
noncomputable def s_poTerm (t_C : Int) (t_X : Int) (t_Y : Int) (t_Z : Int) : Option (Bool) :=
  (s_l1In t_C (-1000) 1000).bind fun r0 =>
  bif r0 then
    (s_l1In t_X 0 4).bind fun r1 =>
    bif r1 then
      (s_l1In t_Y 0 4).bind fun r2 =>
      bif r2 then
        (s_l1In t_Z 0 4).bind fun r3 =>
        bif r3 then
          some (decide (IntKind.wrap IntKind.i64 (IntKind.wrap IntKind.i64 (t_X + t_Y) + t_Z) ≤ 4))
        else
          some false
      else
        some false
    else
      some false
  else
    some false
theorem Ms_poTerm (k : Nat) (t_C : Int) (t_X : Int) (t_Y : Int) (t_Z : Int) : Le (f288 k t_C t_X t_Y t_Z) (f288 (k + 1) t_C t_X t_Y t_Z) := by
  unfold f288
  repeat' first | with_reducible exact Le.rfl _ | with_reducible exact Ms_l1In _ _ _ _ | with_reducible refine Le.cond ?_ ?_ | with_reducible refine Le.bind ?_ fun _ => ?_
theorem Rs_poTerm (t_C : Int) (t_X : Int) (t_Y : Int) (t_Z : Int) : Lim (fun k => f288 k t_C t_X t_Y t_Z) (s_poTerm t_C t_X t_Y t_Z) := by
  unfold f288 s_poTerm
  repeat' first | with_reducible exact Lim.ret _ | with_reducible exact Rs_l1In _ _ _ | with_reducible refine Lim.cond ?_ ?_ | with_reducible refine Lim.bind ?_ fun _ => ?_

-- spec.l1Sign
noncomputable def s_l1Sign (n : Int) : Option (Int) :=
  bif decide (0 < n) then
    some (1)
  else
    bif decide (n < 0) then
      some (-1)
    else
      some (0)
theorem Ms_l1Sign (k : Nat) (n : Int) : Le (f185 k n) (f185 (k + 1) n) := by
  unfold f185
  repeat' first | with_reducible exact Le.rfl _ | with_reducible refine Le.cond ?_ ?_ | with_reducible refine Le.bind ?_ fun _ => ?_
theorem Rs_l1Sign (n : Int) : Lim (fun k => f185 k n) (s_l1Sign n) := by
  unfold f185 s_l1Sign
  repeat' first | with_reducible exact Lim.ret _ | with_reducible refine Lim.cond ?_ ?_ | with_reducible refine Lim.bind ?_ fun _ => ?_

-- spec.poOrder
noncomputable def s_poOrder (a_C : Int) (a_X : Int) (a_Y : Int) (a_Z : Int) (b_C : Int) (b_X : Int) (b_Y : Int) (b_Z : Int) : Option (Int) :=
  bif !decide (a_X = b_X) then
    (s_l1Sign (IntKind.wrap IntKind.i64 (a_X - b_X))).bind fun r0 =>
    some r0
  else
    bif !decide (a_Y = b_Y) then
      (s_l1Sign (IntKind.wrap IntKind.i64 (a_Y - b_Y))).bind fun r1 =>
      some r1
    else
      (s_l1Sign (IntKind.wrap IntKind.i64 (a_Z - b_Z))).bind fun r2 =>
      some r2
theorem Ms_poOrder (k : Nat) (a_C : Int) (a_X : Int) (a_Y : Int) (a_Z : Int) (b_C : Int) (b_X : Int) (b_Y : Int) (b_Z : Int) : Le (f289 k a_C a_X a_Y a_Z b_C b_X b_Y b_Z) (f289 (k + 1) a_C a_X a_Y a_Z b_C b_X b_Y b_Z) := by
  unfold f289
  repeat' first | with_reducible exact Le.rfl _ | with_reducible exact Ms_l1Sign _ _ | with_reducible refine Le.cond ?_ ?_ | with_reducible refine Le.bind ?_ fun _ => ?_
theorem Rs_poOrder (a_C : Int) (a_X : Int) (a_Y : Int) (a_Z : Int) (b_C : Int) (b_X : Int) (b_Y : Int) (b_Z : Int) : Lim (fun k => f289 k a_C a_X a_Y a_Z b_C b_X b_Y b_Z) (s_poOrder a_C a_X a_Y a_Z b_C b_X b_Y b_Z) := by
  unfold f289 s_poOrder
  repeat' first | with_reducible exact Lim.ret _ | with_reducible exact Rs_l1Sign _ | with_reducible refine Lim.cond ?_ ?_ | with_reducible refine Lim.bind ?_ fun _ => ?_

-- spec.poGood
theorem MFs_poGood_1002 (k : Nat) {r1002 q1002 : List (Int × Int × Int × Int) → List (Int × Int × Int × Int) → Int → Int → Option (Bool)} (h1002 : ∀ (p : List (Int × Int × Int × Int)) (t5 : List (Int × Int × Int × Int)) (t6 : Int) (t7 : Int), Le (r1002 p t5 t6 t7) (q1002 p t5 t6 t7)) (p : List (Int × Int × Int × Int)) (t5 : List (Int × Int × Int × Int)) (t6 : Int) (t7 : Int) : Le (F277_1002 k r1002 p t5 t6 t7) (F277_1002 (k + 1) q1002 p t5 t6 t7) := by
  unfold F277_1002
  repeat' first | with_reducible exact Le.rfl _ | with_reducible exact Ms_poTerm _ _ _ _ _ | with_reducible exact Ms_poOrder _ _ _ _ _ _ _ _ _ | with_reducible exact h1002 _ _ _ _ | with_reducible refine Le.cond ?_ ?_ | with_reducible refine Le.bind ?_ fun _ => ?_
theorem Mls_poGood : ∀ k : Nat, ∀ (p : List (Int × Int × Int × Int)) (t5 : List (Int × Int × Int × Int)) (t6 : Int) (t7 : Int), Le ((l277 k) p t5 t6 t7) ((l277 (k + 1)) p t5 t6 t7)
  | 0 => fun p t5 t6 t7 => Le.no _
  | k + 1 => by
    have h := Mls_poGood k
    exact fun p t5 t6 t7 => MFs_poGood_1002 k h p t5 t6 t7
noncomputable def s_poGood_1002 (p : List (Int × Int × Int × Int)) (t5 : List (Int × Int × Int × Int)) (t6 : Int) (t7 : Int) : Option (Bool) := lim fun k => (l277 k) p t5 t6 t7
theorem Rls_poGood_1002 (p : List (Int × Int × Int × Int)) (t5 : List (Int × Int × Int × Int)) (t6 : Int) (t7 : Int) : Lim (fun k => (l277 k) p t5 t6 t7) (s_poGood_1002 p t5 t6 t7) := Lim.of_mono fun k => Mls_poGood k p t5 t6 t7
theorem Es_poGood_1002 (p : List (Int × Int × Int × Int)) (t5 : List (Int × Int × Int × Int)) (t6 : Int) (t7 : Int) : s_poGood_1002 p t5 t6 t7 =
  bif decide (t7 < t6) then
    bif boundA t7 (List.length t5) then
      (s_poTerm (List.getD t5 (Int.toNat t7) (0, 0, 0, 0)).fst (List.getD t5 (Int.toNat t7) (0, 0, 0, 0)).snd.fst (List.getD t5 (Int.toNat t7) (0, 0, 0, 0)).snd.snd.fst (List.getD t5 (Int.toNat t7) (0, 0, 0, 0)).snd.snd.snd).bind fun r0 =>
      bif !r0 then
        some false
      else
        bif decide ((List.getD t5 (Int.toNat t7) (0, 0, 0, 0)).fst = 0) then
          some false
        else
          bif decide (0 < t7) then
            bif boundA (IntKind.wrap IntKind.i64 (t7 - 1)) (List.length p) then
              (s_poOrder (List.getD p (Int.toNat (IntKind.wrap IntKind.i64 (t7 - 1))) (0, 0, 0, 0)).fst (List.getD p (Int.toNat (IntKind.wrap IntKind.i64 (t7 - 1))) (0, 0, 0, 0)).snd.fst (List.getD p (Int.toNat (IntKind.wrap IntKind.i64 (t7 - 1))) (0, 0, 0, 0)).snd.snd.fst (List.getD p (Int.toNat (IntKind.wrap IntKind.i64 (t7 - 1))) (0, 0, 0, 0)).snd.snd.snd (List.getD t5 (Int.toNat t7) (0, 0, 0, 0)).fst (List.getD t5 (Int.toNat t7) (0, 0, 0, 0)).snd.fst (List.getD t5 (Int.toNat t7) (0, 0, 0, 0)).snd.snd.fst (List.getD t5 (Int.toNat t7) (0, 0, 0, 0)).snd.snd.snd).bind fun r1 =>
              bif decide (0 ≤ r1) then
                some false
              else
                s_poGood_1002 p t5 t6 (IntKind.wrap IntKind.i64 (t7 + 1))
            else
              none
          else
            s_poGood_1002 p t5 t6 (IntKind.wrap IntKind.i64 (t7 + 1))
    else
      none
  else
    some (decide ((↑(List.length p) : Int) ≤ 20)) := by
  refine Lim.uniq (Lim.shift (Rls_poGood_1002 p t5 t6 t7)) (?_ : Lim (fun k => F277_1002 k ((l277 k)) p t5 t6 t7) _)
  unfold F277_1002
  repeat' first | with_reducible exact Lim.ret _ | with_reducible exact Rs_poTerm _ _ _ _ | with_reducible exact Rs_poOrder _ _ _ _ _ _ _ _ | with_reducible exact Rls_poGood_1002 _ _ _ _ | with_reducible refine Lim.cond ?_ ?_ | with_reducible refine Lim.bind ?_ fun _ => ?_
noncomputable def s_poGood (p : List (Int × Int × Int × Int)) : Option (Bool) :=
  s_poGood_1002 p p ((↑(List.length p) : Int)) (0)
theorem Ms_poGood (k : Nat) (p : List (Int × Int × Int × Int)) : Le (f277 k p) (f277 (k + 1) p) := by
  have h := Mls_poGood k
  unfold f277 F277
  repeat' first | with_reducible exact Le.rfl _ | with_reducible exact h _ _ _ _ | with_reducible refine Le.cond ?_ ?_ | with_reducible refine Le.bind ?_ fun _ => ?_
theorem Rs_poGood (p : List (Int × Int × Int × Int)) : Lim (fun k => f277 k p) (s_poGood p) := by
  unfold f277 F277 s_poGood
  repeat' first | with_reducible exact Lim.ret _ | with_reducible exact Rls_poGood_1002 _ _ _ _ | with_reducible refine Lim.cond ?_ ?_ | with_reducible refine Lim.bind ?_ fun _ => ?_

-- spec.l1Most
noncomputable def s_l1Most (a : Int) (b : Int) : Option (Int) :=
  bif decide (b < a) then
    some a
  else
    some b
theorem Ms_l1Most (k : Nat) (a : Int) (b : Int) : Le (f165 k a b) (f165 (k + 1) a b) := by
  unfold f165
  repeat' first | with_reducible exact Le.rfl _ | with_reducible refine Le.cond ?_ ?_ | with_reducible refine Le.bind ?_ fun _ => ?_
theorem Rs_l1Most (a : Int) (b : Int) : Lim (fun k => f165 k a b) (s_l1Most a b) := by
  unfold f165 s_l1Most
  repeat' first | with_reducible exact Lim.ret _ | with_reducible refine Lim.cond ?_ ?_ | with_reducible refine Lim.bind ?_ fun _ => ?_

-- spec.poPower
noncomputable def s_poPower (t_C : Int) (t_X : Int) (t_Y : Int) (t_Z : Int) (k_ : Int) : Option (Int) :=
  bif decide (k_ = 0) then
    some t_X
  else
    bif decide (k_ = 1) then
      some t_Y
    else
      some t_Z
theorem Ms_poPower (k : Nat) (t_C : Int) (t_X : Int) (t_Y : Int) (t_Z : Int) (k_ : Int) : Le (f290 k t_C t_X t_Y t_Z k_) (f290 (k + 1) t_C t_X t_Y t_Z k_) := by
  unfold f290
  repeat' first | with_reducible exact Le.rfl _ | with_reducible refine Le.cond ?_ ?_ | with_reducible refine Le.bind ?_ fun _ => ?_
theorem Rs_poPower (t_C : Int) (t_X : Int) (t_Y : Int) (t_Z : Int) (k_ : Int) : Lim (fun k => f290 k t_C t_X t_Y t_Z k_) (s_poPower t_C t_X t_Y t_Z k_) := by
  unfold f290 s_poPower
  repeat' first | with_reducible exact Lim.ret _ | with_reducible refine Lim.cond ?_ ?_ | with_reducible refine Lim.bind ?_ fun _ => ?_

-- spec.poDegreeIn
theorem MFs_poDegreeIn_1003 (k : Nat) {r1003 q1003 : Int → Int → List (Int × Int × Int × Int) → Int → Int → Option (Int)} (h1003 : ∀ (k_ : Int) (most : Int) (t8 : List (Int × Int × Int × Int)) (t9 : Int) (t10 : Int), Le (r1003 k_ most t8 t9 t10) (q1003 k_ most t8 t9 t10)) (k_ : Int) (most : Int) (t8 : List (Int × Int × Int × Int)) (t9 : Int) (t10 : Int) : Le (F278_1003 k r1003 k_ most t8 t9 t10) (F278_1003 (k + 1) q1003 k_ most t8 t9 t10) := by
  unfold F278_1003
  repeat' first | with_reducible exact Le.rfl _ | with_reducible exact Ms_l1Most _ _ _ | with_reducible exact Ms_poPower _ _ _ _ _ _ | with_reducible exact h1003 _ _ _ _ _ | with_reducible refine Le.cond ?_ ?_ | with_reducible refine Le.bind ?_ fun _ => ?_
theorem Mls_poDegreeIn : ∀ k : Nat, ∀ (k_ : Int) (most : Int) (t8 : List (Int × Int × Int × Int)) (t9 : Int) (t10 : Int), Le ((l278 k) k_ most t8 t9 t10) ((l278 (k + 1)) k_ most t8 t9 t10)
  | 0 => fun k_ most t8 t9 t10 => Le.no _
  | k + 1 => by
    have h := Mls_poDegreeIn k
    exact fun k_ most t8 t9 t10 => MFs_poDegreeIn_1003 k h k_ most t8 t9 t10
noncomputable def s_poDegreeIn_1003 (k_ : Int) (most : Int) (t8 : List (Int × Int × Int × Int)) (t9 : Int) (t10 : Int) : Option (Int) := lim fun k => (l278 k) k_ most t8 t9 t10
theorem Rls_poDegreeIn_1003 (k_ : Int) (most : Int) (t8 : List (Int × Int × Int × Int)) (t9 : Int) (t10 : Int) : Lim (fun k => (l278 k) k_ most t8 t9 t10) (s_poDegreeIn_1003 k_ most t8 t9 t10) := Lim.of_mono fun k => Mls_poDegreeIn k k_ most t8 t9 t10
theorem Es_poDegreeIn_1003 (k_ : Int) (most : Int) (t8 : List (Int × Int × Int × Int)) (t9 : Int) (t10 : Int) : s_poDegreeIn_1003 k_ most t8 t9 t10 =
  bif decide (t10 < t9) then
    bif boundA t10 (List.length t8) then
      (s_poPower (List.getD t8 (Int.toNat t10) (0, 0, 0, 0)).fst (List.getD t8 (Int.toNat t10) (0, 0, 0, 0)).snd.fst (List.getD t8 (Int.toNat t10) (0, 0, 0, 0)).snd.snd.fst (List.getD t8 (Int.toNat t10) (0, 0, 0, 0)).snd.snd.snd k_).bind fun r0 =>
      (s_l1Most most r0).bind fun r1 =>
      s_poDegreeIn_1003 k_ r1 t8 t9 (IntKind.wrap IntKind.i64 (t10 + 1))
    else
      none
  else
    some most := by
  refine Lim.uniq (Lim.shift (Rls_poDegreeIn_1003 k_ most t8 t9 t10)) (?_ : Lim (fun k => F278_1003 k ((l278 k)) k_ most t8 t9 t10) _)
  unfold F278_1003
  repeat' first | with_reducible exact Lim.ret _ | with_reducible exact Rs_l1Most _ _ | with_reducible exact Rs_poPower _ _ _ _ _ | with_reducible exact Rls_poDegreeIn_1003 _ _ _ _ _ | with_reducible refine Lim.cond ?_ ?_ | with_reducible refine Lim.bind ?_ fun _ => ?_
noncomputable def s_poDegreeIn (p : List (Int × Int × Int × Int)) (k_ : Int) : Option (Int) :=
  s_poDegreeIn_1003 k_ (-1) p ((↑(List.length p) : Int)) (0)
theorem Ms_poDegreeIn (k : Nat) (p : List (Int × Int × Int × Int)) (k_ : Int) : Le (f278 k p k_) (f278 (k + 1) p k_) := by
  have h := Mls_poDegreeIn k
  unfold f278 F278
  repeat' first | with_reducible exact Le.rfl _ | with_reducible exact h _ _ _ _ _ | with_reducible refine Le.cond ?_ ?_ | with_reducible refine Le.bind ?_ fun _ => ?_
theorem Rs_poDegreeIn (p : List (Int × Int × Int × Int)) (k_ : Int) : Lim (fun k => f278 k p k_) (s_poDegreeIn p k_) := by
  unfold f278 F278 s_poDegreeIn
  repeat' first | with_reducible exact Lim.ret _ | with_reducible exact Rls_poDegreeIn_1003 _ _ _ _ _ | with_reducible refine Lim.cond ?_ ?_ | with_reducible refine Lim.bind ?_ fun _ => ?_

-- spec.poSystem
theorem MFs_poSystem_1002 (k : Nat) {r1002 q1002 : List (List (Int × Int × Int × Int)) → List (List (Int × Int × Int × Int)) → Int → Int → Option (Bool)} (h1002 : ∀ (s : List (List (Int × Int × Int × Int))) (t6 : List (List (Int × Int × Int × Int))) (t7 : Int) (t8 : Int), Le (r1002 s t6 t7 t8) (q1002 s t6 t7 t8)) {r1007 q1007 : List (List (Int × Int × Int × Int)) → List (Int × Int × Int × Int) → Int → List (List (Int × Int × Int × Int)) → Int → Int → Option (Bool)} (h1007 : ∀ (s : List (List (Int × Int × Int × Int))) (p : List (Int × Int × Int × Int)) (k_ : Int) (t6 : List (List (Int × Int × Int × Int))) (t7 : Int) (t8 : Int), Le (r1007 s p k_ t6 t7 t8) (q1007 s p k_ t6 t7 t8)) (s : List (List (Int × Int × Int × Int))) (t6 : List (List (Int × Int × Int × Int))) (t7 : Int) (t8 : Int) : Le (F252_1002 k r1002 r1007 s t6 t7 t8) (F252_1002 (k + 1) q1002 q1007 s t6 t7 t8) := by
  unfold F252_1002
  repeat' first | with_reducible exact Le.rfl _ | with_reducible exact Ms_l1In _ _ _ _ | with_reducible exact Ms_poGood _ _ | with_reducible exact h1002 _ _ _ _ | with_reducible exact h1007 _ _ _ _ _ _ | with_reducible refine Le.cond ?_ ?_ | with_reducible refine Le.bind ?_ fun _ => ?_
theorem MFs_poSystem_1007 (k : Nat) {r1002 q1002 : List (List (Int × Int × Int × Int)) → List (List (Int × Int × Int × Int)) → Int → Int → Option (Bool)} (h1002 : ∀ (s : List (List (Int × Int × Int × Int))) (t6 : List (List (Int × Int × Int × Int))) (t7 : Int) (t8 : Int), Le (r1002 s t6 t7 t8) (q1002 s t6 t7 t8)) {r1007 q1007 : List (List (Int × Int × Int × Int)) → List (Int × Int × Int × Int) → Int → List (List (Int × Int × Int × Int)) → Int → Int → Option (Bool)} (h1007 : ∀ (s : List (List (Int × Int × Int × Int))) (p : List (Int × Int × Int × Int)) (k_ : Int) (t6 : List (List (Int × Int × Int × Int))) (t7 : Int) (t8 : Int), Le (r1007 s p k_ t6 t7 t8) (q1007 s p k_ t6 t7 t8)) (s : List (List (Int × Int × Int × Int))) (p : List (Int × Int × Int × Int)) (k_ : Int) (t6 : List (List (Int × Int × Int × Int))) (t7 : Int) (t8 : Int) : Le (F252_1007 k r1002 r1007 s p k_ t6 t7 t8) (F252_1007 (k + 1) q1002 q1007 s p k_ t6 t7 t8) := by
  unfold F252_1007
  repeat' first | with_reducible exact Le.rfl _ | with_reducible exact Ms_poDegreeIn _ _ _ | with_reducible exact h1002 _ _ _ _ | with_reducible exact h1007 _ _ _ _ _ _ | with_reducible refine Le.cond ?_ ?_ | with_reducible refine Le.bind ?_ fun _ => ?_
theorem Mls_poSystem : ∀ k : Nat, (∀ (s : List (List (Int × Int × Int × Int))) (t6 : List (List (Int × Int × Int × Int))) (t7 : Int) (t8 : Int), Le ((l252 k).1 s t6 t7 t8) ((l252 (k + 1)).1 s t6 t7 t8)) ∧ (∀ (s : List (List (Int × Int × Int × Int))) (p : List (Int × Int × Int × Int)) (k_ : Int) (t6 : List (List (Int × Int × Int × Int))) (t7 : Int) (t8 : Int), Le ((l252 k).2 s p k_ t6 t7 t8) ((l252 (k + 1)).2 s p k_ t6 t7 t8))
  | 0 => ⟨fun s t6 t7 t8 => Le.no _, fun s p k_ t6 t7 t8 => Le.no _⟩
  | k + 1 => by
    have h := Mls_poSystem k
    exact ⟨fun s t6 t7 t8 => MFs_poSystem_1002 k h.1 h.2 s t6 t7 t8, fun s p k_ t6 t7 t8 => MFs_poSystem_1007 k h.1 h.2 s p k_ t6 t7 t8⟩
noncomputable def s_poSystem_1002 (s : List (List (Int × Int × Int × Int))) (t6 : List (List (Int × Int × Int × Int))) (t7 : Int) (t8 : Int) : Option (Bool) := lim fun k => (l252 k).1 s t6 t7 t8
theorem Rls_poSystem_1002 (s : List (List (Int × Int × Int × Int))) (t6 : List (List (Int × Int × Int × Int))) (t7 : Int) (t8 : Int) : Lim (fun k => (l252 k).1 s t6 t7 t8) (s_poSystem_1002 s t6 t7 t8) := Lim.of_mono fun k => (Mls_poSystem k).1 s t6 t7 t8
noncomputable def s_poSystem_1007 (s : List (List (Int × Int × Int × Int))) (p : List (Int × Int × Int × Int)) (k_ : Int) (t6 : List (List (Int × Int × Int × Int))) (t7 : Int) (t8 : Int) : Option (Bool) := lim fun k => (l252 k).2 s p k_ t6 t7 t8
theorem Rls_poSystem_1007 (s : List (List (Int × Int × Int × Int))) (p : List (Int × Int × Int × Int)) (k_ : Int) (t6 : List (List (Int × Int × Int × Int))) (t7 : Int) (t8 : Int) : Lim (fun k => (l252 k).2 s p k_ t6 t7 t8) (s_poSystem_1007 s p k_ t6 t7 t8) := Lim.of_mono fun k => (Mls_poSystem k).2 s p k_ t6 t7 t8
theorem Es_poSystem_1002 (s : List (List (Int × Int × Int × Int))) (t6 : List (List (Int × Int × Int × Int))) (t7 : Int) (t8 : Int) : s_poSystem_1002 s t6 t7 t8 =
  bif decide (t8 < t7) then
    bif boundA t8 (List.length t6) then
      (s_poGood (List.getD t6 (Int.toNat t8) [])).bind fun r0 =>
      bif !r0 then
        some false
      else
        s_poSystem_1007 s (List.getD t6 (Int.toNat t8) []) ((↑(List.length s) : Int)) t6 t7 t8
    else
      none
  else
    (s_l1In (↑(List.length s) : Int) 1 3).bind fun r1 =>
    some r1 := by
  refine Lim.uniq (Lim.shift (Rls_poSystem_1002 s t6 t7 t8)) (?_ : Lim (fun k => F252_1002 k ((l252 k).1) ((l252 k).2) s t6 t7 t8) _)
  unfold F252_1002
  repeat' first | with_reducible exact Lim.ret _ | with_reducible exact Rs_l1In _ _ _ | with_reducible exact Rs_poGood _ | with_reducible exact Rls_poSystem_1002 _ _ _ _ | with_reducible exact Rls_poSystem_1007 _ _ _ _ _ _ | with_reducible refine Lim.cond ?_ ?_ | with_reducible refine Lim.bind ?_ fun _ => ?_
theorem Es_poSystem_1007 (s : List (List (Int × Int × Int × Int))) (p : List (Int × Int × Int × Int)) (k_ : Int) (t6 : List (List (Int × Int × Int × Int))) (t7 : Int) (t8 : Int) : s_poSystem_1007 s p k_ t6 t7 t8 =
  bif decide (k_ < 3) then
    (s_poDegreeIn p k_).bind fun r0 =>
    bif decide (0 < r0) then
      some false
    else
      s_poSystem_1007 s p (IntKind.wrap IntKind.i64 (k_ + 1)) t6 t7 t8
  else
    s_poSystem_1002 s t6 t7 (IntKind.wrap IntKind.i64 (t8 + 1)) := by
  refine Lim.uniq (Lim.shift (Rls_poSystem_1007 s p k_ t6 t7 t8)) (?_ : Lim (fun k => F252_1007 k ((l252 k).1) ((l252 k).2) s p k_ t6 t7 t8) _)
  unfold F252_1007
  repeat' first | with_reducible exact Lim.ret _ | with_reducible exact Rs_poDegreeIn _ _ | with_reducible exact Rls_poSystem_1002 _ _ _ _ | with_reducible exact Rls_poSystem_1007 _ _ _ _ _ _ | with_reducible refine Lim.cond ?_ ?_ | with_reducible refine Lim.bind ?_ fun _ => ?_
noncomputable def s_poSystem (s : List (List (Int × Int × Int × Int))) : Option (Bool) :=
  s_poSystem_1002 s s ((↑(List.length s) : Int)) (0)
theorem Ms_poSystem (k : Nat) (s : List (List (Int × Int × Int × Int))) : Le (f252 k s) (f252 (k + 1) s) := by
  have h := Mls_poSystem k
  unfold f252 F252
  repeat' first | with_reducible exact Le.rfl _ | with_reducible exact h.1 _ _ _ _ | with_reducible exact h.2 _ _ _ _ _ _ | with_reducible refine Le.cond ?_ ?_ | with_reducible refine Le.bind ?_ fun _ => ?_
theorem Rs_poSystem (s : List (List (Int × Int × Int × Int))) : Lim (fun k => f252 k s) (s_poSystem s) := by
  unfold f252 F252 s_poSystem
  repeat' first | with_reducible exact Lim.ret _ | with_reducible exact Rls_poSystem_1002 _ _ _ _ | with_reducible exact Rls_poSystem_1007 _ _ _ _ _ _ | with_reducible refine Lim.cond ?_ ?_ | with_reducible refine Lim.bind ?_ fun _ => ?_

-- spec.vaBoth
noncomputable def s_vaBoth (s : List (List (Int × Int × Int × Int))) (b_K : Int) (b_Low : List (Int)) (b_High : List (Int)) : Option (Bool) :=
  (s_poSystem s).bind fun r0 =>
  bif r0 then
    (s_bxGood b_K b_Low b_High).bind fun r1 =>
    bif r1 then
      some (decide ((↑(List.length s) : Int) = (↑(List.length b_Low) : Int)))
    else
      some false
  else
    some false
theorem Ms_vaBoth (k : Nat) (s : List (List (Int × Int × Int × Int))) (b_K : Int) (b_Low : List (Int)) (b_High : List (Int)) : Le (f207 k s b_K b_Low b_High) (f207 (k + 1) s b_K b_Low b_High) := by
  unfold f207
  repeat' first | with_reducible exact Le.rfl _ | with_reducible exact Ms_bxGood _ _ _ _ | with_reducible exact Ms_poSystem _ _ | with_reducible refine Le.cond ?_ ?_ | with_reducible refine Le.bind ?_ fun _ => ?_
theorem Rs_vaBoth (s : List (List (Int × Int × Int × Int))) (b_K : Int) (b_Low : List (Int)) (b_High : List (Int)) : Lim (fun k => f207 k s b_K b_Low b_High) (s_vaBoth s b_K b_Low b_High) := by
  unfold f207 s_vaBoth
  repeat' first | with_reducible exact Lim.ret _ | with_reducible exact Rs_bxGood _ _ _ | with_reducible exact Rs_poSystem _ | with_reducible refine Lim.cond ?_ ?_ | with_reducible refine Lim.bind ?_ fun _ => ?_

-- spec.caEntry
noncomputable def s_caEntry (e_Name : ByteArray) (e_System : List (List (Int × Int × Int × Int))) (e_Box_K : Int) (e_Box_Low : List (Int)) (e_Box_High : List (Int)) (e_Least : Int) (e_Most : Int) (e_Version : Int) : Option (Bool) :=
  (s_caName e_Name).bind fun r0 =>
  bif r0 then
    (s_vaBoth e_System e_Box_K e_Box_Low e_Box_High).bind fun r1 =>
    bif r1 then
      (s_l1In e_Most 0 64).bind fun r2 =>
      bif r2 then
        (s_l1In e_Least 0 e_Most).bind fun r3 =>
        bif r3 then
          (s_l1In e_Version 1 999).bind fun r4 =>
          some r4
        else
          some false
      else
        some false
    else
      some false
  else
    some false
theorem Ms_caEntry (k : Nat) (e_Name : ByteArray) (e_System : List (List (Int × Int × Int × Int))) (e_Box_K : Int) (e_Box_Low : List (Int)) (e_Box_High : List (Int)) (e_Least : Int) (e_Most : Int) (e_Version : Int) : Le (f140 k e_Name e_System e_Box_K e_Box_Low e_Box_High e_Least e_Most e_Version) (f140 (k + 1) e_Name e_System e_Box_K e_Box_Low e_Box_High e_Least e_Most e_Version) := by
  unfold f140
  repeat' first | with_reducible exact Le.rfl _ | with_reducible exact Ms_l1In _ _ _ _ | with_reducible exact Ms_caName _ _ | with_reducible exact Ms_vaBoth _ _ _ _ _ | with_reducible refine Le.cond ?_ ?_ | with_reducible refine Le.bind ?_ fun _ => ?_
theorem Rs_caEntry (e_Name : ByteArray) (e_System : List (List (Int × Int × Int × Int))) (e_Box_K : Int) (e_Box_Low : List (Int)) (e_Box_High : List (Int)) (e_Least : Int) (e_Most : Int) (e_Version : Int) : Lim (fun k => f140 k e_Name e_System e_Box_K e_Box_Low e_Box_High e_Least e_Most e_Version) (s_caEntry e_Name e_System e_Box_K e_Box_Low e_Box_High e_Least e_Most e_Version) := by
  unfold f140 s_caEntry
  repeat' first | with_reducible exact Lim.ret _ | with_reducible exact Rs_l1In _ _ _ | with_reducible exact Rs_caName _ | with_reducible exact Rs_vaBoth _ _ _ _ | with_reducible refine Lim.cond ?_ ?_ | with_reducible refine Lim.bind ?_ fun _ => ?_

-- spec.caGood
theorem MFs_caGood_1002 (k : Nat) {r1002 q1002 : List (ByteArray × List (List (Int × Int × Int × Int)) × (Int × List Int × List Int) × Int × Int × Int) → List (ByteArray × List (List (Int × Int × Int × Int)) × (Int × List Int × List Int) × Int × Int × Int) → Int → Int → Option (Bool)} (h1002 : ∀ (l : List (ByteArray × List (List (Int × Int × Int × Int)) × (Int × List Int × List Int) × Int × Int × Int)) (t5 : List (ByteArray × List (List (Int × Int × Int × Int)) × (Int × List Int × List Int) × Int × Int × Int)) (t6 : Int) (t7 : Int), Le (r1002 l t5 t6 t7) (q1002 l t5 t6 t7)) (l : List (ByteArray × List (List (Int × Int × Int × Int)) × (Int × List Int × List Int) × Int × Int × Int)) (t5 : List (ByteArray × List (List (Int × Int × Int × Int)) × (Int × List Int × List Int) × Int × Int × Int)) (t6 : Int) (t7 : Int) : Le (F83_1002 k r1002 l t5 t6 t7) (F83_1002 (k + 1) q1002 l t5 t6 t7) := by
  unfold F83_1002
  repeat' first | with_reducible exact Le.rfl _ | with_reducible exact Ms_caEntry _ _ _ _ _ _ _ _ _ | with_reducible exact h1002 _ _ _ _ | with_reducible refine Le.cond ?_ ?_ | with_reducible refine Le.bind ?_ fun _ => ?_
theorem Mls_caGood : ∀ k : Nat, ∀ (l : List (ByteArray × List (List (Int × Int × Int × Int)) × (Int × List Int × List Int) × Int × Int × Int)) (t5 : List (ByteArray × List (List (Int × Int × Int × Int)) × (Int × List Int × List Int) × Int × Int × Int)) (t6 : Int) (t7 : Int), Le ((l83 k) l t5 t6 t7) ((l83 (k + 1)) l t5 t6 t7)
  | 0 => fun l t5 t6 t7 => Le.no _
  | k + 1 => by
    have h := Mls_caGood k
    exact fun l t5 t6 t7 => MFs_caGood_1002 k h l t5 t6 t7
noncomputable def s_caGood_1002 (l : List (ByteArray × List (List (Int × Int × Int × Int)) × (Int × List Int × List Int) × Int × Int × Int)) (t5 : List (ByteArray × List (List (Int × Int × Int × Int)) × (Int × List Int × List Int) × Int × Int × Int)) (t6 : Int) (t7 : Int) : Option (Bool) := lim fun k => (l83 k) l t5 t6 t7
theorem Rls_caGood_1002 (l : List (ByteArray × List (List (Int × Int × Int × Int)) × (Int × List Int × List Int) × Int × Int × Int)) (t5 : List (ByteArray × List (List (Int × Int × Int × Int)) × (Int × List Int × List Int) × Int × Int × Int)) (t6 : Int) (t7 : Int) : Lim (fun k => (l83 k) l t5 t6 t7) (s_caGood_1002 l t5 t6 t7) := Lim.of_mono fun k => Mls_caGood k l t5 t6 t7
theorem Es_caGood_1002 (l : List (ByteArray × List (List (Int × Int × Int × Int)) × (Int × List Int × List Int) × Int × Int × Int)) (t5 : List (ByteArray × List (List (Int × Int × Int × Int)) × (Int × List Int × List Int) × Int × Int × Int)) (t6 : Int) (t7 : Int) : s_caGood_1002 l t5 t6 t7 =
  bif decide (t7 < t6) then
    bif boundA t7 (List.length t5) then
      (s_caEntry (List.getD t5 (Int.toNat t7) (ByteArray.empty, [], (0, [], []), 0, 0, 0)).fst (List.getD t5 (Int.toNat t7) (ByteArray.empty, [], (0, [], []), 0, 0, 0)).snd.fst (List.getD t5 (Int.toNat t7) (ByteArray.empty, [], (0, [], []), 0, 0, 0)).snd.snd.fst.fst (List.getD t5 (Int.toNat t7) (ByteArray.empty, [], (0, [], []), 0, 0, 0)).snd.snd.fst.snd.fst (List.getD t5 (Int.toNat t7) (ByteArray.empty, [], (0, [], []), 0, 0, 0)).snd.snd.fst.snd.snd (List.getD t5 (Int.toNat t7) (ByteArray.empty, [], (0, [], []), 0, 0, 0)).snd.snd.snd.fst (List.getD t5 (Int.toNat t7) (ByteArray.empty, [], (0, [], []), 0, 0, 0)).snd.snd.snd.snd.fst (List.getD t5 (Int.toNat t7) (ByteArray.empty, [], (0, [], []), 0, 0, 0)).snd.snd.snd.snd.snd).bind fun r0 =>
      bif !r0 then
        some false
      else
        bif decide (0 < t7) then
          bif boundA (IntKind.wrap IntKind.i64 (t7 - 1)) (List.length l) then
            bif !Op.bytesLess (ByteArray.toList (List.getD l (Int.toNat (IntKind.wrap IntKind.i64 (t7 - 1))) (ByteArray.empty, [], (0, [], []), 0, 0, 0)).fst) (ByteArray.toList (List.getD t5 (Int.toNat t7) (ByteArray.empty, [], (0, [], []), 0, 0, 0)).fst) then
              some false
            else
              s_caGood_1002 l t5 t6 (IntKind.wrap IntKind.i64 (t7 + 1))
          else
            none
        else
          s_caGood_1002 l t5 t6 (IntKind.wrap IntKind.i64 (t7 + 1))
    else
      none
  else
    some (decide ((↑(List.length l) : Int) ≤ 10)) := by
  refine Lim.uniq (Lim.shift (Rls_caGood_1002 l t5 t6 t7)) (?_ : Lim (fun k => F83_1002 k ((l83 k)) l t5 t6 t7) _)
  unfold F83_1002
  repeat' first | with_reducible exact Lim.ret _ | with_reducible exact Rs_caEntry _ _ _ _ _ _ _ _ | with_reducible exact Rls_caGood_1002 _ _ _ _ | with_reducible refine Lim.cond ?_ ?_ | with_reducible refine Lim.bind ?_ fun _ => ?_
noncomputable def s_caGood (l : List (ByteArray × (List (List (Int × Int × Int × Int))) × (Int × (List (Int)) × List (Int)) × Int × Int × Int)) : Option (Bool) :=
  s_caGood_1002 l l ((↑(List.length l) : Int)) (0)
theorem Ms_caGood (k : Nat) (l : List (ByteArray × (List (List (Int × Int × Int × Int))) × (Int × (List (Int)) × List (Int)) × Int × Int × Int)) : Le (f83 k l) (f83 (k + 1) l) := by
  have h := Mls_caGood k
  unfold f83 F83
  repeat' first | with_reducible exact Le.rfl _ | with_reducible exact h _ _ _ _ | with_reducible refine Le.cond ?_ ?_ | with_reducible refine Le.bind ?_ fun _ => ?_
theorem Rs_caGood (l : List (ByteArray × (List (List (Int × Int × Int × Int))) × (Int × (List (Int)) × List (Int)) × Int × Int × Int)) : Lim (fun k => f83 k l) (s_caGood l) := by
  unfold f83 F83 s_caGood
  repeat' first | with_reducible exact Lim.ret _ | with_reducible exact Rls_caGood_1002 _ _ _ _ | with_reducible refine Lim.cond ?_ ?_ | with_reducible refine Lim.bind ?_ fun _ => ?_

-- spec.caPlace
theorem MFs_caPlace_1002 (k : Nat) {r1002 q1002 : List (ByteArray × List (List (Int × Int × Int × Int)) × (Int × List Int × List Int) × Int × Int × Int) → ByteArray → Int → Option (Int)} (h1002 : ∀ (l : List (ByteArray × List (List (Int × Int × Int × Int)) × (Int × List Int × List Int) × Int × Int × Int)) (name : ByteArray) (k_ : Int), Le (r1002 l name k_) (q1002 l name k_)) (l : List (ByteArray × List (List (Int × Int × Int × Int)) × (Int × List Int × List Int) × Int × Int × Int)) (name : ByteArray) (k_ : Int) : Le (F106_1002 k r1002 l name k_) (F106_1002 (k + 1) q1002 l name k_) := by
  unfold F106_1002
  repeat' first | with_reducible exact Le.rfl _ | with_reducible exact h1002 _ _ _ | with_reducible refine Le.cond ?_ ?_ | with_reducible refine Le.bind ?_ fun _ => ?_
theorem Mls_caPlace : ∀ k : Nat, ∀ (l : List (ByteArray × List (List (Int × Int × Int × Int)) × (Int × List Int × List Int) × Int × Int × Int)) (name : ByteArray) (k_ : Int), Le ((l106 k) l name k_) ((l106 (k + 1)) l name k_)
  | 0 => fun l name k_ => Le.no _
  | k + 1 => by
    have h := Mls_caPlace k
    exact fun l name k_ => MFs_caPlace_1002 k h l name k_
noncomputable def s_caPlace_1002 (l : List (ByteArray × List (List (Int × Int × Int × Int)) × (Int × List Int × List Int) × Int × Int × Int)) (name : ByteArray) (k_ : Int) : Option (Int) := lim fun k => (l106 k) l name k_
theorem Rls_caPlace_1002 (l : List (ByteArray × List (List (Int × Int × Int × Int)) × (Int × List Int × List Int) × Int × Int × Int)) (name : ByteArray) (k_ : Int) : Lim (fun k => (l106 k) l name k_) (s_caPlace_1002 l name k_) := Lim.of_mono fun k => Mls_caPlace k l name k_
theorem Es_caPlace_1002 (l : List (ByteArray × List (List (Int × Int × Int × Int)) × (Int × List Int × List Int) × Int × Int × Int)) (name : ByteArray) (k_ : Int) : s_caPlace_1002 l name k_ =
  bif decide (k_ < (↑(List.length l) : Int)) then
    bif boundA k_ (List.length l) then
      bif Op.bytesLess (ByteArray.toList (List.getD l (Int.toNat k_) (ByteArray.empty, [], (0, [], []), 0, 0, 0)).fst) (ByteArray.toList name) then
        s_caPlace_1002 l name (IntKind.wrap IntKind.i64 (k_ + 1))
      else
        some k_
    else
      none
  else
    some k_ := by
  refine Lim.uniq (Lim.shift (Rls_caPlace_1002 l name k_)) (?_ : Lim (fun k => F106_1002 k ((l106 k)) l name k_) _)
  unfold F106_1002
  repeat' first | with_reducible exact Lim.ret _ | with_reducible exact Rls_caPlace_1002 _ _ _ | with_reducible refine Lim.cond ?_ ?_ | with_reducible refine Lim.bind ?_ fun _ => ?_
noncomputable def s_caPlace (l : List (ByteArray × (List (List (Int × Int × Int × Int))) × (Int × (List (Int)) × List (Int)) × Int × Int × Int)) (name : ByteArray) : Option (Int) :=
  s_caPlace_1002 l name (0)
theorem Ms_caPlace (k : Nat) (l : List (ByteArray × (List (List (Int × Int × Int × Int))) × (Int × (List (Int)) × List (Int)) × Int × Int × Int)) (name : ByteArray) : Le (f106 k l name) (f106 (k + 1) l name) := by
  have h := Mls_caPlace k
  unfold f106 F106
  repeat' first | with_reducible exact Le.rfl _ | with_reducible exact h _ _ _ | with_reducible refine Le.cond ?_ ?_ | with_reducible refine Le.bind ?_ fun _ => ?_
theorem Rs_caPlace (l : List (ByteArray × (List (List (Int × Int × Int × Int))) × (Int × (List (Int)) × List (Int)) × Int × Int × Int)) (name : ByteArray) : Lim (fun k => f106 k l name) (s_caPlace l name) := by
  unfold f106 F106 s_caPlace
  repeat' first | with_reducible exact Lim.ret _ | with_reducible exact Rls_caPlace_1002 _ _ _ | with_reducible refine Lim.cond ?_ ?_ | with_reducible refine Lim.bind ?_ fun _ => ?_

-- spec.caAt
noncomputable def s_caAt (l : List (ByteArray × (List (List (Int × Int × Int × Int))) × (Int × (List (Int)) × List (Int)) × Int × Int × Int)) (k_ : Int) (name : ByteArray) : Option (Bool) :=
  bif decide (k_ < (↑(List.length l) : Int)) then
    bif boundA k_ (List.length l) then
      some (ByteArray.toList (List.getD l (Int.toNat k_) (ByteArray.empty, [], (0, [], []), 0, 0, 0)).fst == ByteArray.toList name)
    else
      none
  else
    some false
theorem Ms_caAt (k : Nat) (l : List (ByteArray × (List (List (Int × Int × Int × Int))) × (Int × (List (Int)) × List (Int)) × Int × Int × Int)) (k_ : Int) (name : ByteArray) : Le (f107 k l k_ name) (f107 (k + 1) l k_ name) := by
  unfold f107
  repeat' first | with_reducible exact Le.rfl _ | with_reducible refine Le.cond ?_ ?_ | with_reducible refine Le.bind ?_ fun _ => ?_
theorem Rs_caAt (l : List (ByteArray × (List (List (Int × Int × Int × Int))) × (Int × (List (Int)) × List (Int)) × Int × Int × Int)) (k_ : Int) (name : ByteArray) : Lim (fun k => f107 k l k_ name) (s_caAt l k_ name) := by
  unfold f107 s_caAt
  repeat' first | with_reducible exact Lim.ret _ | with_reducible refine Lim.cond ?_ ?_ | with_reducible refine Lim.bind ?_ fun _ => ?_

-- spec.FindSystem
noncomputable def s_FindSystem (l : List (ByteArray × (List (List (Int × Int × Int × Int))) × (Int × (List (Int)) × List (Int)) × Int × Int × Int)) (name : ByteArray) : Option (Int × Bool) :=
  (s_caPlace l name).bind fun r0 =>
  (s_caGood l).bind fun r1 =>
  bif !r1 then
    some ((0, false))
  else
    (s_caAt l r0 name).bind fun r2 =>
    bif !r2 then
      some ((0, false))
    else
      some ((r0, true))
theorem Ms_FindSystem (k : Nat) (l : List (ByteArray × (List (List (Int × Int × Int × Int))) × (Int × (List (Int)) × List (Int)) × Int × Int × Int)) (name : ByteArray) : Le (f47 k l name) (f47 (k + 1) l name) := by
  unfold f47
  repeat' first | with_reducible exact Le.rfl _ | with_reducible exact Ms_caPlace _ _ _ | with_reducible exact Ms_caAt _ _ _ _ | with_reducible exact Ms_caGood _ _ | with_reducible refine Le.cond ?_ ?_ | with_reducible refine Le.bind ?_ fun _ => ?_
theorem Rs_FindSystem (l : List (ByteArray × (List (List (Int × Int × Int × Int))) × (Int × (List (Int)) × List (Int)) × Int × Int × Int)) (name : ByteArray) : Lim (fun k => f47 k l name) (s_FindSystem l name) := by
  unfold f47 s_FindSystem
  repeat' first | with_reducible exact Lim.ret _ | with_reducible exact Rs_caPlace _ _ | with_reducible exact Rs_caAt _ _ _ | with_reducible exact Rs_caGood _ | with_reducible refine Lim.cond ?_ ?_ | with_reducible refine Lim.bind ?_ fun _ => ?_

-- impl.inside
noncomputable def i_inside (n : Int) (low : Int) (high : Int) : Option (Bool) :=
  bif decide (low ≤ n) then
    some (decide (n ≤ high))
  else
    some false
theorem Mi_inside (k : Nat) (n : Int) (low : Int) (high : Int) : Le (f128 k n low high) (f128 (k + 1) n low high) := by
  unfold f128
  repeat' first | with_reducible exact Le.rfl _ | with_reducible refine Le.cond ?_ ?_ | with_reducible refine Le.bind ?_ fun _ => ?_
theorem Ri_inside (n : Int) (low : Int) (high : Int) : Lim (fun k => f128 k n low high) (i_inside n low high) := by
  unfold f128 i_inside
  repeat' first | with_reducible exact Lim.ret _ | with_reducible refine Lim.cond ?_ ?_ | with_reducible refine Lim.bind ?_ fun _ => ?_

-- impl.isBox
theorem MFi_isBox_1005 (k : Nat) {r1005 q1005 : Int × List Int × List Int → Int → Bool → List Int → Int → Int → Option (Bool)} (h1005 : ∀ (L : Int × List Int × List Int) (t : Int) (t4 : Bool) (t48 : List Int) (t49 : Int) (t50 : Int), Le (r1005 L t t4 t48 t49 t50) (q1005 L t t4 t48 t49 t50)) (L : Int × List Int × List Int) (t : Int) (t4 : Bool) (t48 : List Int) (t49 : Int) (t50 : Int) : Le (F158_1005 k r1005 L t t4 t48 t49 t50) (F158_1005 (k + 1) q1005 L t t4 t48 t49 t50) := by
  unfold F158_1005
  repeat' first | with_reducible exact Le.rfl _ | with_reducible exact Mi_inside _ _ _ _ | with_reducible exact h1005 _ _ _ _ _ _ | with_reducible refine Le.cond ?_ ?_ | with_reducible refine Le.bind ?_ fun _ => ?_
theorem Mli_isBox : ∀ k : Nat, ∀ (L : Int × List Int × List Int) (t : Int) (t4 : Bool) (t48 : List Int) (t49 : Int) (t50 : Int), Le ((l158 k) L t t4 t48 t49 t50) ((l158 (k + 1)) L t t4 t48 t49 t50)
  | 0 => fun L t t4 t48 t49 t50 => Le.no _
  | k + 1 => by
    have h := Mli_isBox k
    exact fun L t t4 t48 t49 t50 => MFi_isBox_1005 k h L t t4 t48 t49 t50
noncomputable def i_isBox_1005 (L : Int × List Int × List Int) (t : Int) (t4 : Bool) (t48 : List Int) (t49 : Int) (t50 : Int) : Option (Bool) := lim fun k => (l158 k) L t t4 t48 t49 t50
theorem Rli_isBox_1005 (L : Int × List Int × List Int) (t : Int) (t4 : Bool) (t48 : List Int) (t49 : Int) (t50 : Int) : Lim (fun k => (l158 k) L t t4 t48 t49 t50) (i_isBox_1005 L t t4 t48 t49 t50) := Lim.of_mono fun k => Mli_isBox k L t t4 t48 t49 t50
theorem Ei_isBox_1005 (L : Int × List Int × List Int) (t : Int) (t4 : Bool) (t48 : List Int) (t49 : Int) (t50 : Int) : i_isBox_1005 L t t4 t48 t49 t50 =
  bif decide (t50 < t49) then
    bif boundA t50 (List.length t48) then
      (i_inside (List.getD t48 (Int.toNat t50) 0) (IntKind.wrap IntKind.i64 (0 - t)) t).bind fun r0 =>
      bif !r0 then
        some false
      else
        bif boundA t50 (List.length L.snd.snd) then
          (i_inside (List.getD L.snd.snd (Int.toNat t50) 0) (IntKind.wrap IntKind.i64 (List.getD t48 (Int.toNat t50) 0 + 1)) t).bind fun r1 =>
          bif !r1 then
            some false
          else
            bif t4 then
              i_isBox_1005 L t true t48 t49 (IntKind.wrap IntKind.i64 (t50 + 1))
            else
              bif !decide (Int.tmod (List.getD t48 (Int.toNat t50) 0) 2 = 0) then
                i_isBox_1005 L t true t48 t49 (IntKind.wrap IntKind.i64 (t50 + 1))
              else
                bif boundA t50 (List.length L.snd.snd) then
                  i_isBox_1005 L t (!decide (Int.tmod (List.getD L.snd.snd (Int.toNat t50) 0) 2 = 0)) t48 t49 (IntKind.wrap IntKind.i64 (t50 + 1))
                else
                  none
        else
          none
    else
      none
  else
    some t4 := by
  refine Lim.uniq (Lim.shift (Rli_isBox_1005 L t t4 t48 t49 t50)) (?_ : Lim (fun k => F158_1005 k ((l158 k)) L t t4 t48 t49 t50) _)
  unfold F158_1005
  repeat' first | with_reducible exact Lim.ret _ | with_reducible exact Ri_inside _ _ _ | with_reducible exact Rli_isBox_1005 _ _ _ _ _ _ | with_reducible refine Lim.cond ?_ ?_ | with_reducible refine Lim.bind ?_ fun _ => ?_
noncomputable def i_isBox (L : Int × (List (Int)) × List (Int)) : Option (Bool) :=
  (i_inside L.fst 0 8).bind fun r0 =>
  bif !r0 then
    some false
  else
    (i_inside (↑(List.length L.snd.fst) : Int) 1 3).bind fun r1 =>
    bif !r1 then
      some false
    else
      bif !decide ((↑(List.length L.snd.snd) : Int) = (↑(List.length L.snd.fst) : Int)) then
        some false
      else
        bif !decide (L.fst < 0) then
          i_isBox_1005 L (IntKind.wrap IntKind.i64 (8 * 2 ^ min (Int.toNat L.fst) (IntKind.bits IntKind.i64))) (decide (L.fst = 0)) (L.snd.fst) ((↑(List.length L.snd.fst) : Int)) (0)
        else
          none
theorem Mi_isBox (k : Nat) (L : Int × (List (Int)) × List (Int)) : Le (f158 k L) (f158 (k + 1) L) := by
  have h := Mli_isBox k
  unfold f158 F158
  repeat' first | with_reducible exact Le.rfl _ | with_reducible exact Mi_inside _ _ _ _ | with_reducible exact h _ _ _ _ _ _ | with_reducible refine Le.cond ?_ ?_ | with_reducible refine Le.bind ?_ fun _ => ?_
theorem Ri_isBox (L : Int × (List (Int)) × List (Int)) : Lim (fun k => f158 k L) (i_isBox L) := by
  unfold f158 F158 i_isBox
  repeat' first | with_reducible exact Lim.ret _ | with_reducible exact Ri_inside _ _ _ | with_reducible exact Rli_isBox_1005 _ _ _ _ _ _ | with_reducible refine Lim.cond ?_ ?_ | with_reducible refine Lim.bind ?_ fun _ => ?_

-- impl.Term).degree
noncomputable def i_Term_degree (t_C : Int) (t_X : Int) (t_Y : Int) (t_Z : Int) : Option (Int) :=
  some (IntKind.wrap IntKind.i64 (IntKind.wrap IntKind.i64 (t_X + t_Y) + t_Z))
theorem Mi_Term_degree (k : Nat) (t_C : Int) (t_X : Int) (t_Y : Int) (t_Z : Int) : Le (f294 k t_C t_X t_Y t_Z) (f294 (k + 1) t_C t_X t_Y t_Z) := by
  unfold f294
  repeat' first | with_reducible exact Le.rfl _ | with_reducible refine Le.cond ?_ ?_ | with_reducible refine Le.bind ?_ fun _ => ?_
theorem Ri_Term_degree (t_C : Int) (t_X : Int) (t_Y : Int) (t_Z : Int) : Lim (fun k => f294 k t_C t_X t_Y t_Z) (i_Term_degree t_C t_X t_Y t_Z) := by
  unfold f294 i_Term_degree
  repeat' first | with_reducible exact Lim.ret _ | with_reducible refine Lim.cond ?_ ?_ | with_reducible refine Lim.bind ?_ fun _ => ?_

-- impl.hasDegree
noncomputable def i_hasDegree (t_C : Int) (t_X : Int) (t_Y : Int) (t_Z : Int) : Option (Bool) :=
  (i_inside t_X 0 4).bind fun r0 =>
  bif r0 then
    (i_inside t_Y 0 4).bind fun r1 =>
    bif r1 then
      (i_inside t_Z 0 4).bind fun r2 =>
      bif r2 then
        some (decide (IntKind.wrap IntKind.i64 (IntKind.wrap IntKind.i64 (t_X + t_Y) + t_Z) ≤ 4))
      else
        some false
    else
      some false
  else
    some false
theorem Mi_hasDegree (k : Nat) (t_C : Int) (t_X : Int) (t_Y : Int) (t_Z : Int) : Le (f291 k t_C t_X t_Y t_Z) (f291 (k + 1) t_C t_X t_Y t_Z) := by
  unfold f291
  repeat' first | with_reducible exact Le.rfl _ | with_reducible exact Mi_inside _ _ _ _ | with_reducible refine Le.cond ?_ ?_ | with_reducible refine Le.bind ?_ fun _ => ?_
theorem Ri_hasDegree (t_C : Int) (t_X : Int) (t_Y : Int) (t_Z : Int) : Lim (fun k => f291 k t_C t_X t_Y t_Z) (i_hasDegree t_C t_X t_Y t_Z) := by
  unfold f291 i_hasDegree
  repeat' first | with_reducible exact Lim.ret _ | with_reducible exact Ri_inside _ _ _ | with_reducible refine Lim.cond ?_ ?_ | with_reducible refine Lim.bind ?_ fun _ => ?_

-- cmp.isNaN[int]
noncomputable def cmp_isNaN_int (x : Int) : Option (Bool) :=
  some (!decide (x = x))
theorem Mcmp_isNaN_int (k : Nat) (x : Int) : Le (f267 k x) (f267 (k + 1) x) := by
  unfold f267
  repeat' first | with_reducible exact Le.rfl _ | with_reducible refine Le.cond ?_ ?_ | with_reducible refine Le.bind ?_ fun _ => ?_
theorem Rcmp_isNaN_int (x : Int) : Lim (fun k => f267 k x) (cmp_isNaN_int x) := by
  unfold f267 cmp_isNaN_int
  repeat' first | with_reducible exact Lim.ret _ | with_reducible refine Lim.cond ?_ ?_ | with_reducible refine Lim.bind ?_ fun _ => ?_

-- cmp.Compare[int]
noncomputable def cmp_Compare_int (x : Int) (y : Int) : Option (Int) :=
  bif !decide (x = x) then
    bif !decide (y = y) then
      some (0)
    else
      some (-1)
  else
    bif !decide (y = y) then
      some (1)
    else
      bif decide (x < y) then
        some (-1)
      else
        bif decide (y < x) then
          some (1)
        else
          some (0)
theorem Mcmp_Compare_int (k : Nat) (x : Int) (y : Int) : Le (f223 k x y) (f223 (k + 1) x y) := by
  unfold f223
  repeat' first | with_reducible exact Le.rfl _ | with_reducible refine Le.cond ?_ ?_ | with_reducible refine Le.bind ?_ fun _ => ?_
theorem Rcmp_Compare_int (x : Int) (y : Int) : Lim (fun k => f223 k x y) (cmp_Compare_int x y) := by
  unfold f223 cmp_Compare_int
  repeat' first | with_reducible exact Lim.ret _ | with_reducible refine Lim.cond ?_ ?_ | with_reducible refine Lim.bind ?_ fun _ => ?_

-- cmp.Or[int]
theorem MFcmp_Or_int_1003 (k : Nat) {r1003 q1003 : Int → List Int → Int → Int → Option (Int)} (h1003 : ∀ (zero : Int) (t6 : List Int) (t7 : Int) (t8 : Int), Le (r1003 zero t6 t7 t8) (q1003 zero t6 t7 t8)) (zero : Int) (t6 : List Int) (t7 : Int) (t8 : Int) : Le (F275_1003 k r1003 zero t6 t7 t8) (F275_1003 (k + 1) q1003 zero t6 t7 t8) := by
  unfold F275_1003
  repeat' first | with_reducible exact Le.rfl _ | with_reducible exact h1003 _ _ _ _ | with_reducible refine Le.cond ?_ ?_ | with_reducible refine Le.bind ?_ fun _ => ?_
theorem Mlcmp_Or_int : ∀ k : Nat, ∀ (zero : Int) (t6 : List Int) (t7 : Int) (t8 : Int), Le ((l275 k) zero t6 t7 t8) ((l275 (k + 1)) zero t6 t7 t8)
  | 0 => fun zero t6 t7 t8 => Le.no _
  | k + 1 => by
    have h := Mlcmp_Or_int k
    exact fun zero t6 t7 t8 => MFcmp_Or_int_1003 k h zero t6 t7 t8
noncomputable def cmp_Or_int_1003 (zero : Int) (t6 : List Int) (t7 : Int) (t8 : Int) : Option (Int) := lim fun k => (l275 k) zero t6 t7 t8
theorem Rlcmp_Or_int_1003 (zero : Int) (t6 : List Int) (t7 : Int) (t8 : Int) : Lim (fun k => (l275 k) zero t6 t7 t8) (cmp_Or_int_1003 zero t6 t7 t8) := Lim.of_mono fun k => Mlcmp_Or_int k zero t6 t7 t8
theorem Ecmp_Or_int_1003 (zero : Int) (t6 : List Int) (t7 : Int) (t8 : Int) : cmp_Or_int_1003 zero t6 t7 t8 =
  bif decide (t8 < t7) then
    bif boundA t8 (List.length t6) then
      bif !decide (List.getD t6 (Int.toNat t8) 0 = zero) then
        some (List.getD t6 (Int.toNat t8) 0)
      else
        cmp_Or_int_1003 zero t6 t7 (IntKind.wrap IntKind.i64 (t8 + 1))
    else
      none
  else
    some zero := by
  refine Lim.uniq (Lim.shift (Rlcmp_Or_int_1003 zero t6 t7 t8)) (?_ : Lim (fun k => F275_1003 k ((l275 k)) zero t6 t7 t8) _)
  unfold F275_1003
  repeat' first | with_reducible exact Lim.ret _ | with_reducible exact Rlcmp_Or_int_1003 _ _ _ _ | with_reducible refine Lim.cond ?_ ?_ | with_reducible refine Lim.bind ?_ fun _ => ?_
noncomputable def cmp_Or_int (vals : List (Int)) : Option (Int) :=
  cmp_Or_int_1003 (0) vals ((↑(List.length vals) : Int)) (0)
theorem Mcmp_Or_int (k : Nat) (vals : List (Int)) : Le (f275 k vals) (f275 (k + 1) vals) := by
  have h := Mlcmp_Or_int k
  unfold f275 F275
  repeat' first | with_reducible exact Le.rfl _ | with_reducible exact h _ _ _ _ | with_reducible refine Le.cond ?_ ?_ | with_reducible refine Le.bind ?_ fun _ => ?_
theorem Rcmp_Or_int (vals : List (Int)) : Lim (fun k => f275 k vals) (cmp_Or_int vals) := by
  unfold f275 F275 cmp_Or_int
  repeat' first | with_reducible exact Lim.ret _ | with_reducible exact Rlcmp_Or_int_1003 _ _ _ _ | with_reducible refine Lim.cond ?_ ?_ | with_reducible refine Lim.bind ?_ fun _ => ?_

-- impl.compareTerms
noncomputable def i_compareTerms (a_C : Int) (a_X : Int) (a_Y : Int) (a_Z : Int) (b_C : Int) (b_X : Int) (b_Y : Int) (b_Z : Int) : Option (Int) :=
  (cmp_Compare_int a_X b_X).bind fun r0 =>
  (cmp_Compare_int a_Y b_Y).bind fun r1 =>
  (cmp_Compare_int a_Z b_Z).bind fun r2 =>
  (cmp_Or_int [r0, r1, r2]).bind fun r3 =>
  some r3
theorem Mi_compareTerms (k : Nat) (a_C : Int) (a_X : Int) (a_Y : Int) (a_Z : Int) (b_C : Int) (b_X : Int) (b_Y : Int) (b_Z : Int) : Le (f292 k a_C a_X a_Y a_Z b_C b_X b_Y b_Z) (f292 (k + 1) a_C a_X a_Y a_Z b_C b_X b_Y b_Z) := by
  unfold f292
  repeat' first | with_reducible exact Le.rfl _ | with_reducible exact Mcmp_Compare_int _ _ _ | with_reducible exact Mcmp_Or_int _ _ | with_reducible refine Le.cond ?_ ?_ | with_reducible refine Le.bind ?_ fun _ => ?_
theorem Ri_compareTerms (a_C : Int) (a_X : Int) (a_Y : Int) (a_Z : Int) (b_C : Int) (b_X : Int) (b_Y : Int) (b_Z : Int) : Lim (fun k => f292 k a_C a_X a_Y a_Z b_C b_X b_Y b_Z) (i_compareTerms a_C a_X a_Y a_Z b_C b_X b_Y b_Z) := by
  unfold f292 i_compareTerms
  repeat' first | with_reducible exact Lim.ret _ | with_reducible exact Rcmp_Compare_int _ _ | with_reducible exact Rcmp_Or_int _ | with_reducible refine Lim.cond ?_ ?_ | with_reducible refine Lim.bind ?_ fun _ => ?_

-- impl.isPoly
theorem MFi_isPoly_1002 (k : Nat) {r1002 q1002 : List (Int × Int × Int × Int) → List (Int × Int × Int × Int) → Int → Int → Option (Bool)} (h1002 : ∀ (p : List (Int × Int × Int × Int)) (t5 : List (Int × Int × Int × Int)) (t6 : Int) (t7 : Int), Le (r1002 p t5 t6 t7) (q1002 p t5 t6 t7)) (p : List (Int × Int × Int × Int)) (t5 : List (Int × Int × Int × Int)) (t6 : Int) (t7 : Int) : Le (F279_1002 k r1002 p t5 t6 t7) (F279_1002 (k + 1) q1002 p t5 t6 t7) := by
  unfold F279_1002
  repeat' first | with_reducible exact Le.rfl _ | with_reducible exact Mi_inside _ _ _ _ | with_reducible exact Mi_hasDegree _ _ _ _ _ | with_reducible exact Mi_compareTerms _ _ _ _ _ _ _ _ _ | with_reducible exact h1002 _ _ _ _ | with_reducible refine Le.cond ?_ ?_ | with_reducible refine Le.bind ?_ fun _ => ?_
theorem Mli_isPoly : ∀ k : Nat, ∀ (p : List (Int × Int × Int × Int)) (t5 : List (Int × Int × Int × Int)) (t6 : Int) (t7 : Int), Le ((l279 k) p t5 t6 t7) ((l279 (k + 1)) p t5 t6 t7)
  | 0 => fun p t5 t6 t7 => Le.no _
  | k + 1 => by
    have h := Mli_isPoly k
    exact fun p t5 t6 t7 => MFi_isPoly_1002 k h p t5 t6 t7
noncomputable def i_isPoly_1002 (p : List (Int × Int × Int × Int)) (t5 : List (Int × Int × Int × Int)) (t6 : Int) (t7 : Int) : Option (Bool) := lim fun k => (l279 k) p t5 t6 t7
theorem Rli_isPoly_1002 (p : List (Int × Int × Int × Int)) (t5 : List (Int × Int × Int × Int)) (t6 : Int) (t7 : Int) : Lim (fun k => (l279 k) p t5 t6 t7) (i_isPoly_1002 p t5 t6 t7) := Lim.of_mono fun k => Mli_isPoly k p t5 t6 t7
theorem Ei_isPoly_1002 (p : List (Int × Int × Int × Int)) (t5 : List (Int × Int × Int × Int)) (t6 : Int) (t7 : Int) : i_isPoly_1002 p t5 t6 t7 =
  bif decide (t7 < t6) then
    bif boundA t7 (List.length t5) then
      bif decide ((List.getD t5 (Int.toNat t7) (0, 0, 0, 0)).fst = 0) then
        some false
      else
        (i_inside (List.getD t5 (Int.toNat t7) (0, 0, 0, 0)).fst (-1000) 1000).bind fun r0 =>
        bif !r0 then
          some false
        else
          (i_hasDegree (List.getD t5 (Int.toNat t7) (0, 0, 0, 0)).fst (List.getD t5 (Int.toNat t7) (0, 0, 0, 0)).snd.fst (List.getD t5 (Int.toNat t7) (0, 0, 0, 0)).snd.snd.fst (List.getD t5 (Int.toNat t7) (0, 0, 0, 0)).snd.snd.snd).bind fun r1 =>
          bif !r1 then
            some false
          else
            bif decide (0 < t7) then
              bif boundA (IntKind.wrap IntKind.i64 (t7 - 1)) (List.length p) then
                (i_compareTerms (List.getD p (Int.toNat (IntKind.wrap IntKind.i64 (t7 - 1))) (0, 0, 0, 0)).fst (List.getD p (Int.toNat (IntKind.wrap IntKind.i64 (t7 - 1))) (0, 0, 0, 0)).snd.fst (List.getD p (Int.toNat (IntKind.wrap IntKind.i64 (t7 - 1))) (0, 0, 0, 0)).snd.snd.fst (List.getD p (Int.toNat (IntKind.wrap IntKind.i64 (t7 - 1))) (0, 0, 0, 0)).snd.snd.snd (List.getD t5 (Int.toNat t7) (0, 0, 0, 0)).fst (List.getD t5 (Int.toNat t7) (0, 0, 0, 0)).snd.fst (List.getD t5 (Int.toNat t7) (0, 0, 0, 0)).snd.snd.fst (List.getD t5 (Int.toNat t7) (0, 0, 0, 0)).snd.snd.snd).bind fun r2 =>
                bif decide (0 ≤ r2) then
                  some false
                else
                  i_isPoly_1002 p t5 t6 (IntKind.wrap IntKind.i64 (t7 + 1))
              else
                none
            else
              i_isPoly_1002 p t5 t6 (IntKind.wrap IntKind.i64 (t7 + 1))
    else
      none
  else
    some (decide ((↑(List.length p) : Int) ≤ 20)) := by
  refine Lim.uniq (Lim.shift (Rli_isPoly_1002 p t5 t6 t7)) (?_ : Lim (fun k => F279_1002 k ((l279 k)) p t5 t6 t7) _)
  unfold F279_1002
  repeat' first | with_reducible exact Lim.ret _ | with_reducible exact Ri_inside _ _ _ | with_reducible exact Ri_hasDegree _ _ _ _ | with_reducible exact Ri_compareTerms _ _ _ _ _ _ _ _ | with_reducible exact Rli_isPoly_1002 _ _ _ _ | with_reducible refine Lim.cond ?_ ?_ | with_reducible refine Lim.bind ?_ fun _ => ?_
noncomputable def i_isPoly (p : List (Int × Int × Int × Int)) : Option (Bool) :=
  i_isPoly_1002 p p ((↑(List.length p) : Int)) (0)
theorem Mi_isPoly (k : Nat) (p : List (Int × Int × Int × Int)) : Le (f279 k p) (f279 (k + 1) p) := by
  have h := Mli_isPoly k
  unfold f279 F279
  repeat' first | with_reducible exact Le.rfl _ | with_reducible exact h _ _ _ _ | with_reducible refine Le.cond ?_ ?_ | with_reducible refine Le.bind ?_ fun _ => ?_
theorem Ri_isPoly (p : List (Int × Int × Int × Int)) : Lim (fun k => f279 k p) (i_isPoly p) := by
  unfold f279 F279 i_isPoly
  repeat' first | with_reducible exact Lim.ret _ | with_reducible exact Rli_isPoly_1002 _ _ _ _ | with_reducible refine Lim.cond ?_ ?_ | with_reducible refine Lim.bind ?_ fun _ => ?_

-- impl.Term).exponents
noncomputable def i_Term_exponents (t_C : Int) (t_X : Int) (t_Y : Int) (t_Z : Int) : Option (Int × Int × Int) :=
  some ((t_X, t_Y, t_Z))
theorem Mi_Term_exponents (k : Nat) (t_C : Int) (t_X : Int) (t_Y : Int) (t_Z : Int) : Le (f293 k t_C t_X t_Y t_Z) (f293 (k + 1) t_C t_X t_Y t_Z) := by
  unfold f293
  repeat' first | with_reducible exact Le.rfl _ | with_reducible refine Le.cond ?_ ?_ | with_reducible refine Le.bind ?_ fun _ => ?_
theorem Ri_Term_exponents (t_C : Int) (t_X : Int) (t_Y : Int) (t_Z : Int) : Lim (fun k => f293 k t_C t_X t_Y t_Z) (i_Term_exponents t_C t_X t_Y t_Z) := by
  unfold f293 i_Term_exponents
  repeat' first | with_reducible exact Lim.ret _ | with_reducible refine Lim.cond ?_ ?_ | with_reducible refine Lim.bind ?_ fun _ => ?_

-- impl.needsAtMost
theorem MFi_needsAtMost_1002 (k : Nat) {r1002 q1002 : Int → List (Int × Int × Int × Int) → Int → Int → Option (Bool)} (h1002 : ∀ (n : Int) (t9 : List (Int × Int × Int × Int)) (t10 : Int) (t11 : Int), Le (r1002 n t9 t10 t11) (q1002 n t9 t10 t11)) {r1005 q1005 : Int → List (Int × Int × Int × Int) → Int → Int → Int → Int → Int → Int → Option (Bool)} (h1005 : ∀ (n : Int) (t9 : List (Int × Int × Int × Int)) (t10 : Int) (t11 : Int) (t16_0 : Int) (t16_1 : Int) (t16_2 : Int) (t17 : Int), Le (r1005 n t9 t10 t11 t16_0 t16_1 t16_2 t17) (q1005 n t9 t10 t11 t16_0 t16_1 t16_2 t17)) (n : Int) (t9 : List (Int × Int × Int × Int)) (t10 : Int) (t11 : Int) : Le (F280_1002 k r1002 r1005 n t9 t10 t11) (F280_1002 (k + 1) q1002 q1005 n t9 t10 t11) := by
  unfold F280_1002
  repeat' first | with_reducible exact Le.rfl _ | with_reducible exact h1002 _ _ _ _ | with_reducible exact h1005 _ _ _ _ _ _ _ _ | with_reducible refine Le.cond ?_ ?_ | with_reducible refine Le.bind ?_ fun _ => ?_
theorem MFi_needsAtMost_1005 (k : Nat) {r1002 q1002 : Int → List (Int × Int × Int × Int) → Int → Int → Option (Bool)} (h1002 : ∀ (n : Int) (t9 : List (Int × Int × Int × Int)) (t10 : Int) (t11 : Int), Le (r1002 n t9 t10 t11) (q1002 n t9 t10 t11)) {r1005 q1005 : Int → List (Int × Int × Int × Int) → Int → Int → Int → Int → Int → Int → Option (Bool)} (h1005 : ∀ (n : Int) (t9 : List (Int × Int × Int × Int)) (t10 : Int) (t11 : Int) (t16_0 : Int) (t16_1 : Int) (t16_2 : Int) (t17 : Int), Le (r1005 n t9 t10 t11 t16_0 t16_1 t16_2 t17) (q1005 n t9 t10 t11 t16_0 t16_1 t16_2 t17)) (n : Int) (t9 : List (Int × Int × Int × Int)) (t10 : Int) (t11 : Int) (t16_0 : Int) (t16_1 : Int) (t16_2 : Int) (t17 : Int) : Le (F280_1005 k r1002 r1005 n t9 t10 t11 t16_0 t16_1 t16_2 t17) (F280_1005 (k + 1) q1002 q1005 n t9 t10 t11 t16_0 t16_1 t16_2 t17) := by
  unfold F280_1005
  repeat' first | with_reducible exact Le.rfl _ | with_reducible exact h1002 _ _ _ _ | with_reducible exact h1005 _ _ _ _ _ _ _ _ | with_reducible refine Le.cond ?_ ?_ | with_reducible refine Le.bind ?_ fun _ => ?_
theorem Mli_needsAtMost : ∀ k : Nat, (∀ (n : Int) (t9 : List (Int × Int × Int × Int)) (t10 : Int) (t11 : Int), Le ((l280 k).1 n t9 t10 t11) ((l280 (k + 1)).1 n t9 t10 t11)) ∧ (∀ (n : Int) (t9 : List (Int × Int × Int × Int)) (t10 : Int) (t11 : Int) (t16_0 : Int) (t16_1 : Int) (t16_2 : Int) (t17 : Int), Le ((l280 k).2 n t9 t10 t11 t16_0 t16_1 t16_2 t17) ((l280 (k + 1)).2 n t9 t10 t11 t16_0 t16_1 t16_2 t17))
  | 0 => ⟨fun n t9 t10 t11 => Le.no _, fun n t9 t10 t11 t16_0 t16_1 t16_2 t17 => Le.no _⟩
  | k + 1 => by
    have h := Mli_needsAtMost k
    exact ⟨fun n t9 t10 t11 => MFi_needsAtMost_1002 k h.1 h.2 n t9 t10 t11, fun n t9 t10 t11 t16_0 t16_1 t16_2 t17 => MFi_needsAtMost_1005 k h.1 h.2 n t9 t10 t11 t16_0 t16_1 t16_2 t17⟩
noncomputable def i_needsAtMost_1002 (n : Int) (t9 : List (Int × Int × Int × Int)) (t10 : Int) (t11 : Int) : Option (Bool) := lim fun k => (l280 k).1 n t9 t10 t11
theorem Rli_needsAtMost_1002 (n : Int) (t9 : List (Int × Int × Int × Int)) (t10 : Int) (t11 : Int) : Lim (fun k => (l280 k).1 n t9 t10 t11) (i_needsAtMost_1002 n t9 t10 t11) := Lim.of_mono fun k => (Mli_needsAtMost k).1 n t9 t10 t11
noncomputable def i_needsAtMost_1005 (n : Int) (t9 : List (Int × Int × Int × Int)) (t10 : Int) (t11 : Int) (t16_0 : Int) (t16_1 : Int) (t16_2 : Int) (t17 : Int) : Option (Bool) := lim fun k => (l280 k).2 n t9 t10 t11 t16_0 t16_1 t16_2 t17
theorem Rli_needsAtMost_1005 (n : Int) (t9 : List (Int × Int × Int × Int)) (t10 : Int) (t11 : Int) (t16_0 : Int) (t16_1 : Int) (t16_2 : Int) (t17 : Int) : Lim (fun k => (l280 k).2 n t9 t10 t11 t16_0 t16_1 t16_2 t17) (i_needsAtMost_1005 n t9 t10 t11 t16_0 t16_1 t16_2 t17) := Lim.of_mono fun k => (Mli_needsAtMost k).2 n t9 t10 t11 t16_0 t16_1 t16_2 t17
theorem Ei_needsAtMost_1002 (n : Int) (t9 : List (Int × Int × Int × Int)) (t10 : Int) (t11 : Int) : i_needsAtMost_1002 n t9 t10 t11 =
  bif decide (t11 < t10) then
    bif boundA t11 (List.length t9) then
      i_needsAtMost_1005 n t9 t10 t11 ((List.getD t9 (Int.toNat t11) (0, 0, 0, 0)).snd.fst) ((List.getD t9 (Int.toNat t11) (0, 0, 0, 0)).snd.snd.fst) ((List.getD t9 (Int.toNat t11) (0, 0, 0, 0)).snd.snd.snd) (0)
    else
      none
  else
    some true := by
  refine Lim.uniq (Lim.shift (Rli_needsAtMost_1002 n t9 t10 t11)) (?_ : Lim (fun k => F280_1002 k ((l280 k).1) ((l280 k).2) n t9 t10 t11) _)
  unfold F280_1002
  repeat' first | with_reducible exact Lim.ret _ | with_reducible exact Rli_needsAtMost_1002 _ _ _ _ | with_reducible exact Rli_needsAtMost_1005 _ _ _ _ _ _ _ _ | with_reducible refine Lim.cond ?_ ?_ | with_reducible refine Lim.bind ?_ fun _ => ?_
theorem Ei_needsAtMost_1005 (n : Int) (t9 : List (Int × Int × Int × Int)) (t10 : Int) (t11 : Int) (t16_0 : Int) (t16_1 : Int) (t16_2 : Int) (t17 : Int) : i_needsAtMost_1005 n t9 t10 t11 t16_0 t16_1 t16_2 t17 =
  bif decide (t17 < 3) then
    bif boundA t17 (List.length [t16_0, t16_1, t16_2]) then
      bif decide (n ≤ t17) then
        bif decide (0 < List.getD [t16_0, t16_1, t16_2] (Int.toNat t17) 0) then
          some false
        else
          i_needsAtMost_1005 n t9 t10 t11 t16_0 t16_1 t16_2 (IntKind.wrap IntKind.i64 (t17 + 1))
      else
        i_needsAtMost_1005 n t9 t10 t11 t16_0 t16_1 t16_2 (IntKind.wrap IntKind.i64 (t17 + 1))
    else
      none
  else
    i_needsAtMost_1002 n t9 t10 (IntKind.wrap IntKind.i64 (t11 + 1)) := by
  refine Lim.uniq (Lim.shift (Rli_needsAtMost_1005 n t9 t10 t11 t16_0 t16_1 t16_2 t17)) (?_ : Lim (fun k => F280_1005 k ((l280 k).1) ((l280 k).2) n t9 t10 t11 t16_0 t16_1 t16_2 t17) _)
  unfold F280_1005
  repeat' first | with_reducible exact Lim.ret _ | with_reducible exact Rli_needsAtMost_1002 _ _ _ _ | with_reducible exact Rli_needsAtMost_1005 _ _ _ _ _ _ _ _ | with_reducible refine Lim.cond ?_ ?_ | with_reducible refine Lim.bind ?_ fun _ => ?_
noncomputable def i_needsAtMost (p : List (Int × Int × Int × Int)) (n : Int) : Option (Bool) :=
  i_needsAtMost_1002 n p ((↑(List.length p) : Int)) (0)
theorem Mi_needsAtMost (k : Nat) (p : List (Int × Int × Int × Int)) (n : Int) : Le (f280 k p n) (f280 (k + 1) p n) := by
  have h := Mli_needsAtMost k
  unfold f280 F280
  repeat' first | with_reducible exact Le.rfl _ | with_reducible exact h.1 _ _ _ _ | with_reducible exact h.2 _ _ _ _ _ _ _ _ | with_reducible refine Le.cond ?_ ?_ | with_reducible refine Le.bind ?_ fun _ => ?_
theorem Ri_needsAtMost (p : List (Int × Int × Int × Int)) (n : Int) : Lim (fun k => f280 k p n) (i_needsAtMost p n) := by
  unfold f280 F280 i_needsAtMost
  repeat' first | with_reducible exact Lim.ret _ | with_reducible exact Rli_needsAtMost_1002 _ _ _ _ | with_reducible exact Rli_needsAtMost_1005 _ _ _ _ _ _ _ _ | with_reducible refine Lim.cond ?_ ?_ | with_reducible refine Lim.bind ?_ fun _ => ?_

-- impl.isSystem
theorem MFi_isSystem_1002 (k : Nat) {r1002 q1002 : List (List (Int × Int × Int × Int)) → List (List (Int × Int × Int × Int)) → Int → Int → Option (Bool)} (h1002 : ∀ (s : List (List (Int × Int × Int × Int))) (t5 : List (List (Int × Int × Int × Int))) (t6 : Int) (t7 : Int), Le (r1002 s t5 t6 t7) (q1002 s t5 t6 t7)) (s : List (List (Int × Int × Int × Int))) (t5 : List (List (Int × Int × Int × Int))) (t6 : Int) (t7 : Int) : Le (F254_1002 k r1002 s t5 t6 t7) (F254_1002 (k + 1) q1002 s t5 t6 t7) := by
  unfold F254_1002
  repeat' first | with_reducible exact Le.rfl _ | with_reducible exact Mi_inside _ _ _ _ | with_reducible exact Mi_isPoly _ _ | with_reducible exact Mi_needsAtMost _ _ _ | with_reducible exact h1002 _ _ _ _ | with_reducible refine Le.cond ?_ ?_ | with_reducible refine Le.bind ?_ fun _ => ?_
theorem Mli_isSystem : ∀ k : Nat, ∀ (s : List (List (Int × Int × Int × Int))) (t5 : List (List (Int × Int × Int × Int))) (t6 : Int) (t7 : Int), Le ((l254 k) s t5 t6 t7) ((l254 (k + 1)) s t5 t6 t7)
  | 0 => fun s t5 t6 t7 => Le.no _
  | k + 1 => by
    have h := Mli_isSystem k
    exact fun s t5 t6 t7 => MFi_isSystem_1002 k h s t5 t6 t7
noncomputable def i_isSystem_1002 (s : List (List (Int × Int × Int × Int))) (t5 : List (List (Int × Int × Int × Int))) (t6 : Int) (t7 : Int) : Option (Bool) := lim fun k => (l254 k) s t5 t6 t7
theorem Rli_isSystem_1002 (s : List (List (Int × Int × Int × Int))) (t5 : List (List (Int × Int × Int × Int))) (t6 : Int) (t7 : Int) : Lim (fun k => (l254 k) s t5 t6 t7) (i_isSystem_1002 s t5 t6 t7) := Lim.of_mono fun k => Mli_isSystem k s t5 t6 t7
theorem Ei_isSystem_1002 (s : List (List (Int × Int × Int × Int))) (t5 : List (List (Int × Int × Int × Int))) (t6 : Int) (t7 : Int) : i_isSystem_1002 s t5 t6 t7 =
  bif decide (t7 < t6) then
    bif boundA t7 (List.length t5) then
      (i_isPoly (List.getD t5 (Int.toNat t7) [])).bind fun r0 =>
      bif !r0 then
        some false
      else
        (i_needsAtMost (List.getD t5 (Int.toNat t7) []) (↑(List.length s) : Int)).bind fun r1 =>
        bif !r1 then
          some false
        else
          i_isSystem_1002 s t5 t6 (IntKind.wrap IntKind.i64 (t7 + 1))
    else
      none
  else
    (i_inside (↑(List.length s) : Int) 1 3).bind fun r2 =>
    some r2 := by
  refine Lim.uniq (Lim.shift (Rli_isSystem_1002 s t5 t6 t7)) (?_ : Lim (fun k => F254_1002 k ((l254 k)) s t5 t6 t7) _)
  unfold F254_1002
  repeat' first | with_reducible exact Lim.ret _ | with_reducible exact Ri_inside _ _ _ | with_reducible exact Ri_isPoly _ | with_reducible exact Ri_needsAtMost _ _ | with_reducible exact Rli_isSystem_1002 _ _ _ _ | with_reducible refine Lim.cond ?_ ?_ | with_reducible refine Lim.bind ?_ fun _ => ?_
noncomputable def i_isSystem (s : List (List (Int × Int × Int × Int))) : Option (Bool) :=
  i_isSystem_1002 s s ((↑(List.length s) : Int)) (0)
theorem Mi_isSystem (k : Nat) (s : List (List (Int × Int × Int × Int))) : Le (f254 k s) (f254 (k + 1) s) := by
  have h := Mli_isSystem k
  unfold f254 F254
  repeat' first | with_reducible exact Le.rfl _ | with_reducible exact h _ _ _ _ | with_reducible refine Le.cond ?_ ?_ | with_reducible refine Le.bind ?_ fun _ => ?_
theorem Ri_isSystem (s : List (List (Int × Int × Int × Int))) : Lim (fun k => f254 k s) (i_isSystem s) := by
  unfold f254 F254 i_isSystem
  repeat' first | with_reducible exact Lim.ret _ | with_reducible exact Rli_isSystem_1002 _ _ _ _ | with_reducible refine Lim.cond ?_ ?_ | with_reducible refine Lim.bind ?_ fun _ => ?_

-- impl.systemOver
noncomputable def i_systemOver (s : List (List (Int × Int × Int × Int))) (b : Int × (List (Int)) × List (Int)) : Option (Bool) :=
  (i_isSystem s).bind fun r0 =>
  bif r0 then
    (i_isBox b).bind fun r1 =>
    bif r1 then
      some (decide ((↑(List.length s) : Int) = (↑(List.length b.snd.fst) : Int)))
    else
      some false
  else
    some false
theorem Mi_systemOver (k : Nat) (s : List (List (Int × Int × Int × Int))) (b : Int × (List (Int)) × List (Int)) : Le (f209 k s b) (f209 (k + 1) s b) := by
  unfold f209
  repeat' first | with_reducible exact Le.rfl _ | with_reducible exact Mi_isBox _ _ | with_reducible exact Mi_isSystem _ _ | with_reducible refine Le.cond ?_ ?_ | with_reducible refine Le.bind ?_ fun _ => ?_
theorem Ri_systemOver (s : List (List (Int × Int × Int × Int))) (b : Int × (List (Int)) × List (Int)) : Lim (fun k => f209 k s b) (i_systemOver s b) := by
  unfold f209 i_systemOver
  repeat' first | with_reducible exact Lim.ret _ | with_reducible exact Ri_isBox _ | with_reducible exact Ri_isSystem _ | with_reducible refine Lim.cond ?_ ?_ | with_reducible refine Lim.bind ?_ fun _ => ?_

-- impl.isEntry
theorem MFi_isEntry_1002 (k : Nat) {r1002 q1002 : ByteArray × List (List (Int × Int × Int × Int)) × (Int × List Int × List Int) × Int × Int × Int → Int → Int → Option (Bool)} (h1002 : ∀ (L : ByteArray × List (List (Int × Int × Int × Int)) × (Int × List Int × List Int) × Int × Int × Int) (r : Int) (r_9 : Int), Le (r1002 L r r_9) (q1002 L r r_9)) (L : ByteArray × List (List (Int × Int × Int × Int)) × (Int × List Int × List Int) × Int × Int × Int) (r : Int) (r_9 : Int) : Le (F144_1002 k r1002 L r r_9) (F144_1002 (k + 1) q1002 L r r_9) := by
  unfold F144_1002
  repeat' first | with_reducible exact Le.rfl _ | with_reducible exact Mi_inside _ _ _ _ | with_reducible exact Mi_systemOver _ _ _ | with_reducible exact h1002 _ _ _ | with_reducible refine Le.cond ?_ ?_ | with_reducible refine Le.bind ?_ fun _ => ?_
theorem Mli_isEntry : ∀ k : Nat, ∀ (L : ByteArray × List (List (Int × Int × Int × Int)) × (Int × List Int × List Int) × Int × Int × Int) (r : Int) (r_9 : Int), Le ((l144 k) L r r_9) ((l144 (k + 1)) L r r_9)
  | 0 => fun L r r_9 => Le.no _
  | k + 1 => by
    have h := Mli_isEntry k
    exact fun L r r_9 => MFi_isEntry_1002 k h L r r_9
noncomputable def i_isEntry_1002 (L : ByteArray × List (List (Int × Int × Int × Int)) × (Int × List Int × List Int) × Int × Int × Int) (r : Int) (r_9 : Int) : Option (Bool) := lim fun k => (l144 k) L r r_9
theorem Rli_isEntry_1002 (L : ByteArray × List (List (Int × Int × Int × Int)) × (Int × List Int × List Int) × Int × Int × Int) (r : Int) (r_9 : Int) : Lim (fun k => (l144 k) L r r_9) (i_isEntry_1002 L r r_9) := Lim.of_mono fun k => Mli_isEntry k L r r_9
theorem Ei_isEntry_1002 (L : ByteArray × List (List (Int × Int × Int × Int)) × (Int × List Int × List Int) × Int × Int × Int) (r : Int) (r_9 : Int) : i_isEntry_1002 L r r_9 =
  bif decide (r_9 < r) then
    bif boundA r_9 (ByteArray.size L.fst) then
      bif decide ((↑(UInt8.toNat (Array.getD L.fst.data (Int.toNat r_9) 0)) : Int) < 97) then
        some false
      else
        bif boundA r_9 (ByteArray.size L.fst) then
          bif decide (122 < (↑(UInt8.toNat (Array.getD L.fst.data (Int.toNat r_9) 0)) : Int)) then
            some false
          else
            i_isEntry_1002 L r (IntKind.wrap IntKind.i64 (r_9 + 1))
        else
          none
    else
      none
  else
    (i_inside (↑(ByteArray.size L.fst) : Int) 1 8).bind fun r0 =>
    bif r0 then
      (i_systemOver L.snd.fst L.snd.snd.fst).bind fun r1 =>
      bif r1 then
        (i_inside L.snd.snd.snd.fst 0 L.snd.snd.snd.snd.fst).bind fun r2 =>
        bif r2 then
          bif decide (L.snd.snd.snd.snd.fst ≤ 64) then
            (i_inside L.snd.snd.snd.snd.snd 1 999).bind fun r3 =>
            some r3
          else
            some false
        else
          some false
      else
        some false
    else
      some false := by
  refine Lim.uniq (Lim.shift (Rli_isEntry_1002 L r r_9)) (?_ : Lim (fun k => F144_1002 k ((l144 k)) L r r_9) _)
  unfold F144_1002
  repeat' first | with_reducible exact Lim.ret _ | with_reducible exact Ri_inside _ _ _ | with_reducible exact Ri_systemOver _ _ | with_reducible exact Rli_isEntry_1002 _ _ _ | with_reducible refine Lim.cond ?_ ?_ | with_reducible refine Lim.bind ?_ fun _ => ?_
noncomputable def i_isEntry (L : ByteArray × (List (List (Int × Int × Int × Int))) × (Int × (List (Int)) × List (Int)) × Int × Int × Int) : Option (Bool) :=
  i_isEntry_1002 L ((↑(ByteArray.size L.fst) : Int)) (0)
theorem Mi_isEntry (k : Nat) (L : ByteArray × (List (List (Int × Int × Int × Int))) × (Int × (List (Int)) × List (Int)) × Int × Int × Int) : Le (f144 k L) (f144 (k + 1) L) := by
  have h := Mli_isEntry k
  unfold f144 F144
  repeat' first | with_reducible exact Le.rfl _ | with_reducible exact h _ _ _ | with_reducible refine Le.cond ?_ ?_ | with_reducible refine Le.bind ?_ fun _ => ?_
theorem Ri_isEntry (L : ByteArray × (List (List (Int × Int × Int × Int))) × (Int × (List (Int)) × List (Int)) × Int × Int × Int) : Lim (fun k => f144 k L) (i_isEntry L) := by
  unfold f144 F144 i_isEntry
  repeat' first | with_reducible exact Lim.ret _ | with_reducible exact Rli_isEntry_1002 _ _ _ | with_reducible refine Lim.cond ?_ ?_ | with_reducible refine Lim.bind ?_ fun _ => ?_

-- impl.isCatalogue
theorem MFi_isCatalogue_1002 (k : Nat) {r1002 q1002 : List (ByteArray × List (List (Int × Int × Int × Int)) × (Int × List Int × List Int) × Int × Int × Int) → Int → Int → Option (Bool)} (h1002 : ∀ (l : List (ByteArray × List (List (Int × Int × Int × Int)) × (Int × List Int × List Int) × Int × Int × Int)) (t5 : Int) (t6 : Int), Le (r1002 l t5 t6) (q1002 l t5 t6)) (l : List (ByteArray × List (List (Int × Int × Int × Int)) × (Int × List Int × List Int) × Int × Int × Int)) (t5 : Int) (t6 : Int) : Le (F86_1002 k r1002 l t5 t6) (F86_1002 (k + 1) q1002 l t5 t6) := by
  unfold F86_1002
  repeat' first | with_reducible exact Le.rfl _ | with_reducible exact Mi_isEntry _ _ | with_reducible exact h1002 _ _ _ | with_reducible refine Le.cond ?_ ?_ | with_reducible refine Le.bind ?_ fun _ => ?_
theorem Mli_isCatalogue : ∀ k : Nat, ∀ (l : List (ByteArray × List (List (Int × Int × Int × Int)) × (Int × List Int × List Int) × Int × Int × Int)) (t5 : Int) (t6 : Int), Le ((l86 k) l t5 t6) ((l86 (k + 1)) l t5 t6)
  | 0 => fun l t5 t6 => Le.no _
  | k + 1 => by
    have h := Mli_isCatalogue k
    exact fun l t5 t6 => MFi_isCatalogue_1002 k h l t5 t6
noncomputable def i_isCatalogue_1002 (l : List (ByteArray × List (List (Int × Int × Int × Int)) × (Int × List Int × List Int) × Int × Int × Int)) (t5 : Int) (t6 : Int) : Option (Bool) := lim fun k => (l86 k) l t5 t6
theorem Rli_isCatalogue_1002 (l : List (ByteArray × List (List (Int × Int × Int × Int)) × (Int × List Int × List Int) × Int × Int × Int)) (t5 : Int) (t6 : Int) : Lim (fun k => (l86 k) l t5 t6) (i_isCatalogue_1002 l t5 t6) := Lim.of_mono fun k => Mli_isCatalogue k l t5 t6
theorem Ei_isCatalogue_1002 (l : List (ByteArray × List (List (Int × Int × Int × Int)) × (Int × List Int × List Int) × Int × Int × Int)) (t5 : Int) (t6 : Int) : i_isCatalogue_1002 l t5 t6 =
  bif decide (t6 < t5) then
    bif boundA t6 (List.length l) then
      (i_isEntry (List.getD l (Int.toNat t6) (ByteArray.empty, [], (0, [], []), 0, 0, 0))).bind fun r0 =>
      bif !r0 then
        some false
      else
        bif decide (0 < t6) then
          bif boundA (IntKind.wrap IntKind.i64 (t6 - 1)) (List.length l) then
            bif boundA t6 (List.length l) then
              bif !Op.bytesLess (ByteArray.toList (List.getD l (Int.toNat (IntKind.wrap IntKind.i64 (t6 - 1))) (ByteArray.empty, [], (0, [], []), 0, 0, 0)).fst) (ByteArray.toList (List.getD l (Int.toNat t6) (ByteArray.empty, [], (0, [], []), 0, 0, 0)).fst) then
                some false
              else
                i_isCatalogue_1002 l t5 (IntKind.wrap IntKind.i64 (t6 + 1))
            else
              none
          else
            none
        else
          i_isCatalogue_1002 l t5 (IntKind.wrap IntKind.i64 (t6 + 1))
    else
      none
  else
    some (decide ((↑(List.length l) : Int) ≤ 10)) := by
  refine Lim.uniq (Lim.shift (Rli_isCatalogue_1002 l t5 t6)) (?_ : Lim (fun k => F86_1002 k ((l86 k)) l t5 t6) _)
  unfold F86_1002
  repeat' first | with_reducible exact Lim.ret _ | with_reducible exact Ri_isEntry _ | with_reducible exact Rli_isCatalogue_1002 _ _ _ | with_reducible refine Lim.cond ?_ ?_ | with_reducible refine Lim.bind ?_ fun _ => ?_
noncomputable def i_isCatalogue (l : List (ByteArray × (List (List (Int × Int × Int × Int))) × (Int × (List (Int)) × List (Int)) × Int × Int × Int)) : Option (Bool) :=
  i_isCatalogue_1002 l ((↑(List.length l) : Int)) (0)
theorem Mi_isCatalogue (k : Nat) (l : List (ByteArray × (List (List (Int × Int × Int × Int))) × (Int × (List (Int)) × List (Int)) × Int × Int × Int)) : Le (f86 k l) (f86 (k + 1) l) := by
  have h := Mli_isCatalogue k
  unfold f86 F86
  repeat' first | with_reducible exact Le.rfl _ | with_reducible exact h _ _ _ | with_reducible refine Le.cond ?_ ?_ | with_reducible refine Le.bind ?_ fun _ => ?_
theorem Ri_isCatalogue (l : List (ByteArray × (List (List (Int × Int × Int × Int))) × (Int × (List (Int)) × List (Int)) × Int × Int × Int)) : Lim (fun k => f86 k l) (i_isCatalogue l) := by
  unfold f86 F86 i_isCatalogue
  repeat' first | with_reducible exact Lim.ret _ | with_reducible exact Rli_isCatalogue_1002 _ _ _ | with_reducible refine Lim.cond ?_ ?_ | with_reducible refine Lim.bind ?_ fun _ => ?_

-- bytealg.abigen_runtime_cmpstring
noncomputable def bytealg_abigen_runtime_cmpstring (a : ByteArray) (b : ByteArray) : Option (Int) :=
  cmpS a b
theorem Mbytealg_abigen_runtime_cmpstring (k : Nat) (a : ByteArray) (b : ByteArray) : Le (f270 k a b) (f270 (k + 1) a b) := by
  unfold f270
  repeat' first | with_reducible exact Le.rfl _ | with_reducible refine Le.cond ?_ ?_ | with_reducible refine Le.bind ?_ fun _ => ?_
theorem Rbytealg_abigen_runtime_cmpstring (a : ByteArray) (b : ByteArray) : Lim (fun k => f270 k a b) (bytealg_abigen_runtime_cmpstring a b) := by
  unfold f270 bytealg_abigen_runtime_cmpstring
  repeat' first | with_reducible exact Lim.ret _ | with_reducible refine Lim.cond ?_ ?_ | with_reducible refine Lim.bind ?_ fun _ => ?_

-- bytealg.CompareString
noncomputable def bytealg_CompareString (a : ByteArray) (b : ByteArray) : Option (Int) :=
  some (Extern.BytealgCompare.cmp a b)
theorem Mbytealg_CompareString (k : Nat) (a : ByteArray) (b : ByteArray) : Le (f230 k a b) (f230 (k + 1) a b) := by
  unfold f230
  repeat' first | with_reducible exact Le.rfl _ | with_reducible refine Le.cond ?_ ?_ | with_reducible refine Le.bind ?_ fun _ => ?_
theorem Rbytealg_CompareString (a : ByteArray) (b : ByteArray) : Lim (fun k => f230 k a b) (bytealg_CompareString a b) := by
  unfold f230 bytealg_CompareString
  repeat' first | with_reducible exact Lim.ret _ | with_reducible refine Lim.cond ?_ ?_ | with_reducible refine Lim.bind ?_ fun _ => ?_

-- strings.Compare
noncomputable def strings_Compare (a : ByteArray) (b : ByteArray) : Option (Int) :=
  some (Extern.BytealgCompare.cmp a b)
theorem Mstrings_Compare (k : Nat) (a : ByteArray) (b : ByteArray) : Le (f163 k a b) (f163 (k + 1) a b) := by
  unfold f163
  repeat' first | with_reducible exact Le.rfl _ | with_reducible refine Le.cond ?_ ?_ | with_reducible refine Le.bind ?_ fun _ => ?_
theorem Rstrings_Compare (a : ByteArray) (b : ByteArray) : Lim (fun k => f163 k a b) (strings_Compare a b) := by
  unfold f163 strings_Compare
  repeat' first | with_reducible exact Lim.ret _ | with_reducible refine Lim.cond ?_ ?_ | with_reducible refine Lim.bind ?_ fun _ => ?_

-- impl.entryPlace$1
noncomputable def i_entryPlace_1 (e_Name : ByteArray) (e_System : List (List (Int × Int × Int × Int))) (e_Box_K : Int) (e_Box_Low : List (Int)) (e_Box_High : List (Int)) (e_Least : Int) (e_Most : Int) (e_Version : Int) (n : ByteArray) : Option (Int) :=
  some (Extern.BytealgCompare.cmp e_Name n)
theorem Mi_entryPlace_1 (k : Nat) (e_Name : ByteArray) (e_System : List (List (Int × Int × Int × Int))) (e_Box_K : Int) (e_Box_Low : List (Int)) (e_Box_High : List (Int)) (e_Least : Int) (e_Most : Int) (e_Version : Int) (n : ByteArray) : Le (f162 k e_Name e_System e_Box_K e_Box_Low e_Box_High e_Least e_Most e_Version n) (f162 (k + 1) e_Name e_System e_Box_K e_Box_Low e_Box_High e_Least e_Most e_Version n) := by
  unfold f162
  repeat' first | with_reducible exact Le.rfl _ | with_reducible refine Le.cond ?_ ?_ | with_reducible refine Le.bind ?_ fun _ => ?_
theorem Ri_entryPlace_1 (e_Name : ByteArray) (e_System : List (List (Int × Int × Int × Int))) (e_Box_K : Int) (e_Box_Low : List (Int)) (e_Box_High : List (Int)) (e_Least : Int) (e_Most : Int) (e_Version : Int) (n : ByteArray) : Lim (fun k => f162 k e_Name e_System e_Box_K e_Box_Low e_Box_High e_Least e_Most e_Version n) (i_entryPlace_1 e_Name e_System e_Box_K e_Box_Low e_Box_High e_Least e_Most e_Version n) := by
  unfold f162 i_entryPlace_1
  repeat' first | with_reducible exact Lim.ret _ | with_reducible refine Lim.cond ?_ ?_ | with_reducible refine Lim.bind ?_ fun _ => ?_

-- impl.Entry,string]
theorem MFslices_BinarySearchFunc_impl_Entry_impl_Entry_string_i_entryPlace_1_1003 (k : Nat) {r1003 q1003 : List (ByteArray × List (List (Int × Int × Int × Int)) × (Int × List Int × List Int) × Int × Int × Int) → ByteArray → Int → Int → Int → Option (Int × Bool)} (h1003 : ∀ (x : List (ByteArray × List (List (Int × Int × Int × Int)) × (Int × List Int × List Int) × Int × Int × Int)) (target : ByteArray) (n : Int) (i : Int) (j : Int), Le (r1003 x target n i j) (q1003 x target n i j)) (x : List (ByteArray × List (List (Int × Int × Int × Int)) × (Int × List Int × List Int) × Int × Int × Int)) (target : ByteArray) (n : Int) (i : Int) (j : Int) : Le (F161_162_1003 k r1003 x target n i j) (F161_162_1003 (k + 1) q1003 x target n i j) := by
  unfold F161_162_1003
  repeat' first | with_reducible exact Le.rfl _ | with_reducible exact h1003 _ _ _ _ _ | with_reducible refine Le.cond ?_ ?_ | with_reducible refine Le.bind ?_ fun _ => ?_
theorem Mlslices_BinarySearchFunc_impl_Entry_impl_Entry_string_i_entryPlace_1 : ∀ k : Nat, ∀ (x : List (ByteArray × List (List (Int × Int × Int × Int)) × (Int × List Int × List Int) × Int × Int × Int)) (target : ByteArray) (n : Int) (i : Int) (j : Int), Le ((l161_162 k) x target n i j) ((l161_162 (k + 1)) x target n i j)
  | 0 => fun x target n i j => Le.no _
  | k + 1 => by
    have h := Mlslices_BinarySearchFunc_impl_Entry_impl_Entry_string_i_entryPlace_1 k
    exact fun x target n i j => MFslices_BinarySearchFunc_impl_Entry_impl_Entry_string_i_entryPlace_1_1003 k h x target n i j
noncomputable def slices_BinarySearchFunc_impl_Entry_impl_Entry_string_i_entryPlace_1_1003 (x : List (ByteArray × List (List (Int × Int × Int × Int)) × (Int × List Int × List Int) × Int × Int × Int)) (target : ByteArray) (n : Int) (i : Int) (j : Int) : Option (Int × Bool) := lim fun k => (l161_162 k) x target n i j
theorem Rlslices_BinarySearchFunc_impl_Entry_impl_Entry_string_i_entryPlace_1_1003 (x : List (ByteArray × List (List (Int × Int × Int × Int)) × (Int × List Int × List Int) × Int × Int × Int)) (target : ByteArray) (n : Int) (i : Int) (j : Int) : Lim (fun k => (l161_162 k) x target n i j) (slices_BinarySearchFunc_impl_Entry_impl_Entry_string_i_entryPlace_1_1003 x target n i j) := Lim.of_mono fun k => Mlslices_BinarySearchFunc_impl_Entry_impl_Entry_string_i_entryPlace_1 k x target n i j
theorem Eslices_BinarySearchFunc_impl_Entry_impl_Entry_string_i_entryPlace_1_1003 (x : List (ByteArray × List (List (Int × Int × Int × Int)) × (Int × List Int × List Int) × Int × Int × Int)) (target : ByteArray) (n : Int) (i : Int) (j : Int) : slices_BinarySearchFunc_impl_Entry_impl_Entry_string_i_entryPlace_1_1003 x target n i j =
  bif decide (i < j) then
    bif boundA (IntKind.wrap IntKind.i64 (Int.fdiv (IntKind.wrap IntKind.u64 (IntKind.wrap IntKind.i64 (i + j))) (2 ^ min (Int.toNat 1) (IntKind.bits IntKind.u64)))) (List.length x) then
      bif decide (Extern.BytealgCompare.cmp (List.getD x (Int.toNat (IntKind.wrap IntKind.i64 (Int.fdiv (IntKind.wrap IntKind.u64 (IntKind.wrap IntKind.i64 (i + j))) (2 ^ min (Int.toNat 1) (IntKind.bits IntKind.u64))))) (ByteArray.empty, [], (0, [], []), 0, 0, 0)).fst target < 0) then
        slices_BinarySearchFunc_impl_Entry_impl_Entry_string_i_entryPlace_1_1003 x target n (IntKind.wrap IntKind.i64 (IntKind.wrap IntKind.i64 (Int.fdiv (IntKind.wrap IntKind.u64 (IntKind.wrap IntKind.i64 (i + j))) (2 ^ min (Int.toNat 1) (IntKind.bits IntKind.u64))) + 1)) j
      else
        slices_BinarySearchFunc_impl_Entry_impl_Entry_string_i_entryPlace_1_1003 x target n i (IntKind.wrap IntKind.i64 (Int.fdiv (IntKind.wrap IntKind.u64 (IntKind.wrap IntKind.i64 (i + j))) (2 ^ min (Int.toNat 1) (IntKind.bits IntKind.u64))))
    else
      none
  else
    bif decide (i < n) then
      bif boundA i (List.length x) then
        some ((i, decide (Extern.BytealgCompare.cmp (List.getD x (Int.toNat i) (ByteArray.empty, [], (0, [], []), 0, 0, 0)).fst target = 0)))
      else
        none
    else
      some ((i, false)) := by
  refine Lim.uniq (Lim.shift (Rlslices_BinarySearchFunc_impl_Entry_impl_Entry_string_i_entryPlace_1_1003 x target n i j)) (?_ : Lim (fun k => F161_162_1003 k ((l161_162 k)) x target n i j) _)
  unfold F161_162_1003
  repeat' first | with_reducible exact Lim.ret _ | with_reducible exact Rlslices_BinarySearchFunc_impl_Entry_impl_Entry_string_i_entryPlace_1_1003 _ _ _ _ _ | with_reducible refine Lim.cond ?_ ?_ | with_reducible refine Lim.bind ?_ fun _ => ?_
noncomputable def slices_BinarySearchFunc_impl_Entry_impl_Entry_string_i_entryPlace_1 (x : List (ByteArray × (List (List (Int × Int × Int × Int))) × (Int × (List (Int)) × List (Int)) × Int × Int × Int)) (target : ByteArray) : Option (Int × Bool) :=
  slices_BinarySearchFunc_impl_Entry_impl_Entry_string_i_entryPlace_1_1003 x target ((↑(List.length x) : Int)) (0) ((↑(List.length x) : Int))
theorem Mslices_BinarySearchFunc_impl_Entry_impl_Entry_string_i_entryPlace_1 (k : Nat) (x : List (ByteArray × (List (List (Int × Int × Int × Int))) × (Int × (List (Int)) × List (Int)) × Int × Int × Int)) (target : ByteArray) : Le (f161_162 k x target) (f161_162 (k + 1) x target) := by
  have h := Mlslices_BinarySearchFunc_impl_Entry_impl_Entry_string_i_entryPlace_1 k
  unfold f161_162 F161_162
  repeat' first | with_reducible exact Le.rfl _ | with_reducible exact h _ _ _ _ _ | with_reducible refine Le.cond ?_ ?_ | with_reducible refine Le.bind ?_ fun _ => ?_
theorem Rslices_BinarySearchFunc_impl_Entry_impl_Entry_string_i_entryPlace_1 (x : List (ByteArray × (List (List (Int × Int × Int × Int))) × (Int × (List (Int)) × List (Int)) × Int × Int × Int)) (target : ByteArray) : Lim (fun k => f161_162 k x target) (slices_BinarySearchFunc_impl_Entry_impl_Entry_string_i_entryPlace_1 x target) := by
  unfold f161_162 F161_162 slices_BinarySearchFunc_impl_Entry_impl_Entry_string_i_entryPlace_1
  repeat' first | with_reducible exact Lim.ret _ | with_reducible exact Rlslices_BinarySearchFunc_impl_Entry_impl_Entry_string_i_entryPlace_1_1003 _ _ _ _ _ | with_reducible refine Lim.cond ?_ ?_ | with_reducible refine Lim.bind ?_ fun _ => ?_

-- impl.entryPlace
noncomputable def i_entryPlace (l : List (ByteArray × (List (List (Int × Int × Int × Int))) × (Int × (List (Int)) × List (Int)) × Int × Int × Int)) (name : ByteArray) : Option (Int × Bool) :=
  (slices_BinarySearchFunc_impl_Entry_impl_Entry_string_i_entryPlace_1 l name).bind fun r0 =>
  some ((r0.fst, r0.snd))
theorem Mi_entryPlace (k : Nat) (l : List (ByteArray × (List (List (Int × Int × Int × Int))) × (Int × (List (Int)) × List (Int)) × Int × Int × Int)) (name : ByteArray) : Le (f108 k l name) (f108 (k + 1) l name) := by
  unfold f108
  repeat' first | with_reducible exact Le.rfl _ | with_reducible exact Mslices_BinarySearchFunc_impl_Entry_impl_Entry_string_i_entryPlace_1 _ _ _ | with_reducible refine Le.cond ?_ ?_ | with_reducible refine Le.bind ?_ fun _ => ?_
theorem Ri_entryPlace (l : List (ByteArray × (List (List (Int × Int × Int × Int))) × (Int × (List (Int)) × List (Int)) × Int × Int × Int)) (name : ByteArray) : Lim (fun k => f108 k l name) (i_entryPlace l name) := by
  unfold f108 i_entryPlace
  repeat' first | with_reducible exact Lim.ret _ | with_reducible exact Rslices_BinarySearchFunc_impl_Entry_impl_Entry_string_i_entryPlace_1 _ _ | with_reducible refine Lim.cond ?_ ?_ | with_reducible refine Lim.bind ?_ fun _ => ?_

-- impl.FindSystem
noncomputable def i_FindSystem (l : List (ByteArray × (List (List (Int × Int × Int × Int))) × (Int × (List (Int)) × List (Int)) × Int × Int × Int)) (name : ByteArray) : Option (Int × Bool) :=
  (i_isCatalogue l).bind fun r0 =>
  bif !r0 then
    some ((0, false))
  else
    (i_entryPlace l name).bind fun r1 =>
    bif !r1.snd then
      some ((0, false))
    else
      some ((r1.fst, true))
theorem Mi_FindSystem (k : Nat) (l : List (ByteArray × (List (List (Int × Int × Int × Int))) × (Int × (List (Int)) × List (Int)) × Int × Int × Int)) (name : ByteArray) : Le (f48 k l name) (f48 (k + 1) l name) := by
  unfold f48
  repeat' first | with_reducible exact Le.rfl _ | with_reducible exact Mi_entryPlace _ _ _ | with_reducible exact Mi_isCatalogue _ _ | with_reducible refine Le.cond ?_ ?_ | with_reducible refine Le.bind ?_ fun _ => ?_
theorem Ri_FindSystem (l : List (ByteArray × (List (List (Int × Int × Int × Int))) × (Int × (List (Int)) × List (Int)) × Int × Int × Int)) (name : ByteArray) : Lim (fun k => f48 k l name) (i_FindSystem l name) := by
  unfold f48 i_FindSystem
  repeat' first | with_reducible exact Lim.ret _ | with_reducible exact Ri_entryPlace _ _ | with_reducible exact Ri_isCatalogue _ | with_reducible refine Lim.cond ?_ ?_ | with_reducible refine Lim.bind ?_ fun _ => ?_

-- laws.FnExactFindSystem
noncomputable def w_FnExactFindSystem (aL : List (ByteArray × (List (List (Int × Int × Int × Int))) × (Int × (List (Int)) × List (Int)) × Int × Int × Int)) (aName : ByteArray) : Option (Bool) :=
  (w_szEntryS aL (IntKind.wrap IntKind.i64 (1000000 - (↑(ByteArray.size aName) : Int)))).bind fun r0 =>
  bif decide (r0 < 0) then
    some true
  else
    (w_toEntryS aL false).bind fun r1 =>
    (s_FindSystem (List.map (fun (x : T (Ty.pair Ty.str (Ty.pair (Ty.vslice 152 (Ty.vslice 150 (Ty.pair (Ty.int IntKind.i64) (Ty.pair (Ty.int IntKind.i64) (Ty.pair (Ty.int IntKind.i64) (Ty.int IntKind.i64)))))) (Ty.pair (Ty.pair (Ty.int IntKind.i64) (Ty.pair (Ty.vslice 3 (Ty.int IntKind.i64)) (Ty.vslice 3 (Ty.int IntKind.i64)))) (Ty.pair (Ty.int IntKind.i64) (Ty.pair (Ty.int IntKind.i64) (Ty.int IntKind.i64))))))) => (x.fst, List.map (fun (x : T (Ty.vslice 150 (Ty.pair (Ty.int IntKind.i64) (Ty.pair (Ty.int IntKind.i64) (Ty.pair (Ty.int IntKind.i64) (Ty.int IntKind.i64)))))) => List.map (fun (x : T (Ty.pair (Ty.int IntKind.i64) (Ty.pair (Ty.int IntKind.i64) (Ty.pair (Ty.int IntKind.i64) (Ty.int IntKind.i64))))) => (x.fst, x.snd.fst, x.snd.snd.fst, x.snd.snd.snd)) (List.take x.snd x.fst)) (List.take x.snd.fst.snd x.snd.fst.fst), (x.snd.snd.fst.fst, List.map (fun (x : T (Ty.int IntKind.i64)) => x) (List.take x.snd.snd.fst.snd.fst.snd x.snd.snd.fst.snd.fst.fst), List.map (fun (x : T (Ty.int IntKind.i64)) => x) (List.take x.snd.snd.fst.snd.snd.snd x.snd.snd.fst.snd.snd.fst)), x.snd.snd.snd.fst, x.snd.snd.snd.snd.fst, x.snd.snd.snd.snd.snd)) (List.take r1.snd r1.fst)) aName).bind fun r2 =>
    (w_toEntryS aL false).bind fun r3 =>
    (i_FindSystem (List.map (fun (x : T (Ty.pair Ty.str (Ty.pair (Ty.vslice 152 (Ty.vslice 150 (Ty.pair (Ty.int IntKind.i64) (Ty.pair (Ty.int IntKind.i64) (Ty.pair (Ty.int IntKind.i64) (Ty.int IntKind.i64)))))) (Ty.pair (Ty.pair (Ty.int IntKind.i64) (Ty.pair (Ty.vslice 3 (Ty.int IntKind.i64)) (Ty.vslice 3 (Ty.int IntKind.i64)))) (Ty.pair (Ty.int IntKind.i64) (Ty.pair (Ty.int IntKind.i64) (Ty.int IntKind.i64))))))) => (x.fst, List.map (fun (x : T (Ty.vslice 150 (Ty.pair (Ty.int IntKind.i64) (Ty.pair (Ty.int IntKind.i64) (Ty.pair (Ty.int IntKind.i64) (Ty.int IntKind.i64)))))) => List.map (fun (x : T (Ty.pair (Ty.int IntKind.i64) (Ty.pair (Ty.int IntKind.i64) (Ty.pair (Ty.int IntKind.i64) (Ty.int IntKind.i64))))) => (x.fst, x.snd.fst, x.snd.snd.fst, x.snd.snd.snd)) (List.take x.snd x.fst)) (List.take x.snd.fst.snd x.snd.fst.fst), (x.snd.snd.fst.fst, List.map (fun (x : T (Ty.int IntKind.i64)) => x) (List.take x.snd.snd.fst.snd.fst.snd x.snd.snd.fst.snd.fst.fst), List.map (fun (x : T (Ty.int IntKind.i64)) => x) (List.take x.snd.snd.fst.snd.snd.snd x.snd.snd.fst.snd.snd.fst)), x.snd.snd.snd.fst, x.snd.snd.snd.snd.fst, x.snd.snd.snd.snd.snd)) (List.take r3.snd r3.fst)) aName).bind fun r4 =>
    bif !decide (r4.fst = r2.fst) then
      some false
    else
      bif !r4.snd == r2.snd then
        some false
      else
        (w_toEntryS aL false).bind fun r5 =>
        (w_intactEntryS r3.fst r3.snd r5.fst r5.snd).bind fun r6 =>
        bif !r6 then
          some false
        else
          (w_toEntryS aL true).bind fun r7 =>
          (i_FindSystem (List.map (fun (x : T (Ty.pair Ty.str (Ty.pair (Ty.vslice 152 (Ty.vslice 150 (Ty.pair (Ty.int IntKind.i64) (Ty.pair (Ty.int IntKind.i64) (Ty.pair (Ty.int IntKind.i64) (Ty.int IntKind.i64)))))) (Ty.pair (Ty.pair (Ty.int IntKind.i64) (Ty.pair (Ty.vslice 3 (Ty.int IntKind.i64)) (Ty.vslice 3 (Ty.int IntKind.i64)))) (Ty.pair (Ty.int IntKind.i64) (Ty.pair (Ty.int IntKind.i64) (Ty.int IntKind.i64))))))) => (x.fst, List.map (fun (x : T (Ty.vslice 150 (Ty.pair (Ty.int IntKind.i64) (Ty.pair (Ty.int IntKind.i64) (Ty.pair (Ty.int IntKind.i64) (Ty.int IntKind.i64)))))) => List.map (fun (x : T (Ty.pair (Ty.int IntKind.i64) (Ty.pair (Ty.int IntKind.i64) (Ty.pair (Ty.int IntKind.i64) (Ty.int IntKind.i64))))) => (x.fst, x.snd.fst, x.snd.snd.fst, x.snd.snd.snd)) (List.take x.snd x.fst)) (List.take x.snd.fst.snd x.snd.fst.fst), (x.snd.snd.fst.fst, List.map (fun (x : T (Ty.int IntKind.i64)) => x) (List.take x.snd.snd.fst.snd.fst.snd x.snd.snd.fst.snd.fst.fst), List.map (fun (x : T (Ty.int IntKind.i64)) => x) (List.take x.snd.snd.fst.snd.snd.snd x.snd.snd.fst.snd.snd.fst)), x.snd.snd.snd.fst, x.snd.snd.snd.snd.fst, x.snd.snd.snd.snd.snd)) (List.take r7.snd r7.fst)) aName).bind fun r8 =>
          bif !decide (r8.fst = r2.fst) then
            some false
          else
            bif !r8.snd == r2.snd then
              some false
            else
              some true
theorem Mw_FnExactFindSystem (k : Nat) (aL : List (ByteArray × (List (List (Int × Int × Int × Int))) × (Int × (List (Int)) × List (Int)) × Int × Int × Int)) (aName : ByteArray) : Le (f9 k aL aName) (f9 (k + 1) aL aName) := by
  unfold f9
  repeat' first | with_reducible exact Le.rfl _ | with_reducible exact Mw_szEntryS _ _ _ | with_reducible exact Mw_toEntryS _ _ _ | with_reducible exact Mw_intactEntryS _ _ _ _ _ | with_reducible exact Ms_FindSystem _ _ _ | with_reducible exact Mi_FindSystem _ _ _ | with_reducible refine Le.cond ?_ ?_ | with_reducible refine Le.bind ?_ fun _ => ?_
theorem Rw_FnExactFindSystem (aL : List (ByteArray × (List (List (Int × Int × Int × Int))) × (Int × (List (Int)) × List (Int)) × Int × Int × Int)) (aName : ByteArray) : Lim (fun k => f9 k aL aName) (w_FnExactFindSystem aL aName) := by
  unfold f9 w_FnExactFindSystem
  repeat' first | with_reducible exact Lim.ret _ | with_reducible exact Rw_szEntryS _ _ | with_reducible exact Rw_toEntryS _ _ | with_reducible exact Rw_intactEntryS _ _ _ _ | with_reducible exact Rs_FindSystem _ _ | with_reducible exact Ri_FindSystem _ _ | with_reducible refine Lim.cond ?_ ?_ | with_reducible refine Lim.bind ?_ fun _ => ?_

end Go.Proofs.YtbaeikcfchiiaaaE
