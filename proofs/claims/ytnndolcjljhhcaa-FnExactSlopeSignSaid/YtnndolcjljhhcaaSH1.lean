/- Functions without a count of rounds; printed. -/
import Derived.Test.YtnndolcjljhhcaaE24
import Derived.Test.YtnndolcjljhhcaaSL6
set_option maxRecDepth 100000
set_option maxHeartbeats 4000000
set_option linter.unusedVariables false
namespace Go.Proofs.YtnndolcjljhhcaaE
-- laws.roomBehind
noncomputable def w_roomBehind (n : Int) : Option (Int) :=
  bif decide (Int.tmod n 6 = 5) then
    some (0)
  else
    bif decide (Int.tmod n 3 = 0) then
      some (1)
    else
      some n
theorem Mw_roomBehind (k : Nat) (n : Int) : Le (f65 k n) (f65 (k + 1) n) := by
  unfold f65
  repeat' first | with_reducible exact Le.rfl _ | with_reducible refine Le.cond ?_ ?_ | with_reducible refine Le.bind ?_ fun _ => ?_
theorem Rw_roomBehind (n : Int) : Lim (fun k => f65 k n) (w_roomBehind n) := by
  unfold f65 w_roomBehind
  repeat' first | with_reducible exact Lim.ret _ | with_reducible refine Lim.cond ?_ ?_ | with_reducible refine Lim.bind ?_ fun _ => ?_

-- laws.toIntS
theorem MFw_toIntS_1005 (k : Nat) {r1005 q1005 : List Int → List Int → Int → Option (List (Int) × Nat)} (h1005 : ∀ (a : List Int) (outs : List Int) (i : Int), Le (r1005 a outs i) (q1005 a outs i)) {r1009 q1009 : List Int → List Int → Int → Option (List (Int) × Nat)} (h1009 : ∀ (a : List Int) (outs : List Int) (i : Int), Le (r1009 a outs i) (q1009 a outs i)) (a : List Int) (outs : List Int) (i : Int) : Le (F15_1005 k r1005 r1009 a outs i) (F15_1005 (k + 1) q1005 q1009 a outs i) := by
  unfold F15_1005
  repeat' first | with_reducible exact Le.rfl _ | with_reducible exact h1005 _ _ _ | with_reducible exact h1009 _ _ _ | with_reducible refine Le.cond ?_ ?_ | with_reducible refine Le.bind ?_ fun _ => ?_
theorem MFw_toIntS_1009 (k : Nat) {r1005 q1005 : List Int → List Int → Int → Option (List (Int) × Nat)} (h1005 : ∀ (a : List Int) (outs : List Int) (i : Int), Le (r1005 a outs i) (q1005 a outs i)) {r1009 q1009 : List Int → List Int → Int → Option (List (Int) × Nat)} (h1009 : ∀ (a : List Int) (outs : List Int) (i : Int), Le (r1009 a outs i) (q1009 a outs i)) (a : List Int) (outs : List Int) (i : Int) : Le (F15_1009 k r1005 r1009 a outs i) (F15_1009 (k + 1) q1005 q1009 a outs i) := by
  unfold F15_1009
  repeat' first | with_reducible exact Le.rfl _ | with_reducible exact h1005 _ _ _ | with_reducible exact h1009 _ _ _ | with_reducible refine Le.cond ?_ ?_ | with_reducible refine Le.bind ?_ fun _ => ?_
theorem Mlw_toIntS : ∀ k : Nat, (∀ (a : List Int) (outs : List Int) (i : Int), Le ((l15 k).1 a outs i) ((l15 (k + 1)).1 a outs i)) ∧ (∀ (a : List Int) (outs : List Int) (i : Int), Le ((l15 k).2 a outs i) ((l15 (k + 1)).2 a outs i))
  | 0 => ⟨fun a outs i => Le.no _, fun a outs i => Le.no _⟩
  | k + 1 => by
    have h := Mlw_toIntS k
    exact ⟨fun a outs i => MFw_toIntS_1005 k h.1 h.2 a outs i, fun a outs i => MFw_toIntS_1009 k h.1 h.2 a outs i⟩
noncomputable def w_toIntS_1005 (a : List Int) (outs : List Int) (i : Int) : Option (List (Int) × Nat) := lim fun k => (l15 k).1 a outs i
theorem Rlw_toIntS_1005 (a : List Int) (outs : List Int) (i : Int) : Lim (fun k => (l15 k).1 a outs i) (w_toIntS_1005 a outs i) := Lim.of_mono fun k => (Mlw_toIntS k).1 a outs i
noncomputable def w_toIntS_1009 (a : List Int) (outs : List Int) (i : Int) : Option (List (Int) × Nat) := lim fun k => (l15 k).2 a outs i
theorem Rlw_toIntS_1009 (a : List Int) (outs : List Int) (i : Int) : Lim (fun k => (l15 k).2 a outs i) (w_toIntS_1009 a outs i) := Lim.of_mono fun k => (Mlw_toIntS k).2 a outs i
theorem Ew_toIntS_1005 (a : List Int) (outs : List Int) (i : Int) : w_toIntS_1005 a outs i =
  bif decide (i < (↑(List.length a) : Int)) then
    bif boundA i (List.length a) then
      bif boundA i (List.length outs) then
        bif Nat.blt (Int.toNat i) (List.length outs) then
          w_toIntS_1005 a (List.set outs (Int.toNat i) (List.getD a (Int.toNat i) 0)) (IntKind.wrap IntKind.i64 (i + 1))
        else
          none
      else
        none
    else
      none
  else
    w_toIntS_1009 a outs ((↑(List.length a) : Int)) := by
  refine Lim.uniq (Lim.shift (Rlw_toIntS_1005 a outs i)) (?_ : Lim (fun k => F15_1005 k ((l15 k).1) ((l15 k).2) a outs i) _)
  unfold F15_1005
  repeat' first | with_reducible exact Lim.ret _ | with_reducible exact Rlw_toIntS_1005 _ _ _ | with_reducible exact Rlw_toIntS_1009 _ _ _ | with_reducible refine Lim.cond ?_ ?_ | with_reducible refine Lim.bind ?_ fun _ => ?_
theorem Ew_toIntS_1009 (a : List Int) (outs : List Int) (i : Int) : w_toIntS_1009 a outs i =
  bif decide (i < (↑(List.length outs) : Int)) then
    bif boundA i (List.length outs) then
      bif Nat.blt (Int.toNat i) (List.length outs) then
        w_toIntS_1009 a (List.set outs (Int.toNat i) (-7000000000000000101)) (IntKind.wrap IntKind.i64 (i + 1))
      else
        none
    else
      none
  else
    bif boundE (↑(List.length a) : Int) (List.length outs) then
      some ((outs, Option.getD (some (Int.toNat (↑(List.length a) : Int))) (List.length outs)))
    else
      none := by
  refine Lim.uniq (Lim.shift (Rlw_toIntS_1009 a outs i)) (?_ : Lim (fun k => F15_1009 k ((l15 k).1) ((l15 k).2) a outs i) _)
  unfold F15_1009
  repeat' first | with_reducible exact Lim.ret _ | with_reducible exact Rlw_toIntS_1005 _ _ _ | with_reducible exact Rlw_toIntS_1009 _ _ _ | with_reducible refine Lim.cond ?_ ?_ | with_reducible refine Lim.bind ?_ fun _ => ?_
noncomputable def w_toIntS (a : List (Int)) (bare : Bool) : Option (List (Int) × Nat) :=
  bif bare then
    bif decide ((↑(List.length a) : Int) = 0) then
      some (([], 0))
    else
      (w_roomBehind (↑(List.length a) : Int)).bind fun r0 =>
      bif decide (0 ≤ IntKind.wrap IntKind.i64 ((↑(List.length a) : Int) + r0)) then
        bif decide (IntKind.wrap IntKind.i64 ((↑(List.length a) : Int) + r0) ≤ IntKind.wrap IntKind.i64 ((↑(List.length a) : Int) + r0)) then
          bif decide (IntKind.wrap IntKind.i64 ((↑(List.length a) : Int) + r0) * (↑8 : Int) ≤ 140737488355328) then
            w_toIntS_1005 a (List.replicate (Int.toNat (IntKind.wrap IntKind.i64 ((↑(List.length a) : Int) + r0))) (dflt (Ty.int IntKind.i64))) (0)
          else
            none
        else
          none
      else
        none
  else
    (w_roomBehind (↑(List.length a) : Int)).bind fun r1 =>
    bif decide (0 ≤ IntKind.wrap IntKind.i64 ((↑(List.length a) : Int) + r1)) then
      bif decide (IntKind.wrap IntKind.i64 ((↑(List.length a) : Int) + r1) ≤ IntKind.wrap IntKind.i64 ((↑(List.length a) : Int) + r1)) then
        bif decide (IntKind.wrap IntKind.i64 ((↑(List.length a) : Int) + r1) * (↑8 : Int) ≤ 140737488355328) then
          w_toIntS_1005 a (List.replicate (Int.toNat (IntKind.wrap IntKind.i64 ((↑(List.length a) : Int) + r1))) (dflt (Ty.int IntKind.i64))) (0)
        else
          none
      else
        none
    else
      none
theorem Mw_toIntS (k : Nat) (a : List (Int)) (bare : Bool) : Le (f15 k a bare) (f15 (k + 1) a bare) := by
  have h := Mlw_toIntS k
  unfold f15 F15
  repeat' first | with_reducible exact Le.rfl _ | with_reducible exact Mw_roomBehind _ _ | with_reducible exact h.1 _ _ _ | with_reducible exact h.2 _ _ _ | with_reducible refine Le.cond ?_ ?_ | with_reducible refine Le.bind ?_ fun _ => ?_
theorem Rw_toIntS (a : List (Int)) (bare : Bool) : Lim (fun k => f15 k a bare) (w_toIntS a bare) := by
  unfold f15 F15 w_toIntS
  repeat' first | with_reducible exact Lim.ret _ | with_reducible exact Rw_roomBehind _ | with_reducible exact Rlw_toIntS_1005 _ _ _ | with_reducible exact Rlw_toIntS_1009 _ _ _ | with_reducible refine Lim.cond ?_ ?_ | with_reducible refine Lim.bind ?_ fun _ => ?_

-- laws.eqIntS
theorem MFw_eqIntS_1004 (k : Nat) {r1004 q1004 : List Int → List Int → Int → Option (Bool)} (h1004 : ∀ (a : List Int) (b : List Int) (i : Int), Le (r1004 a b i) (q1004 a b i)) (a : List Int) (b : List Int) (i : Int) : Le (F17_1004 k r1004 a b i) (F17_1004 (k + 1) q1004 a b i) := by
  unfold F17_1004
  repeat' first | with_reducible exact Le.rfl _ | with_reducible exact h1004 _ _ _ | with_reducible refine Le.cond ?_ ?_ | with_reducible refine Le.bind ?_ fun _ => ?_
theorem Mlw_eqIntS : ∀ k : Nat, ∀ (a : List Int) (b : List Int) (i : Int), Le ((l17 k) a b i) ((l17 (k + 1)) a b i)
  | 0 => fun a b i => Le.no _
  | k + 1 => by
    have h := Mlw_eqIntS k
    exact fun a b i => MFw_eqIntS_1004 k h a b i
noncomputable def w_eqIntS_1004 (a : List Int) (b : List Int) (i : Int) : Option (Bool) := lim fun k => (l17 k) a b i
theorem Rlw_eqIntS_1004 (a : List Int) (b : List Int) (i : Int) : Lim (fun k => (l17 k) a b i) (w_eqIntS_1004 a b i) := Lim.of_mono fun k => Mlw_eqIntS k a b i
theorem Ew_eqIntS_1004 (a : List Int) (b : List Int) (i : Int) : w_eqIntS_1004 a b i =
  bif decide (i < (↑(List.length a) : Int)) then
    bif boundA i (List.length a) then
      bif boundA i (List.length b) then
        bif !decide (List.getD a (Int.toNat i) 0 = List.getD b (Int.toNat i) 0) then
          some false
        else
          w_eqIntS_1004 a b (IntKind.wrap IntKind.i64 (i + 1))
      else
        none
    else
      none
  else
    some true := by
  refine Lim.uniq (Lim.shift (Rlw_eqIntS_1004 a b i)) (?_ : Lim (fun k => F17_1004 k ((l17 k)) a b i) _)
  unfold F17_1004
  repeat' first | with_reducible exact Lim.ret _ | with_reducible exact Rlw_eqIntS_1004 _ _ _ | with_reducible refine Lim.cond ?_ ?_ | with_reducible refine Lim.bind ?_ fun _ => ?_
noncomputable def w_eqIntS (a : List (Int)) (b : List (Int)) : Option (Bool) :=
  bif !decide ((↑(List.length a) : Int) = (↑(List.length b) : Int)) then
    some false
  else
    w_eqIntS_1004 a b (0)
theorem Mw_eqIntS (k : Nat) (a : List (Int)) (b : List (Int)) : Le (f17 k a b) (f17 (k + 1) a b) := by
  have h := Mlw_eqIntS k
  unfold f17 F17
  repeat' first | with_reducible exact Le.rfl _ | with_reducible exact h _ _ _ | with_reducible refine Le.cond ?_ ?_ | with_reducible refine Le.bind ?_ fun _ => ?_
theorem Rw_eqIntS (a : List (Int)) (b : List (Int)) : Lim (fun k => f17 k a b) (w_eqIntS a b) := by
  unfold f17 F17 w_eqIntS
  repeat' first | with_reducible exact Lim.ret _ | with_reducible exact Rlw_eqIntS_1004 _ _ _ | with_reducible refine Lim.cond ?_ ?_ | with_reducible refine Lim.bind ?_ fun _ => ?_

-- laws.intactIntS
noncomputable def w_intactIntS (x : List (Int)) (x_n : Nat) (y : List (Int)) (y_n : Nat) : Option (Bool) :=
  (w_roomBehind (↑y_n : Int)).bind fun r0 =>
  bif decide ((↑x_n : Int) = (↑y_n : Int)) then
    bif boundE (IntKind.wrap IntKind.i64 ((↑y_n : Int) + r0)) (List.length x) then
      bif decide (0 ≤ 0) && decide (0 ≤ IntKind.wrap IntKind.i64 ((↑y_n : Int) + r0)) then
        bif boundE (IntKind.wrap IntKind.i64 ((↑y_n : Int) + r0)) (List.length y) then
          bif decide (0 ≤ 0) && decide (0 ≤ IntKind.wrap IntKind.i64 ((↑y_n : Int) + r0)) then
            (w_eqIntS (List.drop (Int.toNat 0) (List.take (Int.toNat (IntKind.wrap IntKind.i64 ((↑y_n : Int) + r0))) x)) (List.drop (Int.toNat 0) (List.take (Int.toNat (IntKind.wrap IntKind.i64 ((↑y_n : Int) + r0))) y))).bind fun r1 =>
            some r1
          else
            none
        else
          none
      else
        none
    else
      none
  else
    some false
theorem Mw_intactIntS (k : Nat) (x : List (Int)) (x_n : Nat) (y : List (Int)) (y_n : Nat) : Le (f18 k x x_n y y_n) (f18 (k + 1) x x_n y y_n) := by
  unfold f18
  repeat' first | with_reducible exact Le.rfl _ | with_reducible exact Mw_eqIntS _ _ _ | with_reducible exact Mw_roomBehind _ _ | with_reducible refine Le.cond ?_ ?_ | with_reducible refine Le.bind ?_ fun _ => ?_
theorem Rw_intactIntS (x : List (Int)) (x_n : Nat) (y : List (Int)) (y_n : Nat) : Lim (fun k => f18 k x x_n y y_n) (w_intactIntS x x_n y y_n) := by
  unfold f18 w_intactIntS
  repeat' first | with_reducible exact Lim.ret _ | with_reducible exact Rw_eqIntS _ _ | with_reducible exact Rw_roomBehind _ | with_reducible refine Lim.cond ?_ ?_ | with_reducible refine Lim.bind ?_ fun _ => ?_

-- spec.l1In
noncomputable def s_l1In (n : Int) (lo : Int) (hi : Int) : Option (Bool) :=
  bif decide (lo ≤ n) then
    some (decide (n ≤ hi))
  else
    some false
theorem Ms_l1In (k : Nat) (n : Int) (lo : Int) (hi : Int) : Le (f85 k n lo hi) (f85 (k + 1) n lo hi) := by
  unfold f85
  repeat' first | with_reducible exact Le.rfl _ | with_reducible refine Le.cond ?_ ?_ | with_reducible refine Le.bind ?_ fun _ => ?_
theorem Rs_l1In (n : Int) (lo : Int) (hi : Int) : Lim (fun k => f85 k n lo hi) (s_l1In n lo hi) := by
  unfold f85 s_l1In
  repeat' first | with_reducible exact Lim.ret _ | with_reducible refine Lim.cond ?_ ?_ | with_reducible refine Lim.bind ?_ fun _ => ?_

-- spec.l1All
theorem MFs_l1All_1002 (k : Nat) {r1002 q1002 : Int → Int → List Int → Int → Int → Option (Bool)} (h1002 : ∀ (lo : Int) (hi : Int) (t9 : List Int) (t10 : Int) (t11 : Int), Le (r1002 lo hi t9 t10 t11) (q1002 lo hi t9 t10 t11)) (lo : Int) (hi : Int) (t9 : List Int) (t10 : Int) (t11 : Int) : Le (F173_1002 k r1002 lo hi t9 t10 t11) (F173_1002 (k + 1) q1002 lo hi t9 t10 t11) := by
  unfold F173_1002
  repeat' first | with_reducible exact Le.rfl _ | with_reducible exact Ms_l1In _ _ _ _ | with_reducible exact h1002 _ _ _ _ _ | with_reducible refine Le.cond ?_ ?_ | with_reducible refine Le.bind ?_ fun _ => ?_
theorem Mls_l1All : ∀ k : Nat, ∀ (lo : Int) (hi : Int) (t9 : List Int) (t10 : Int) (t11 : Int), Le ((l173 k) lo hi t9 t10 t11) ((l173 (k + 1)) lo hi t9 t10 t11)
  | 0 => fun lo hi t9 t10 t11 => Le.no _
  | k + 1 => by
    have h := Mls_l1All k
    exact fun lo hi t9 t10 t11 => MFs_l1All_1002 k h lo hi t9 t10 t11
noncomputable def s_l1All_1002 (lo : Int) (hi : Int) (t9 : List Int) (t10 : Int) (t11 : Int) : Option (Bool) := lim fun k => (l173 k) lo hi t9 t10 t11
theorem Rls_l1All_1002 (lo : Int) (hi : Int) (t9 : List Int) (t10 : Int) (t11 : Int) : Lim (fun k => (l173 k) lo hi t9 t10 t11) (s_l1All_1002 lo hi t9 t10 t11) := Lim.of_mono fun k => Mls_l1All k lo hi t9 t10 t11
theorem Es_l1All_1002 (lo : Int) (hi : Int) (t9 : List Int) (t10 : Int) (t11 : Int) : s_l1All_1002 lo hi t9 t10 t11 =
  bif decide (t11 < t10) then
    bif boundA t11 (List.length t9) then
      (s_l1In (List.getD t9 (Int.toNat t11) 0) lo hi).bind fun r0 =>
      bif !r0 then
        some false
      else
        s_l1All_1002 lo hi t9 t10 (IntKind.wrap IntKind.i64 (t11 + 1))
    else
      none
  else
    some true := by
  refine Lim.uniq (Lim.shift (Rls_l1All_1002 lo hi t9 t10 t11)) (?_ : Lim (fun k => F173_1002 k ((l173 k)) lo hi t9 t10 t11) _)
  unfold F173_1002
  repeat' first | with_reducible exact Lim.ret _ | with_reducible exact Rs_l1In _ _ _ | with_reducible exact Rls_l1All_1002 _ _ _ _ _ | with_reducible refine Lim.cond ?_ ?_ | with_reducible refine Lim.bind ?_ fun _ => ?_
noncomputable def s_l1All (l : List (Int)) (lo : Int) (hi : Int) : Option (Bool) :=
  s_l1All_1002 lo hi l ((↑(List.length l) : Int)) (0)
theorem Ms_l1All (k : Nat) (l : List (Int)) (lo : Int) (hi : Int) : Le (f173 k l lo hi) (f173 (k + 1) l lo hi) := by
  have h := Mls_l1All k
  unfold f173 F173
  repeat' first | with_reducible exact Le.rfl _ | with_reducible exact h _ _ _ _ _ | with_reducible refine Le.cond ?_ ?_ | with_reducible refine Le.bind ?_ fun _ => ?_
theorem Rs_l1All (l : List (Int)) (lo : Int) (hi : Int) : Lim (fun k => f173 k l lo hi) (s_l1All l lo hi) := by
  unfold f173 F173 s_l1All
  repeat' first | with_reducible exact Lim.ret _ | with_reducible exact Rls_l1All_1002 _ _ _ _ _ | with_reducible refine Lim.cond ?_ ?_ | with_reducible refine Lim.bind ?_ fun _ => ?_

-- spec.sgGood
noncomputable def s_sgGood (p : List (Int)) : Option (Bool) :=
  bif decide (9 < (↑(List.length p) : Int)) then
    some false
  else
    (s_l1All p (-1000000) 1000000).bind fun r0 =>
    bif !r0 then
      some false
    else
      bif decide ((↑(List.length p) : Int) = 0) then
        some true
      else
        bif boundA (IntKind.wrap IntKind.i64 ((↑(List.length p) : Int) - 1)) (List.length p) then
          some (!decide (List.getD p (Int.toNat (IntKind.wrap IntKind.i64 ((↑(List.length p) : Int) - 1))) 0 = 0))
        else
          none
theorem Ms_sgGood (k : Nat) (p : List (Int)) : Le (f172 k p) (f172 (k + 1) p) := by
  unfold f172
  repeat' first | with_reducible exact Le.rfl _ | with_reducible exact Ms_l1All _ _ _ _ | with_reducible refine Le.cond ?_ ?_ | with_reducible refine Le.bind ?_ fun _ => ?_
theorem Rs_sgGood (p : List (Int)) : Lim (fun k => f172 k p) (s_sgGood p) := by
  unfold f172 s_sgGood
  repeat' first | with_reducible exact Lim.ret _ | with_reducible exact Rs_l1All _ _ _ | with_reducible refine Lim.cond ?_ ?_ | with_reducible refine Lim.bind ?_ fun _ => ?_

-- spec.deGood
noncomputable def s_deGood (p : List (Int)) : Option (Bool) :=
  (s_sgGood p).bind fun r0 =>
  bif r0 then
    (s_l1In (↑(List.length p) : Int) 1 6).bind fun r1 =>
    bif r1 then
      (s_l1All p (-1000) 1000).bind fun r2 =>
      some r2
    else
      some false
  else
    some false
theorem Ms_deGood (k : Nat) (p : List (Int)) : Le (f142 k p) (f142 (k + 1) p) := by
  unfold f142
  repeat' first | with_reducible exact Le.rfl _ | with_reducible exact Ms_sgGood _ _ | with_reducible exact Ms_l1All _ _ _ _ | with_reducible exact Ms_l1In _ _ _ _ | with_reducible refine Le.cond ?_ ?_ | with_reducible refine Le.bind ?_ fun _ => ?_
theorem Rs_deGood (p : List (Int)) : Lim (fun k => f142 k p) (s_deGood p) := by
  unfold f142 s_deGood
  repeat' first | with_reducible exact Lim.ret _ | with_reducible exact Rs_sgGood _ | with_reducible exact Rs_l1All _ _ _ | with_reducible exact Rs_l1In _ _ _ | with_reducible refine Lim.cond ?_ ?_ | with_reducible refine Lim.bind ?_ fun _ => ?_

-- spec.faAsked
noncomputable def s_faAsked (p : List (Int)) (q : List (Int)) (fine : Int) : Option (Bool) :=
  (s_deGood p).bind fun r0 =>
  bif r0 then
    (s_deGood q).bind fun r1 =>
    bif r1 then
      (s_l1In fine 0 4).bind fun r2 =>
      some r2
    else
      some false
  else
    some false
theorem Ms_faAsked (k : Nat) (p : List (Int)) (q : List (Int)) (fine : Int) : Le (f106 k p q fine) (f106 (k + 1) p q fine) := by
  unfold f106
  repeat' first | with_reducible exact Le.rfl _ | with_reducible exact Ms_deGood _ _ | with_reducible exact Ms_l1In _ _ _ _ | with_reducible refine Le.cond ?_ ?_ | with_reducible refine Le.bind ?_ fun _ => ?_
theorem Rs_faAsked (p : List (Int)) (q : List (Int)) (fine : Int) : Lim (fun k => f106 k p q fine) (s_faAsked p q fine) := by
  unfold f106 s_faAsked
  repeat' first | with_reducible exact Lim.ret _ | with_reducible exact Rs_deGood _ | with_reducible exact Rs_l1In _ _ _ | with_reducible refine Lim.cond ?_ ?_ | with_reducible refine Lim.bind ?_ fun _ => ?_

-- spec.dyPower
noncomputable def s_dyPower (k_ : Int) : Option (Int) :=
  bif !decide (IntKind.wrap IntKind.u64 k_ < 0) then
    some (IntKind.wrap IntKind.i64 (1 * 2 ^ min (Int.toNat (IntKind.wrap IntKind.u64 k_)) (IntKind.bits IntKind.i64)))
  else
    none
theorem Ms_dyPower (k : Nat) (k_ : Int) : Le (f107 k k_) (f107 (k + 1) k_) := by
  unfold f107
  repeat' first | with_reducible exact Le.rfl _ | with_reducible refine Le.cond ?_ ?_ | with_reducible refine Le.bind ?_ fun _ => ?_
theorem Rs_dyPower (k_ : Int) : Lim (fun k => f107 k k_) (s_dyPower k_) := by
  unfold f107 s_dyPower
  repeat' first | with_reducible exact Lim.ret _ | with_reducible refine Lim.cond ?_ ?_ | with_reducible refine Lim.bind ?_ fun _ => ?_

-- spec.faStep
noncomputable def s_faStep (p : List (Int)) (q : List (Int)) (i : Int) (fine : Int) : Option (Bool) :=
  (s_faAsked p q fine).bind fun r0 =>
  bif r0 then
    (s_dyPower fine).bind fun r1 =>
    (s_l1In i 0 (IntKind.wrap IntKind.i64 (r1 - 1))).bind fun r2 =>
    some r2
  else
    some false
theorem Ms_faStep (k : Nat) (p : List (Int)) (q : List (Int)) (i : Int) (fine : Int) : Le (f95 k p q i fine) (f95 (k + 1) p q i fine) := by
  unfold f95
  repeat' first | with_reducible exact Le.rfl _ | with_reducible exact Ms_faAsked _ _ _ _ | with_reducible exact Ms_dyPower _ _ | with_reducible exact Ms_l1In _ _ _ _ | with_reducible refine Le.cond ?_ ?_ | with_reducible refine Le.bind ?_ fun _ => ?_
theorem Rs_faStep (p : List (Int)) (q : List (Int)) (i : Int) (fine : Int) : Lim (fun k => f95 k p q i fine) (s_faStep p q i fine) := by
  unfold f95 s_faStep
  repeat' first | with_reducible exact Lim.ret _ | with_reducible exact Rs_faAsked _ _ _ | with_reducible exact Rs_dyPower _ | with_reducible exact Rs_l1In _ _ _ | with_reducible refine Lim.cond ?_ ?_ | with_reducible refine Lim.bind ?_ fun _ => ?_

-- spec.dyDown
noncomputable def s_dyDown (a : Int) (b : Int) : Option (Int) :=
  bif !decide (b = 0) then
    bif !decide (b = 0) then
      bif decide (Int.tmod a b < 0) then
        some (IntKind.wrap IntKind.i64 (IntKind.wrap IntKind.i64 (Int.tdiv a b) - 1))
      else
        some (IntKind.wrap IntKind.i64 (Int.tdiv a b))
    else
      none
  else
    none
theorem Ms_dyDown (k : Nat) (a : Int) (b : Int) : Le (f175 k a b) (f175 (k + 1) a b) := by
  unfold f175
  repeat' first | with_reducible exact Le.rfl _ | with_reducible refine Le.cond ?_ ?_ | with_reducible refine Le.bind ?_ fun _ => ?_
theorem Rs_dyDown (a : Int) (b : Int) : Lim (fun k => f175 k a b) (s_dyDown a b) := by
  unfold f175 s_dyDown
  repeat' first | with_reducible exact Lim.ret _ | with_reducible refine Lim.cond ?_ ?_ | with_reducible refine Lim.bind ?_ fun _ => ?_

-- spec.dyFloor
noncomputable def s_dyFloor (a_N : Int) (a_K : Int) : Option (Int) :=
  (s_dyPower a_K).bind fun r0 =>
  (s_dyDown a_N r0).bind fun r1 =>
  some r1
theorem Ms_dyFloor (k : Nat) (a_N : Int) (a_K : Int) : Le (f147 k a_N a_K) (f147 (k + 1) a_N a_K) := by
  unfold f147
  repeat' first | with_reducible exact Le.rfl _ | with_reducible exact Ms_dyPower _ _ | with_reducible exact Ms_dyDown _ _ _ | with_reducible refine Le.cond ?_ ?_ | with_reducible refine Le.bind ?_ fun _ => ?_
theorem Rs_dyFloor (a_N : Int) (a_K : Int) : Lim (fun k => f147 k a_N a_K) (s_dyFloor a_N a_K) := by
  unfold f147 s_dyFloor
  repeat' first | with_reducible exact Lim.ret _ | with_reducible exact Rs_dyPower _ | with_reducible exact Rs_dyDown _ _ | with_reducible refine Lim.cond ?_ ?_ | with_reducible refine Lim.bind ?_ fun _ => ?_

-- spec.l1Sign
noncomputable def s_l1Sign (n : Int) : Option (Int) :=
  bif decide (0 < n) then
    some (1)
  else
    bif decide (n < 0) then
      some (-1)
    else
      some (0)
theorem Ms_l1Sign (k : Nat) (n : Int) : Le (f148 k n) (f148 (k + 1) n) := by
  unfold f148
  repeat' first | with_reducible exact Le.rfl _ | with_reducible refine Le.cond ?_ ?_ | with_reducible refine Le.bind ?_ fun _ => ?_
theorem Rs_l1Sign (n : Int) : Lim (fun k => f148 k n) (s_l1Sign n) := by
  unfold f148 s_l1Sign
  repeat' first | with_reducible exact Lim.ret _ | with_reducible refine Lim.cond ?_ ?_ | with_reducible refine Lim.bind ?_ fun _ => ?_

-- spec.dyAt
theorem MFs_dyAt_1004 (k : Nat) {r1004 q1004 : Int → Int → Int → Int → Option (Int × Bool)} (h1004 : ∀ (k_ : Int) (as_0 : Int) (as_1 : Int) (i : Int), Le (r1004 k_ as_0 as_1 i) (q1004 k_ as_0 as_1 i)) (k_ : Int) (as_0 : Int) (as_1 : Int) (i : Int) : Le (F149_1004 k r1004 k_ as_0 as_1 i) (F149_1004 (k + 1) q1004 k_ as_0 as_1 i) := by
  unfold F149_1004
  repeat' first | with_reducible exact Le.rfl _ | with_reducible exact Ms_l1In _ _ _ _ | with_reducible exact h1004 _ _ _ _ | with_reducible refine Le.cond ?_ ?_ | with_reducible refine Le.bind ?_ fun _ => ?_
theorem Mls_dyAt : ∀ k : Nat, ∀ (k_ : Int) (as_0 : Int) (as_1 : Int) (i : Int), Le ((l149 k) k_ as_0 as_1 i) ((l149 (k + 1)) k_ as_0 as_1 i)
  | 0 => fun k_ as_0 as_1 i => Le.no _
  | k + 1 => by
    have h := Mls_dyAt k
    exact fun k_ as_0 as_1 i => MFs_dyAt_1004 k h k_ as_0 as_1 i
noncomputable def s_dyAt_1004 (k_ : Int) (as_0 : Int) (as_1 : Int) (i : Int) : Option (Int × Bool) := lim fun k => (l149 k) k_ as_0 as_1 i
theorem Rls_dyAt_1004 (k_ : Int) (as_0 : Int) (as_1 : Int) (i : Int) : Lim (fun k => (l149 k) k_ as_0 as_1 i) (s_dyAt_1004 k_ as_0 as_1 i) := Lim.of_mono fun k => Mls_dyAt k k_ as_0 as_1 i
theorem Es_dyAt_1004 (k_ : Int) (as_0 : Int) (as_1 : Int) (i : Int) : s_dyAt_1004 k_ as_0 as_1 i =
  bif decide (i < k_) then
    (s_l1In as_0 (IntKind.wrap IntKind.i64 (0 - IntKind.wrap IntKind.i64 (1 * 2 ^ min (Int.toNat (IntKind.wrap IntKind.u64 60)) (IntKind.bits IntKind.i64)))) (IntKind.wrap IntKind.i64 (1 * 2 ^ min (Int.toNat (IntKind.wrap IntKind.u64 60)) (IntKind.bits IntKind.i64)))).bind fun r0 =>
    bif !r0 then
      some ((0, false))
    else
      s_dyAt_1004 k_ (IntKind.wrap IntKind.i64 (as_0 * 2)) as_1 (IntKind.wrap IntKind.i64 (i + 1))
  else
    some ((as_0, true)) := by
  refine Lim.uniq (Lim.shift (Rls_dyAt_1004 k_ as_0 as_1 i)) (?_ : Lim (fun k => F149_1004 k ((l149 k)) k_ as_0 as_1 i) _)
  unfold F149_1004
  repeat' first | with_reducible exact Lim.ret _ | with_reducible exact Rs_l1In _ _ _ | with_reducible exact Rls_dyAt_1004 _ _ _ _ | with_reducible refine Lim.cond ?_ ?_ | with_reducible refine Lim.bind ?_ fun _ => ?_
noncomputable def s_dyAt (a_N : Int) (a_K : Int) (k_ : Int) : Option (Int × Bool) :=
  bif decide (a_N = 0) then
    some ((0, true))
  else
    s_dyAt_1004 k_ a_N a_K a_K
theorem Ms_dyAt (k : Nat) (a_N : Int) (a_K : Int) (k_ : Int) : Le (f149 k a_N a_K k_) (f149 (k + 1) a_N a_K k_) := by
  have h := Mls_dyAt k
  unfold f149 F149
  repeat' first | with_reducible exact Le.rfl _ | with_reducible exact h _ _ _ _ | with_reducible refine Le.cond ?_ ?_ | with_reducible refine Le.bind ?_ fun _ => ?_
theorem Rs_dyAt (a_N : Int) (a_K : Int) (k_ : Int) : Lim (fun k => f149 k a_N a_K k_) (s_dyAt a_N a_K k_) := by
  unfold f149 F149 s_dyAt
  repeat' first | with_reducible exact Lim.ret _ | with_reducible exact Rls_dyAt_1004 _ _ _ _ | with_reducible refine Lim.cond ?_ ?_ | with_reducible refine Lim.bind ?_ fun _ => ?_

-- spec.dyCmp
noncomputable def s_dyCmp (a_N : Int) (a_K : Int) (b_N : Int) (b_K : Int) : Option (Int) :=
  (s_dyFloor a_N a_K).bind fun r0 =>
  (s_dyFloor b_N b_K).bind fun r1 =>
  bif !decide (r0 = r1) then
    (s_l1Sign (IntKind.wrap IntKind.i64 (r0 - r1))).bind fun r2 =>
    some r2
  else
    (s_dyPower a_K).bind fun r3 =>
    (s_dyAt (IntKind.wrap IntKind.i64 (a_N - IntKind.wrap IntKind.i64 (r0 * r3))) a_K 24).bind fun r4 =>
    (s_dyPower b_K).bind fun r5 =>
    (s_dyAt (IntKind.wrap IntKind.i64 (b_N - IntKind.wrap IntKind.i64 (r1 * r5))) b_K 24).bind fun r6 =>
    (s_l1Sign (IntKind.wrap IntKind.i64 (r4.fst - r6.fst))).bind fun r7 =>
    some r7
theorem Ms_dyCmp (k : Nat) (a_N : Int) (a_K : Int) (b_N : Int) (b_K : Int) : Le (f117 k a_N a_K b_N b_K) (f117 (k + 1) a_N a_K b_N b_K) := by
  unfold f117
  repeat' first | with_reducible exact Le.rfl _ | with_reducible exact Ms_dyPower _ _ | with_reducible exact Ms_dyFloor _ _ _ | with_reducible exact Ms_l1Sign _ _ | with_reducible exact Ms_dyAt _ _ _ _ | with_reducible refine Le.cond ?_ ?_ | with_reducible refine Le.bind ?_ fun _ => ?_
theorem Rs_dyCmp (a_N : Int) (a_K : Int) (b_N : Int) (b_K : Int) : Lim (fun k => f117 k a_N a_K b_N b_K) (s_dyCmp a_N a_K b_N b_K) := by
  unfold f117 s_dyCmp
  repeat' first | with_reducible exact Lim.ret _ | with_reducible exact Rs_dyPower _ | with_reducible exact Rs_dyFloor _ _ | with_reducible exact Rs_l1Sign _ | with_reducible exact Rs_dyAt _ _ _ | with_reducible refine Lim.cond ?_ ?_ | with_reducible refine Lim.bind ?_ fun _ => ?_

-- spec.dyInt
noncomputable def s_dyInt (n : Int) : Option (Int × Int) :=
  some ((n, 0))
theorem Ms_dyInt (k : Nat) (n : Int) : Le (f118 k n) (f118 (k + 1) n) := by
  unfold f118
  repeat' first | with_reducible exact Le.rfl _ | with_reducible refine Le.cond ?_ ?_ | with_reducible refine Le.bind ?_ fun _ => ?_
theorem Rs_dyInt (n : Int) : Lim (fun k => f118 k n) (s_dyInt n) := by
  unfold f118 s_dyInt
  repeat' first | with_reducible exact Lim.ret _ | with_reducible refine Lim.cond ?_ ?_ | with_reducible refine Lim.bind ?_ fun _ => ?_

-- spec.dyGood
noncomputable def s_dyGood (a_N : Int) (a_K : Int) : Option (Bool) :=
  (s_l1In a_K 0 24).bind fun r0 =>
  bif r0 then
    (s_l1In a_N (-1099511627776) 1099511627776).bind fun r1 =>
    bif r1 then
      bif decide (a_K = 0) then
        some true
      else
        some (!decide (Int.tmod a_N 2 = 0))
    else
      some false
  else
    some false
theorem Ms_dyGood (k : Nat) (a_N : Int) (a_K : Int) : Le (f116 k a_N a_K) (f116 (k + 1) a_N a_K) := by
  unfold f116
  repeat' first | with_reducible exact Le.rfl _ | with_reducible exact Ms_l1In _ _ _ _ | with_reducible refine Le.cond ?_ ?_ | with_reducible refine Le.bind ?_ fun _ => ?_
theorem Rs_dyGood (a_N : Int) (a_K : Int) : Lim (fun k => f116 k a_N a_K) (s_dyGood a_N a_K) := by
  unfold f116 s_dyGood
  repeat' first | with_reducible exact Lim.ret _ | with_reducible exact Rs_l1In _ _ _ | with_reducible refine Lim.cond ?_ ?_ | with_reducible refine Lim.bind ?_ fun _ => ?_

-- spec.ivGood
noncomputable def s_ivGood (i_Low_N : Int) (i_Low_K : Int) (i_High_N : Int) (i_High_K : Int) : Option (Bool) :=
  (s_dyGood i_Low_N i_Low_K).bind fun r0 =>
  bif r0 then
    (s_dyGood i_High_N i_High_K).bind fun r1 =>
    bif r1 then
      (s_dyCmp i_Low_N i_Low_K i_High_N i_High_K).bind fun r2 =>
      some (decide (r2 ≤ 0))
    else
      some false
  else
    some false
theorem Ms_ivGood (k : Nat) (i_Low_N : Int) (i_Low_K : Int) (i_High_N : Int) (i_High_K : Int) : Le (f131 k i_Low_N i_Low_K i_High_N i_High_K) (f131 (k + 1) i_Low_N i_Low_K i_High_N i_High_K) := by
  unfold f131
  repeat' first | with_reducible exact Le.rfl _ | with_reducible exact Ms_dyGood _ _ _ | with_reducible exact Ms_dyCmp _ _ _ _ _ | with_reducible refine Le.cond ?_ ?_ | with_reducible refine Le.bind ?_ fun _ => ?_
theorem Rs_ivGood (i_Low_N : Int) (i_Low_K : Int) (i_High_N : Int) (i_High_K : Int) : Lim (fun k => f131 k i_Low_N i_Low_K i_High_N i_High_K) (s_ivGood i_Low_N i_Low_K i_High_N i_High_K) := by
  unfold f131 s_ivGood
  repeat' first | with_reducible exact Lim.ret _ | with_reducible exact Rs_dyGood _ _ | with_reducible exact Rs_dyCmp _ _ _ _ | with_reducible refine Lim.cond ?_ ?_ | with_reducible refine Lim.bind ?_ fun _ => ?_

-- spec.deFit
noncomputable def s_deFit (i_Low_N : Int) (i_Low_K : Int) (i_High_N : Int) (i_High_K : Int) : Option (Bool) :=
  (s_ivGood i_Low_N i_Low_K i_High_N i_High_K).bind fun r0 =>
  bif r0 then
    bif decide (i_Low_K ≤ 5) then
      bif decide (i_High_K ≤ 5) then
        (s_dyCmp i_Low_N i_Low_K i_High_N i_High_K).bind fun r1 =>
        bif decide (r1 < 0) then
          (s_dyCmp (-8) 0 i_Low_N i_Low_K).bind fun r2 =>
          bif decide (r2 ≤ 0) then
            (s_dyCmp i_High_N i_High_K 8 0).bind fun r3 =>
            some (decide (r3 ≤ 0))
          else
            some false
        else
          some false
      else
        some false
    else
      some false
  else
    some false
theorem Ms_deFit (k : Nat) (i_Low_N : Int) (i_Low_K : Int) (i_High_N : Int) (i_High_K : Int) : Le (f96 k i_Low_N i_Low_K i_High_N i_High_K) (f96 (k + 1) i_Low_N i_Low_K i_High_N i_High_K) := by
  unfold f96
  repeat' first | with_reducible exact Le.rfl _ | with_reducible exact Ms_dyCmp _ _ _ _ _ | with_reducible exact Ms_ivGood _ _ _ _ _ | with_reducible refine Le.cond ?_ ?_ | with_reducible refine Le.bind ?_ fun _ => ?_
theorem Rs_deFit (i_Low_N : Int) (i_Low_K : Int) (i_High_N : Int) (i_High_K : Int) : Lim (fun k => f96 k i_Low_N i_Low_K i_High_N i_High_K) (s_deFit i_Low_N i_Low_K i_High_N i_High_K) := by
  unfold f96 s_deFit
  repeat' first | with_reducible exact Lim.ret _ | with_reducible exact Rs_dyCmp _ _ _ _ | with_reducible exact Rs_ivGood _ _ _ _ | with_reducible refine Lim.cond ?_ ?_ | with_reducible refine Lim.bind ?_ fun _ => ?_

-- spec.faAt
theorem MFs_faAt_1003 (k : Nat) {r1003 q1003 : List Int → Int → Int → List Int → List Int → Int → Int → Option (List (Int))} (h1003 : ∀ (q : List Int) (i : Int) (fine : Int) (outs : List Int) (t15 : List Int) (t16 : Int) (t17 : Int), Le (r1003 q i fine outs t15 t16 t17) (q1003 q i fine outs t15 t16 t17)) {r1008 q1008 : Int → List Int → List Int → Int → Int → Option (List (Int))} (h1008 : ∀ (i : Int) (outs : List Int) (t33 : List Int) (t34 : Int) (t35 : Int), Le (r1008 i outs t33 t34 t35) (q1008 i outs t33 t34 t35)) (q : List Int) (i : Int) (fine : Int) (outs : List Int) (t15 : List Int) (t16 : Int) (t17 : Int) : Le (F64_1003 k r1003 r1008 q i fine outs t15 t16 t17) (F64_1003 (k + 1) q1003 q1008 q i fine outs t15 t16 t17) := by
  unfold F64_1003
  repeat' first | with_reducible exact Le.rfl _ | with_reducible exact Ms_dyPower _ _ | with_reducible exact h1003 _ _ _ _ _ _ _ | with_reducible exact h1008 _ _ _ _ _ | with_reducible refine Le.cond ?_ ?_ | with_reducible refine Le.bind ?_ fun _ => ?_
theorem MFs_faAt_1008 (k : Nat) {r1003 q1003 : List Int → Int → Int → List Int → List Int → Int → Int → Option (List (Int))} (h1003 : ∀ (q : List Int) (i : Int) (fine : Int) (outs : List Int) (t15 : List Int) (t16 : Int) (t17 : Int), Le (r1003 q i fine outs t15 t16 t17) (q1003 q i fine outs t15 t16 t17)) {r1008 q1008 : Int → List Int → List Int → Int → Int → Option (List (Int))} (h1008 : ∀ (i : Int) (outs : List Int) (t33 : List Int) (t34 : Int) (t35 : Int), Le (r1008 i outs t33 t34 t35) (q1008 i outs t33 t34 t35)) (i : Int) (outs : List Int) (t33 : List Int) (t34 : Int) (t35 : Int) : Le (F64_1008 k r1003 r1008 i outs t33 t34 t35) (F64_1008 (k + 1) q1003 q1008 i outs t33 t34 t35) := by
  unfold F64_1008
  repeat' first | with_reducible exact Le.rfl _ | with_reducible exact h1003 _ _ _ _ _ _ _ | with_reducible exact h1008 _ _ _ _ _ | with_reducible refine Le.cond ?_ ?_ | with_reducible refine Le.bind ?_ fun _ => ?_
theorem Mls_faAt : ∀ k : Nat, (∀ (q : List Int) (i : Int) (fine : Int) (outs : List Int) (t15 : List Int) (t16 : Int) (t17 : Int), Le ((l64 k).1 q i fine outs t15 t16 t17) ((l64 (k + 1)).1 q i fine outs t15 t16 t17)) ∧ (∀ (i : Int) (outs : List Int) (t33 : List Int) (t34 : Int) (t35 : Int), Le ((l64 k).2 i outs t33 t34 t35) ((l64 (k + 1)).2 i outs t33 t34 t35))
  | 0 => ⟨fun q i fine outs t15 t16 t17 => Le.no _, fun i outs t33 t34 t35 => Le.no _⟩
  | k + 1 => by
    have h := Mls_faAt k
    exact ⟨fun q i fine outs t15 t16 t17 => MFs_faAt_1003 k h.1 h.2 q i fine outs t15 t16 t17, fun i outs t33 t34 t35 => MFs_faAt_1008 k h.1 h.2 i outs t33 t34 t35⟩
noncomputable def s_faAt_1003 (q : List Int) (i : Int) (fine : Int) (outs : List Int) (t15 : List Int) (t16 : Int) (t17 : Int) : Option (List (Int)) := lim fun k => (l64 k).1 q i fine outs t15 t16 t17
theorem Rls_faAt_1003 (q : List Int) (i : Int) (fine : Int) (outs : List Int) (t15 : List Int) (t16 : Int) (t17 : Int) : Lim (fun k => (l64 k).1 q i fine outs t15 t16 t17) (s_faAt_1003 q i fine outs t15 t16 t17) := Lim.of_mono fun k => (Mls_faAt k).1 q i fine outs t15 t16 t17
noncomputable def s_faAt_1008 (i : Int) (outs : List Int) (t33 : List Int) (t34 : Int) (t35 : Int) : Option (List (Int)) := lim fun k => (l64 k).2 i outs t33 t34 t35
theorem Rls_faAt_1008 (i : Int) (outs : List Int) (t33 : List Int) (t34 : Int) (t35 : Int) : Lim (fun k => (l64 k).2 i outs t33 t34 t35) (s_faAt_1008 i outs t33 t34 t35) := Lim.of_mono fun k => (Mls_faAt k).2 i outs t33 t34 t35
theorem Es_faAt_1003 (q : List Int) (i : Int) (fine : Int) (outs : List Int) (t15 : List Int) (t16 : Int) (t17 : Int) : s_faAt_1003 q i fine outs t15 t16 t17 =
  bif decide (t17 < t16) then
    bif boundA t17 (List.length t15) then
      bif boundA t17 (List.length outs) then
        bif Nat.blt (Int.toNat t17) (List.length outs) then
          (s_dyPower fine).bind fun r0 =>
          bif boundA t17 (List.length outs) then
            bif Nat.blt (Int.toNat t17) (List.length outs) then
              s_faAt_1003 q i fine (List.set outs (Int.toNat t17) (IntKind.wrap IntKind.i64 (List.getD outs (Int.toNat t17) 0 + IntKind.wrap IntKind.i64 (List.getD t15 (Int.toNat t17) 0 * r0)))) t15 t16 (IntKind.wrap IntKind.i64 (t17 + 1))
            else
              none
          else
            none
        else
          none
      else
        none
    else
      none
  else
    s_faAt_1008 i outs q ((↑(List.length q) : Int)) (0) := by
  refine Lim.uniq (Lim.shift (Rls_faAt_1003 q i fine outs t15 t16 t17)) (?_ : Lim (fun k => F64_1003 k ((l64 k).1) ((l64 k).2) q i fine outs t15 t16 t17) _)
  unfold F64_1003
  repeat' first | with_reducible exact Lim.ret _ | with_reducible exact Rs_dyPower _ | with_reducible exact Rls_faAt_1003 _ _ _ _ _ _ _ | with_reducible exact Rls_faAt_1008 _ _ _ _ _ | with_reducible refine Lim.cond ?_ ?_ | with_reducible refine Lim.bind ?_ fun _ => ?_
theorem Es_faAt_1008 (i : Int) (outs : List Int) (t33 : List Int) (t34 : Int) (t35 : Int) : s_faAt_1008 i outs t33 t34 t35 =
  bif decide (t35 < t34) then
    bif boundA t35 (List.length t33) then
      bif boundA t35 (List.length outs) then
        bif Nat.blt (Int.toNat t35) (List.length outs) then
          bif boundA t35 (List.length outs) then
            bif Nat.blt (Int.toNat t35) (List.length outs) then
              s_faAt_1008 i (List.set outs (Int.toNat t35) (IntKind.wrap IntKind.i64 (List.getD outs (Int.toNat t35) 0 + IntKind.wrap IntKind.i64 (List.getD t33 (Int.toNat t35) 0 * i)))) t33 t34 (IntKind.wrap IntKind.i64 (t35 + 1))
            else
              none
          else
            none
        else
          none
      else
        none
    else
      none
  else
    some outs := by
  refine Lim.uniq (Lim.shift (Rls_faAt_1008 i outs t33 t34 t35)) (?_ : Lim (fun k => F64_1008 k ((l64 k).1) ((l64 k).2) i outs t33 t34 t35) _)
  unfold F64_1008
  repeat' first | with_reducible exact Lim.ret _ | with_reducible exact Rls_faAt_1003 _ _ _ _ _ _ _ | with_reducible exact Rls_faAt_1008 _ _ _ _ _ | with_reducible refine Lim.cond ?_ ?_ | with_reducible refine Lim.bind ?_ fun _ => ?_
noncomputable def s_faAt (p : List (Int)) (q : List (Int)) (i : Int) (fine : Int) : Option (List (Int)) :=
  s_faAt_1003 q i fine (List.replicate (Int.toNat 6) (dflt (Ty.int IntKind.i64))) p ((↑(List.length p) : Int)) (0)
theorem Ms_faAt (k : Nat) (p : List (Int)) (q : List (Int)) (i : Int) (fine : Int) : Le (f64 k p q i fine) (f64 (k + 1) p q i fine) := by
  have h := Mls_faAt k
  unfold f64 F64
  repeat' first | with_reducible exact Le.rfl _ | with_reducible exact h.1 _ _ _ _ _ _ _ | with_reducible exact h.2 _ _ _ _ _ | with_reducible refine Le.cond ?_ ?_ | with_reducible refine Le.bind ?_ fun _ => ?_
theorem Rs_faAt (p : List (Int)) (q : List (Int)) (i : Int) (fine : Int) : Lim (fun k => f64 k p q i fine) (s_faAt p q i fine) := by
  unfold f64 F64 s_faAt
  repeat' first | with_reducible exact Lim.ret _ | with_reducible exact Rls_faAt_1003 _ _ _ _ _ _ _ | with_reducible exact Rls_faAt_1008 _ _ _ _ _ | with_reducible refine Lim.cond ?_ ?_ | with_reducible refine Lim.bind ?_ fun _ => ?_

-- spec.l1Most
noncomputable def s_l1Most (a : Int) (b : Int) : Option (Int) :=
  bif decide (b < a) then
    some a
  else
    some b
theorem Ms_l1Most (k : Nat) (a : Int) (b : Int) : Le (f162 k a b) (f162 (k + 1) a b) := by
  unfold f162
  repeat' first | with_reducible exact Le.rfl _ | with_reducible refine Le.cond ?_ ?_ | with_reducible refine Le.bind ?_ fun _ => ?_
theorem Rs_l1Most (a : Int) (b : Int) : Lim (fun k => f162 k a b) (s_l1Most a b) := by
  unfold f162 s_l1Most
  repeat' first | with_reducible exact Lim.ret _ | with_reducible refine Lim.cond ?_ ?_ | with_reducible refine Lim.bind ?_ fun _ => ?_

-- spec.sgProduct
theorem MFs_sgProduct_1005 (k : Nat) {r1005 q1005 : List Int → List Int → List Int → Int → Int → Option (List (Int))} (h1005 : ∀ (q : List Int) (outs : List Int) (t25 : List Int) (t26 : Int) (t27 : Int), Le (r1005 q outs t25 t26 t27) (q1005 q outs t25 t26 t27)) {r1008 q1008 : List Int → List Int → Int → Int → List Int → Int → Int → List Int → Int → Int → Option (List (Int))} (h1008 : ∀ (q : List Int) (outs : List Int) (i : Int) (a : Int) (t25 : List Int) (t26 : Int) (t27 : Int) (t32 : List Int) (t33 : Int) (t34 : Int), Le (r1008 q outs i a t25 t26 t27 t32 t33 t34) (q1008 q outs i a t25 t26 t27 t32 t33 t34)) (q : List Int) (outs : List Int) (t25 : List Int) (t26 : Int) (t27 : Int) : Le (F163_1005 k r1005 r1008 q outs t25 t26 t27) (F163_1005 (k + 1) q1005 q1008 q outs t25 t26 t27) := by
  unfold F163_1005
  repeat' first | with_reducible exact Le.rfl _ | with_reducible exact h1005 _ _ _ _ _ | with_reducible exact h1008 _ _ _ _ _ _ _ _ _ _ | with_reducible refine Le.cond ?_ ?_ | with_reducible refine Le.bind ?_ fun _ => ?_
theorem MFs_sgProduct_1008 (k : Nat) {r1005 q1005 : List Int → List Int → List Int → Int → Int → Option (List (Int))} (h1005 : ∀ (q : List Int) (outs : List Int) (t25 : List Int) (t26 : Int) (t27 : Int), Le (r1005 q outs t25 t26 t27) (q1005 q outs t25 t26 t27)) {r1008 q1008 : List Int → List Int → Int → Int → List Int → Int → Int → List Int → Int → Int → Option (List (Int))} (h1008 : ∀ (q : List Int) (outs : List Int) (i : Int) (a : Int) (t25 : List Int) (t26 : Int) (t27 : Int) (t32 : List Int) (t33 : Int) (t34 : Int), Le (r1008 q outs i a t25 t26 t27 t32 t33 t34) (q1008 q outs i a t25 t26 t27 t32 t33 t34)) (q : List Int) (outs : List Int) (i : Int) (a : Int) (t25 : List Int) (t26 : Int) (t27 : Int) (t32 : List Int) (t33 : Int) (t34 : Int) : Le (F163_1008 k r1005 r1008 q outs i a t25 t26 t27 t32 t33 t34) (F163_1008 (k + 1) q1005 q1008 q outs i a t25 t26 t27 t32 t33 t34) := by
  unfold F163_1008
  repeat' first | with_reducible exact Le.rfl _ | with_reducible exact h1005 _ _ _ _ _ | with_reducible exact h1008 _ _ _ _ _ _ _ _ _ _ | with_reducible refine Le.cond ?_ ?_ | with_reducible refine Le.bind ?_ fun _ => ?_
theorem Mls_sgProduct : ∀ k : Nat, (∀ (q : List Int) (outs : List Int) (t25 : List Int) (t26 : Int) (t27 : Int), Le ((l163 k).1 q outs t25 t26 t27) ((l163 (k + 1)).1 q outs t25 t26 t27)) ∧ (∀ (q : List Int) (outs : List Int) (i : Int) (a : Int) (t25 : List Int) (t26 : Int) (t27 : Int) (t32 : List Int) (t33 : Int) (t34 : Int), Le ((l163 k).2 q outs i a t25 t26 t27 t32 t33 t34) ((l163 (k + 1)).2 q outs i a t25 t26 t27 t32 t33 t34))
  | 0 => ⟨fun q outs t25 t26 t27 => Le.no _, fun q outs i a t25 t26 t27 t32 t33 t34 => Le.no _⟩
  | k + 1 => by
    have h := Mls_sgProduct k
    exact ⟨fun q outs t25 t26 t27 => MFs_sgProduct_1005 k h.1 h.2 q outs t25 t26 t27, fun q outs i a t25 t26 t27 t32 t33 t34 => MFs_sgProduct_1008 k h.1 h.2 q outs i a t25 t26 t27 t32 t33 t34⟩
noncomputable def s_sgProduct_1005 (q : List Int) (outs : List Int) (t25 : List Int) (t26 : Int) (t27 : Int) : Option (List (Int)) := lim fun k => (l163 k).1 q outs t25 t26 t27
theorem Rls_sgProduct_1005 (q : List Int) (outs : List Int) (t25 : List Int) (t26 : Int) (t27 : Int) : Lim (fun k => (l163 k).1 q outs t25 t26 t27) (s_sgProduct_1005 q outs t25 t26 t27) := Lim.of_mono fun k => (Mls_sgProduct k).1 q outs t25 t26 t27
noncomputable def s_sgProduct_1008 (q : List Int) (outs : List Int) (i : Int) (a : Int) (t25 : List Int) (t26 : Int) (t27 : Int) (t32 : List Int) (t33 : Int) (t34 : Int) : Option (List (Int)) := lim fun k => (l163 k).2 q outs i a t25 t26 t27 t32 t33 t34
theorem Rls_sgProduct_1008 (q : List Int) (outs : List Int) (i : Int) (a : Int) (t25 : List Int) (t26 : Int) (t27 : Int) (t32 : List Int) (t33 : Int) (t34 : Int) : Lim (fun k => (l163 k).2 q outs i a t25 t26 t27 t32 t33 t34) (s_sgProduct_1008 q outs i a t25 t26 t27 t32 t33 t34) := Lim.of_mono fun k => (Mls_sgProduct k).2 q outs i a t25 t26 t27 t32 t33 t34
theorem Es_sgProduct_1005 (q : List Int) (outs : List Int) (t25 : List Int) (t26 : Int) (t27 : Int) : s_sgProduct_1005 q outs t25 t26 t27 =
  bif decide (t27 < t26) then
    bif boundA t27 (List.length t25) then
      s_sgProduct_1008 q outs t27 (List.getD t25 (Int.toNat t27) 0) t25 t26 t27 q ((↑(List.length q) : Int)) (0)
    else
      none
  else
    some outs := by
  refine Lim.uniq (Lim.shift (Rls_sgProduct_1005 q outs t25 t26 t27)) (?_ : Lim (fun k => F163_1005 k ((l163 k).1) ((l163 k).2) q outs t25 t26 t27) _)
  unfold F163_1005
  repeat' first | with_reducible exact Lim.ret _ | with_reducible exact Rls_sgProduct_1005 _ _ _ _ _ | with_reducible exact Rls_sgProduct_1008 _ _ _ _ _ _ _ _ _ _ | with_reducible refine Lim.cond ?_ ?_ | with_reducible refine Lim.bind ?_ fun _ => ?_
theorem Es_sgProduct_1008 (q : List Int) (outs : List Int) (i : Int) (a : Int) (t25 : List Int) (t26 : Int) (t27 : Int) (t32 : List Int) (t33 : Int) (t34 : Int) : s_sgProduct_1008 q outs i a t25 t26 t27 t32 t33 t34 =
  bif decide (t34 < t33) then
    bif boundA t34 (List.length t32) then
      bif boundA (IntKind.wrap IntKind.i64 (i + t34)) (List.length outs) then
        bif Nat.blt (Int.toNat (IntKind.wrap IntKind.i64 (i + t34))) (List.length outs) then
          bif boundA (IntKind.wrap IntKind.i64 (i + t34)) (List.length outs) then
            bif Nat.blt (Int.toNat (IntKind.wrap IntKind.i64 (i + t34))) (List.length outs) then
              s_sgProduct_1008 q (List.set outs (Int.toNat (IntKind.wrap IntKind.i64 (i + t34))) (IntKind.wrap IntKind.i64 (List.getD outs (Int.toNat (IntKind.wrap IntKind.i64 (i + t34))) 0 + IntKind.wrap IntKind.i64 (a * List.getD t32 (Int.toNat t34) 0)))) i a t25 t26 t27 t32 t33 (IntKind.wrap IntKind.i64 (t34 + 1))
            else
              none
          else
            none
        else
          none
      else
        none
    else
      none
  else
    s_sgProduct_1005 q outs t25 t26 (IntKind.wrap IntKind.i64 (t27 + 1)) := by
  refine Lim.uniq (Lim.shift (Rls_sgProduct_1008 q outs i a t25 t26 t27 t32 t33 t34)) (?_ : Lim (fun k => F163_1008 k ((l163 k).1) ((l163 k).2) q outs i a t25 t26 t27 t32 t33 t34) _)
  unfold F163_1008
  repeat' first | with_reducible exact Lim.ret _ | with_reducible exact Rls_sgProduct_1005 _ _ _ _ _ | with_reducible exact Rls_sgProduct_1008 _ _ _ _ _ _ _ _ _ _ | with_reducible refine Lim.cond ?_ ?_ | with_reducible refine Lim.bind ?_ fun _ => ?_
noncomputable def s_sgProduct (p : List (Int)) (q : List (Int)) : Option (List (Int)) :=
  bif decide ((↑(List.length p) : Int) = 0) then
    some ([])
  else
    bif decide ((↑(List.length q) : Int) = 0) then
      some ([])
    else
      bif decide (0 ≤ IntKind.wrap IntKind.i64 (IntKind.wrap IntKind.i64 ((↑(List.length p) : Int) + (↑(List.length q) : Int)) - 1)) then
        bif decide (IntKind.wrap IntKind.i64 (IntKind.wrap IntKind.i64 ((↑(List.length p) : Int) + (↑(List.length q) : Int)) - 1) ≤ IntKind.wrap IntKind.i64 (IntKind.wrap IntKind.i64 ((↑(List.length p) : Int) + (↑(List.length q) : Int)) - 1)) then
          bif decide (IntKind.wrap IntKind.i64 (IntKind.wrap IntKind.i64 ((↑(List.length p) : Int) + (↑(List.length q) : Int)) - 1) * (↑8 : Int) ≤ 140737488355328) then
            s_sgProduct_1005 q (List.replicate (Int.toNat (IntKind.wrap IntKind.i64 (IntKind.wrap IntKind.i64 ((↑(List.length p) : Int) + (↑(List.length q) : Int)) - 1))) (dflt (Ty.int IntKind.i64))) p ((↑(List.length p) : Int)) (0)
          else
            none
        else
          none
      else
        none
theorem Ms_sgProduct (k : Nat) (p : List (Int)) (q : List (Int)) : Le (f163 k p q) (f163 (k + 1) p q) := by
  have h := Mls_sgProduct k
  unfold f163 F163
  repeat' first | with_reducible exact Le.rfl _ | with_reducible exact h.1 _ _ _ _ _ | with_reducible exact h.2 _ _ _ _ _ _ _ _ _ _ | with_reducible refine Le.cond ?_ ?_ | with_reducible refine Le.bind ?_ fun _ => ?_
theorem Rs_sgProduct (p : List (Int)) (q : List (Int)) : Lim (fun k => f163 k p q) (s_sgProduct p q) := by
  unfold f163 F163 s_sgProduct
  repeat' first | with_reducible exact Lim.ret _ | with_reducible exact Rls_sgProduct_1005 _ _ _ _ _ | with_reducible exact Rls_sgProduct_1008 _ _ _ _ _ _ _ _ _ _ | with_reducible refine Lim.cond ?_ ?_ | with_reducible refine Lim.bind ?_ fun _ => ?_

-- spec.deOver
theorem MFs_deOver_1007 (k : Nat) {r1007 q1007 : Int → Int → Int → Int → List Int → List Int → Int → Int → Option (List (Int))} (h1007 : ∀ (t : Int) (o : Int) (r : Int) (a : Int) (ys : List Int) (t45 : List Int) (t46 : Int) (t47 : Int), Le (r1007 t o r a ys t45 t46 t47) (q1007 t o r a ys t45 t46 t47)) {r1011 q1011 : Int → Int → Int → Int → List Int → Int → List Int → Int → List Int → Int → Int → Option (List (Int))} (h1011 : ∀ (t : Int) (o : Int) (r : Int) (a : Int) (ys : List Int) (t12 : Int) (t14s : List Int) (t15 : Int) (t45 : List Int) (t46 : Int) (t47 : Int), Le (r1011 t o r a ys t12 t14s t15 t45 t46 t47) (q1011 t o r a ys t12 t14s t15 t45 t46 t47)) {r1017 q1017 : Int → Int → Int → Int → List Int → List Int → Int → Int → List Int → Int → Int → Option (List (Int))} (h1017 : ∀ (t : Int) (o : Int) (r : Int) (a : Int) (ys : List Int) (t45 : List Int) (t46 : Int) (t47 : Int) (t74s : List Int) (t75 : Int) (t76 : Int), Le (r1017 t o r a ys t45 t46 t47 t74s t75 t76) (q1017 t o r a ys t45 t46 t47 t74s t75 t76)) (t : Int) (o : Int) (r : Int) (a : Int) (ys : List Int) (t45 : List Int) (t46 : Int) (t47 : Int) : Le (F132_1007 k r1007 r1011 r1017 t o r a ys t45 t46 t47) (F132_1007 (k + 1) q1007 q1011 q1017 t o r a ys t45 t46 t47) := by
  unfold F132_1007
  repeat' first | with_reducible exact Le.rfl _ | with_reducible exact h1007 _ _ _ _ _ _ _ _ | with_reducible exact h1011 _ _ _ _ _ _ _ _ _ _ _ | with_reducible exact h1017 _ _ _ _ _ _ _ _ _ _ _ | with_reducible refine Le.cond ?_ ?_ | with_reducible refine Le.bind ?_ fun _ => ?_
theorem MFs_deOver_1011 (k : Nat) {r1007 q1007 : Int → Int → Int → Int → List Int → List Int → Int → Int → Option (List (Int))} (h1007 : ∀ (t : Int) (o : Int) (r : Int) (a : Int) (ys : List Int) (t45 : List Int) (t46 : Int) (t47 : Int), Le (r1007 t o r a ys t45 t46 t47) (q1007 t o r a ys t45 t46 t47)) {r1011 q1011 : Int → Int → Int → Int → List Int → Int → List Int → Int → List Int → Int → Int → Option (List (Int))} (h1011 : ∀ (t : Int) (o : Int) (r : Int) (a : Int) (ys : List Int) (t12 : Int) (t14s : List Int) (t15 : Int) (t45 : List Int) (t46 : Int) (t47 : Int), Le (r1011 t o r a ys t12 t14s t15 t45 t46 t47) (q1011 t o r a ys t12 t14s t15 t45 t46 t47)) {r1017 q1017 : Int → Int → Int → Int → List Int → List Int → Int → Int → List Int → Int → Int → Option (List (Int))} (h1017 : ∀ (t : Int) (o : Int) (r : Int) (a : Int) (ys : List Int) (t45 : List Int) (t46 : Int) (t47 : Int) (t74s : List Int) (t75 : Int) (t76 : Int), Le (r1017 t o r a ys t45 t46 t47 t74s t75 t76) (q1017 t o r a ys t45 t46 t47 t74s t75 t76)) (t : Int) (o : Int) (r : Int) (a : Int) (ys : List Int) (t12 : Int) (t14s : List Int) (t15 : Int) (t45 : List Int) (t46 : Int) (t47 : Int) : Le (F132_1011 k r1007 r1011 r1017 t o r a ys t12 t14s t15 t45 t46 t47) (F132_1011 (k + 1) q1007 q1011 q1017 t o r a ys t12 t14s t15 t45 t46 t47) := by
  unfold F132_1011
  repeat' first | with_reducible exact Le.rfl _ | with_reducible exact Ms_dyPower _ _ | with_reducible exact Ms_sgProduct _ _ _ | with_reducible exact h1007 _ _ _ _ _ _ _ _ | with_reducible exact h1011 _ _ _ _ _ _ _ _ _ _ _ | with_reducible exact h1017 _ _ _ _ _ _ _ _ _ _ _ | with_reducible refine Le.cond ?_ ?_ | with_reducible refine Le.bind ?_ fun _ => ?_
theorem MFs_deOver_1017 (k : Nat) {r1007 q1007 : Int → Int → Int → Int → List Int → List Int → Int → Int → Option (List (Int))} (h1007 : ∀ (t : Int) (o : Int) (r : Int) (a : Int) (ys : List Int) (t45 : List Int) (t46 : Int) (t47 : Int), Le (r1007 t o r a ys t45 t46 t47) (q1007 t o r a ys t45 t46 t47)) {r1011 q1011 : Int → Int → Int → Int → List Int → Int → List Int → Int → List Int → Int → Int → Option (List (Int))} (h1011 : ∀ (t : Int) (o : Int) (r : Int) (a : Int) (ys : List Int) (t12 : Int) (t14s : List Int) (t15 : Int) (t45 : List Int) (t46 : Int) (t47 : Int), Le (r1011 t o r a ys t12 t14s t15 t45 t46 t47) (q1011 t o r a ys t12 t14s t15 t45 t46 t47)) {r1017 q1017 : Int → Int → Int → Int → List Int → List Int → Int → Int → List Int → Int → Int → Option (List (Int))} (h1017 : ∀ (t : Int) (o : Int) (r : Int) (a : Int) (ys : List Int) (t45 : List Int) (t46 : Int) (t47 : Int) (t74s : List Int) (t75 : Int) (t76 : Int), Le (r1017 t o r a ys t45 t46 t47 t74s t75 t76) (q1017 t o r a ys t45 t46 t47 t74s t75 t76)) (t : Int) (o : Int) (r : Int) (a : Int) (ys : List Int) (t45 : List Int) (t46 : Int) (t47 : Int) (t74s : List Int) (t75 : Int) (t76 : Int) : Le (F132_1017 k r1007 r1011 r1017 t o r a ys t45 t46 t47 t74s t75 t76) (F132_1017 (k + 1) q1007 q1011 q1017 t o r a ys t45 t46 t47 t74s t75 t76) := by
  unfold F132_1017
  repeat' first | with_reducible exact Le.rfl _ | with_reducible exact h1007 _ _ _ _ _ _ _ _ | with_reducible exact h1011 _ _ _ _ _ _ _ _ _ _ _ | with_reducible exact h1017 _ _ _ _ _ _ _ _ _ _ _ | with_reducible refine Le.cond ?_ ?_ | with_reducible refine Le.bind ?_ fun _ => ?_
theorem Mls_deOver : ∀ k : Nat, (∀ (t : Int) (o : Int) (r : Int) (a : Int) (ys : List Int) (t45 : List Int) (t46 : Int) (t47 : Int), Le ((l132 k).1 t o r a ys t45 t46 t47) ((l132 (k + 1)).1 t o r a ys t45 t46 t47)) ∧ (∀ (t : Int) (o : Int) (r : Int) (a : Int) (ys : List Int) (t12 : Int) (t14s : List Int) (t15 : Int) (t45 : List Int) (t46 : Int) (t47 : Int), Le ((l132 k).2.1 t o r a ys t12 t14s t15 t45 t46 t47) ((l132 (k + 1)).2.1 t o r a ys t12 t14s t15 t45 t46 t47)) ∧ (∀ (t : Int) (o : Int) (r : Int) (a : Int) (ys : List Int) (t45 : List Int) (t46 : Int) (t47 : Int) (t74s : List Int) (t75 : Int) (t76 : Int), Le ((l132 k).2.2 t o r a ys t45 t46 t47 t74s t75 t76) ((l132 (k + 1)).2.2 t o r a ys t45 t46 t47 t74s t75 t76))
  | 0 => ⟨fun t o r a ys t45 t46 t47 => Le.no _, fun t o r a ys t12 t14s t15 t45 t46 t47 => Le.no _, fun t o r a ys t45 t46 t47 t74s t75 t76 => Le.no _⟩
  | k + 1 => by
    have h := Mls_deOver k
    exact ⟨fun t o r a ys t45 t46 t47 => MFs_deOver_1007 k h.1 h.2.1 h.2.2 t o r a ys t45 t46 t47, fun t o r a ys t12 t14s t15 t45 t46 t47 => MFs_deOver_1011 k h.1 h.2.1 h.2.2 t o r a ys t12 t14s t15 t45 t46 t47, fun t o r a ys t45 t46 t47 t74s t75 t76 => MFs_deOver_1017 k h.1 h.2.1 h.2.2 t o r a ys t45 t46 t47 t74s t75 t76⟩
noncomputable def s_deOver_1007 (t : Int) (o : Int) (r : Int) (a : Int) (ys : List Int) (t45 : List Int) (t46 : Int) (t47 : Int) : Option (List (Int)) := lim fun k => (l132 k).1 t o r a ys t45 t46 t47
theorem Rls_deOver_1007 (t : Int) (o : Int) (r : Int) (a : Int) (ys : List Int) (t45 : List Int) (t46 : Int) (t47 : Int) : Lim (fun k => (l132 k).1 t o r a ys t45 t46 t47) (s_deOver_1007 t o r a ys t45 t46 t47) := Lim.of_mono fun k => (Mls_deOver k).1 t o r a ys t45 t46 t47
noncomputable def s_deOver_1011 (t : Int) (o : Int) (r : Int) (a : Int) (ys : List Int) (t12 : Int) (t14s : List Int) (t15 : Int) (t45 : List Int) (t46 : Int) (t47 : Int) : Option (List (Int)) := lim fun k => (l132 k).2.1 t o r a ys t12 t14s t15 t45 t46 t47
theorem Rls_deOver_1011 (t : Int) (o : Int) (r : Int) (a : Int) (ys : List Int) (t12 : Int) (t14s : List Int) (t15 : Int) (t45 : List Int) (t46 : Int) (t47 : Int) : Lim (fun k => (l132 k).2.1 t o r a ys t12 t14s t15 t45 t46 t47) (s_deOver_1011 t o r a ys t12 t14s t15 t45 t46 t47) := Lim.of_mono fun k => (Mls_deOver k).2.1 t o r a ys t12 t14s t15 t45 t46 t47
noncomputable def s_deOver_1017 (t : Int) (o : Int) (r : Int) (a : Int) (ys : List Int) (t45 : List Int) (t46 : Int) (t47 : Int) (t74s : List Int) (t75 : Int) (t76 : Int) : Option (List (Int)) := lim fun k => (l132 k).2.2 t o r a ys t45 t46 t47 t74s t75 t76
theorem Rls_deOver_1017 (t : Int) (o : Int) (r : Int) (a : Int) (ys : List Int) (t45 : List Int) (t46 : Int) (t47 : Int) (t74s : List Int) (t75 : Int) (t76 : Int) : Lim (fun k => (l132 k).2.2 t o r a ys t45 t46 t47 t74s t75 t76) (s_deOver_1017 t o r a ys t45 t46 t47 t74s t75 t76) := Lim.of_mono fun k => (Mls_deOver k).2.2 t o r a ys t45 t46 t47 t74s t75 t76
theorem Es_deOver_1007 (t : Int) (o : Int) (r : Int) (a : Int) (ys : List Int) (t45 : List Int) (t46 : Int) (t47 : Int) : s_deOver_1007 t o r a ys t45 t46 t47 =
  bif decide (t47 < t46) then
    bif boundA t47 (List.length t45) then
      s_deOver_1011 t o r a ys t47 ([List.getD t45 (Int.toNat t47) 0]) (0) t45 t46 t47
    else
      none
  else
    some ys := by
  refine Lim.uniq (Lim.shift (Rls_deOver_1007 t o r a ys t45 t46 t47)) (?_ : Lim (fun k => F132_1007 k ((l132 k).1) ((l132 k).2.1) ((l132 k).2.2) t o r a ys t45 t46 t47) _)
  unfold F132_1007
  repeat' first | with_reducible exact Lim.ret _ | with_reducible exact Rls_deOver_1007 _ _ _ _ _ _ _ _ | with_reducible exact Rls_deOver_1011 _ _ _ _ _ _ _ _ _ _ _ | with_reducible exact Rls_deOver_1017 _ _ _ _ _ _ _ _ _ _ _ | with_reducible refine Lim.cond ?_ ?_ | with_reducible refine Lim.bind ?_ fun _ => ?_
theorem Es_deOver_1011 (t : Int) (o : Int) (r : Int) (a : Int) (ys : List Int) (t12 : Int) (t14s : List Int) (t15 : Int) (t45 : List Int) (t46 : Int) (t47 : Int) : s_deOver_1011 t o r a ys t12 t14s t15 t45 t46 t47 =
  bif decide (t15 < a) then
    bif decide (t15 < t12) then
      (s_sgProduct t14s [o, r]).bind fun r0 =>
      s_deOver_1011 t o r a ys t12 r0 (IntKind.wrap IntKind.i64 (t15 + 1)) t45 t46 t47
    else
      (s_dyPower t).bind fun r1 =>
      (s_dyPower t).bind fun r2 =>
      (s_sgProduct t14s [r1, r2]).bind fun r3 =>
      s_deOver_1011 t o r a ys t12 r3 (IntKind.wrap IntKind.i64 (t15 + 1)) t45 t46 t47
  else
    s_deOver_1017 t o r a ys t45 t46 t47 t14s ((↑(List.length t14s) : Int)) (0) := by
  refine Lim.uniq (Lim.shift (Rls_deOver_1011 t o r a ys t12 t14s t15 t45 t46 t47)) (?_ : Lim (fun k => F132_1011 k ((l132 k).1) ((l132 k).2.1) ((l132 k).2.2) t o r a ys t12 t14s t15 t45 t46 t47) _)
  unfold F132_1011
  repeat' first | with_reducible exact Lim.ret _ | with_reducible exact Rs_dyPower _ | with_reducible exact Rs_sgProduct _ _ | with_reducible exact Rls_deOver_1007 _ _ _ _ _ _ _ _ | with_reducible exact Rls_deOver_1011 _ _ _ _ _ _ _ _ _ _ _ | with_reducible exact Rls_deOver_1017 _ _ _ _ _ _ _ _ _ _ _ | with_reducible refine Lim.cond ?_ ?_ | with_reducible refine Lim.bind ?_ fun _ => ?_
theorem Es_deOver_1017 (t : Int) (o : Int) (r : Int) (a : Int) (ys : List Int) (t45 : List Int) (t46 : Int) (t47 : Int) (t74s : List Int) (t75 : Int) (t76 : Int) : s_deOver_1017 t o r a ys t45 t46 t47 t74s t75 t76 =
  bif decide (t76 < t75) then
    bif boundA t76 (List.length t74s) then
      bif Nat.blt (Int.toNat t76) (List.length t74s) then
        bif boundA t76 (List.length ys) then
          bif Nat.blt (Int.toNat t76) (List.length ys) then
            bif boundA t76 (List.length ys) then
              bif Nat.blt (Int.toNat t76) (List.length ys) then
                s_deOver_1017 t o r a (List.set ys (Int.toNat t76) (IntKind.wrap IntKind.i64 (List.getD ys (Int.toNat t76) 0 + List.getD t74s (Int.toNat t76) 0))) t45 t46 t47 t74s t75 (IntKind.wrap IntKind.i64 (t76 + 1))
              else
                none
            else
              none
          else
            none
        else
          none
      else
        none
    else
      none
  else
    s_deOver_1007 t o r a ys t45 t46 (IntKind.wrap IntKind.i64 (t47 + 1)) := by
  refine Lim.uniq (Lim.shift (Rls_deOver_1017 t o r a ys t45 t46 t47 t74s t75 t76)) (?_ : Lim (fun k => F132_1017 k ((l132 k).1) ((l132 k).2.1) ((l132 k).2.2) t o r a ys t45 t46 t47 t74s t75 t76) _)
  unfold F132_1017
  repeat' first | with_reducible exact Lim.ret _ | with_reducible exact Rls_deOver_1007 _ _ _ _ _ _ _ _ | with_reducible exact Rls_deOver_1011 _ _ _ _ _ _ _ _ _ _ _ | with_reducible exact Rls_deOver_1017 _ _ _ _ _ _ _ _ _ _ _ | with_reducible refine Lim.cond ?_ ?_ | with_reducible refine Lim.bind ?_ fun _ => ?_
noncomputable def s_deOver (L : List (Int)) (i_Low_N : Int) (i_Low_K : Int) (i_High_N : Int) (i_High_K : Int) : Option (List (Int)) :=
  (s_l1Most i_Low_K i_High_K).bind fun r0 =>
  (s_dyAt i_Low_N i_Low_K r0).bind fun r1 =>
  (s_dyAt i_High_N i_High_K r0).bind fun r2 =>
  bif decide (0 ≤ IntKind.wrap IntKind.i64 (IntKind.wrap IntKind.i64 ((↑(List.length L) : Int) - 1) + 1)) then
    bif decide (IntKind.wrap IntKind.i64 (IntKind.wrap IntKind.i64 ((↑(List.length L) : Int) - 1) + 1) ≤ IntKind.wrap IntKind.i64 (IntKind.wrap IntKind.i64 ((↑(List.length L) : Int) - 1) + 1)) then
      bif decide (IntKind.wrap IntKind.i64 (IntKind.wrap IntKind.i64 ((↑(List.length L) : Int) - 1) + 1) * (↑8 : Int) ≤ 140737488355328) then
        s_deOver_1007 r0 (r1.fst) (r2.fst) (IntKind.wrap IntKind.i64 ((↑(List.length L) : Int) - 1)) (List.replicate (Int.toNat (IntKind.wrap IntKind.i64 (IntKind.wrap IntKind.i64 ((↑(List.length L) : Int) - 1) + 1))) (dflt (Ty.int IntKind.i64))) L ((↑(List.length L) : Int)) (0)
      else
        none
    else
      none
  else
    none
theorem Ms_deOver (k : Nat) (L : List (Int)) (i_Low_N : Int) (i_Low_K : Int) (i_High_N : Int) (i_High_K : Int) : Le (f132 k L i_Low_N i_Low_K i_High_N i_High_K) (f132 (k + 1) L i_Low_N i_Low_K i_High_N i_High_K) := by
  have h := Mls_deOver k
  unfold f132 F132
  repeat' first | with_reducible exact Le.rfl _ | with_reducible exact Ms_dyAt _ _ _ _ | with_reducible exact Ms_l1Most _ _ _ | with_reducible exact h.1 _ _ _ _ _ _ _ _ | with_reducible exact h.2.1 _ _ _ _ _ _ _ _ _ _ _ | with_reducible exact h.2.2 _ _ _ _ _ _ _ _ _ _ _ | with_reducible refine Le.cond ?_ ?_ | with_reducible refine Le.bind ?_ fun _ => ?_
theorem Rs_deOver (L : List (Int)) (i_Low_N : Int) (i_Low_K : Int) (i_High_N : Int) (i_High_K : Int) : Lim (fun k => f132 k L i_Low_N i_Low_K i_High_N i_High_K) (s_deOver L i_Low_N i_Low_K i_High_N i_High_K) := by
  unfold f132 F132 s_deOver
  repeat' first | with_reducible exact Lim.ret _ | with_reducible exact Rs_dyAt _ _ _ | with_reducible exact Rs_l1Most _ _ | with_reducible exact Rls_deOver_1007 _ _ _ _ _ _ _ _ | with_reducible exact Rls_deOver_1011 _ _ _ _ _ _ _ _ _ _ _ | with_reducible exact Rls_deOver_1017 _ _ _ _ _ _ _ _ _ _ _ | with_reducible refine Lim.cond ?_ ?_ | with_reducible refine Lim.bind ?_ fun _ => ?_

-- spec.sgDerive
theorem MFs_sgDerive_1003 (k : Nat) {r1003 q1003 : List Int → List Int → Int → Int → Option (List (Int))} (h1003 : ∀ (outs : List Int) (t6 : List Int) (t7 : Int) (t8 : Int), Le (r1003 outs t6 t7 t8) (q1003 outs t6 t7 t8)) (outs : List Int) (t6 : List Int) (t7 : Int) (t8 : Int) : Le (F133_1003 k r1003 outs t6 t7 t8) (F133_1003 (k + 1) q1003 outs t6 t7 t8) := by
  unfold F133_1003
  repeat' first | with_reducible exact Le.rfl _ | with_reducible exact h1003 _ _ _ _ | with_reducible refine Le.cond ?_ ?_ | with_reducible refine Le.bind ?_ fun _ => ?_
theorem Mls_sgDerive : ∀ k : Nat, ∀ (outs : List Int) (t6 : List Int) (t7 : Int) (t8 : Int), Le ((l133 k) outs t6 t7 t8) ((l133 (k + 1)) outs t6 t7 t8)
  | 0 => fun outs t6 t7 t8 => Le.no _
  | k + 1 => by
    have h := Mls_sgDerive k
    exact fun outs t6 t7 t8 => MFs_sgDerive_1003 k h outs t6 t7 t8
noncomputable def s_sgDerive_1003 (outs : List Int) (t6 : List Int) (t7 : Int) (t8 : Int) : Option (List (Int)) := lim fun k => (l133 k) outs t6 t7 t8
theorem Rls_sgDerive_1003 (outs : List Int) (t6 : List Int) (t7 : Int) (t8 : Int) : Lim (fun k => (l133 k) outs t6 t7 t8) (s_sgDerive_1003 outs t6 t7 t8) := Lim.of_mono fun k => Mls_sgDerive k outs t6 t7 t8
theorem Es_sgDerive_1003 (outs : List Int) (t6 : List Int) (t7 : Int) (t8 : Int) : s_sgDerive_1003 outs t6 t7 t8 =
  bif decide (t8 < t7) then
    bif boundA t8 (List.length t6) then
      bif decide (0 < t8) then
        bif decide ((List.length outs + List.length [IntKind.wrap IntKind.i64 (t8 * List.getD t6 (Int.toNat t8) 0)]) * 8 ≤ 140737488355328) then
          s_sgDerive_1003 (outs ++ [IntKind.wrap IntKind.i64 (t8 * List.getD t6 (Int.toNat t8) 0)]) t6 t7 (IntKind.wrap IntKind.i64 (t8 + 1))
        else
          none
      else
        s_sgDerive_1003 outs t6 t7 (IntKind.wrap IntKind.i64 (t8 + 1))
    else
      none
  else
    some outs := by
  refine Lim.uniq (Lim.shift (Rls_sgDerive_1003 outs t6 t7 t8)) (?_ : Lim (fun k => F133_1003 k ((l133 k)) outs t6 t7 t8) _)
  unfold F133_1003
  repeat' first | with_reducible exact Lim.ret _ | with_reducible exact Rls_sgDerive_1003 _ _ _ _ | with_reducible refine Lim.cond ?_ ?_ | with_reducible refine Lim.bind ?_ fun _ => ?_
noncomputable def s_sgDerive (p : List (Int)) : Option (List (Int)) :=
  s_sgDerive_1003 ([]) p ((↑(List.length p) : Int)) (0)
theorem Ms_sgDerive (k : Nat) (p : List (Int)) : Le (f133 k p) (f133 (k + 1) p) := by
  have h := Mls_sgDerive k
  unfold f133 F133
  repeat' first | with_reducible exact Le.rfl _ | with_reducible exact h _ _ _ _ | with_reducible refine Le.cond ?_ ?_ | with_reducible refine Le.bind ?_ fun _ => ?_
theorem Rs_sgDerive (p : List (Int)) : Lim (fun k => f133 k p) (s_sgDerive p) := by
  unfold f133 F133 s_sgDerive
  repeat' first | with_reducible exact Lim.ret _ | with_reducible exact Rls_sgDerive_1003 _ _ _ _ | with_reducible refine Lim.cond ?_ ?_ | with_reducible refine Lim.bind ?_ fun _ => ?_

-- spec.beSign
theorem MFs_beSign_1003 (k : Nat) {r1003 q1003 : Int → List Int → Int → Int → Option (Int)} (h1003 : ∀ (sign : Int) (t10 : List Int) (t11 : Int) (t12 : Int), Le (r1003 sign t10 t11 t12) (q1003 sign t10 t11 t12)) (sign : Int) (t10 : List Int) (t11 : Int) (t12 : Int) : Le (F134_1003 k r1003 sign t10 t11 t12) (F134_1003 (k + 1) q1003 sign t10 t11 t12) := by
  unfold F134_1003
  repeat' first | with_reducible exact Le.rfl _ | with_reducible exact Ms_l1Sign _ _ | with_reducible exact h1003 _ _ _ _ | with_reducible refine Le.cond ?_ ?_ | with_reducible refine Le.bind ?_ fun _ => ?_
theorem Mls_beSign : ∀ k : Nat, ∀ (sign : Int) (t10 : List Int) (t11 : Int) (t12 : Int), Le ((l134 k) sign t10 t11 t12) ((l134 (k + 1)) sign t10 t11 t12)
  | 0 => fun sign t10 t11 t12 => Le.no _
  | k + 1 => by
    have h := Mls_beSign k
    exact fun sign t10 t11 t12 => MFs_beSign_1003 k h sign t10 t11 t12
noncomputable def s_beSign_1003 (sign : Int) (t10 : List Int) (t11 : Int) (t12 : Int) : Option (Int) := lim fun k => (l134 k) sign t10 t11 t12
theorem Rls_beSign_1003 (sign : Int) (t10 : List Int) (t11 : Int) (t12 : Int) : Lim (fun k => (l134 k) sign t10 t11 t12) (s_beSign_1003 sign t10 t11 t12) := Lim.of_mono fun k => Mls_beSign k sign t10 t11 t12
theorem Es_beSign_1003 (sign : Int) (t10 : List Int) (t11 : Int) (t12 : Int) : s_beSign_1003 sign t10 t11 t12 =
  bif decide (t12 < t11) then
    bif boundA t12 (List.length t10) then
      (s_l1Sign (List.getD t10 (Int.toNat t12) 0)).bind fun r0 =>
      bif !decide (r0 = sign) then
        some (0)
      else
        s_beSign_1003 sign t10 t11 (IntKind.wrap IntKind.i64 (t12 + 1))
    else
      none
  else
    some sign := by
  refine Lim.uniq (Lim.shift (Rls_beSign_1003 sign t10 t11 t12)) (?_ : Lim (fun k => F134_1003 k ((l134 k)) sign t10 t11 t12) _)
  unfold F134_1003
  repeat' first | with_reducible exact Lim.ret _ | with_reducible exact Rs_l1Sign _ | with_reducible exact Rls_beSign_1003 _ _ _ _ | with_reducible refine Lim.cond ?_ ?_ | with_reducible refine Lim.bind ?_ fun _ => ?_
noncomputable def s_beSign (l : List (Int)) : Option (Int) :=
  bif boundA 0 (List.length l) then
    (s_l1Sign (List.getD l (Int.toNat 0) 0)).bind fun r0 =>
    s_beSign_1003 r0 l ((↑(List.length l) : Int)) (0)
  else
    none
theorem Ms_beSign (k : Nat) (l : List (Int)) : Le (f134 k l) (f134 (k + 1) l) := by
  have h := Mls_beSign k
  unfold f134 F134
  repeat' first | with_reducible exact Le.rfl _ | with_reducible exact Ms_l1Sign _ _ | with_reducible exact h _ _ _ _ | with_reducible refine Le.cond ?_ ?_ | with_reducible refine Le.bind ?_ fun _ => ?_
theorem Rs_beSign (l : List (Int)) : Lim (fun k => f134 k l) (s_beSign l) := by
  unfold f134 F134 s_beSign
  repeat' first | with_reducible exact Lim.ret _ | with_reducible exact Rs_l1Sign _ | with_reducible exact Rls_beSign_1003 _ _ _ _ | with_reducible refine Lim.cond ?_ ?_ | with_reducible refine Lim.bind ?_ fun _ => ?_

-- spec.faSlope
noncomputable def s_faSlope (p : List (Int)) (q : List (Int)) (x_Low_N : Int) (x_Low_K : Int) (x_High_N : Int) (x_High_K : Int) (i : Int) (fine : Int) : Option (Int) :=
  (s_faAt p q i fine).bind fun r0 =>
  (s_sgDerive r0).bind fun r1 =>
  (s_deOver r1 x_Low_N x_Low_K x_High_N x_High_K).bind fun r2 =>
  (s_faAt p q (IntKind.wrap IntKind.i64 (i + 1)) fine).bind fun r3 =>
  (s_sgDerive r3).bind fun r4 =>
  (s_deOver r4 x_Low_N x_Low_K x_High_N x_High_K).bind fun r5 =>
  bif decide ((List.length r2 + List.length r5) * 8 ≤ 140737488355328) then
    (s_beSign (r2 ++ r5)).bind fun r6 =>
    some r6
  else
    none
theorem Ms_faSlope (k : Nat) (p : List (Int)) (q : List (Int)) (x_Low_N : Int) (x_Low_K : Int) (x_High_N : Int) (x_High_K : Int) (i : Int) (fine : Int) : Le (f97 k p q x_Low_N x_Low_K x_High_N x_High_K i fine) (f97 (k + 1) p q x_Low_N x_Low_K x_High_N x_High_K i fine) := by
  unfold f97
  repeat' first | with_reducible exact Le.rfl _ | with_reducible exact Ms_deOver _ _ _ _ _ _ | with_reducible exact Ms_sgDerive _ _ | with_reducible exact Ms_beSign _ _ | with_reducible exact Ms_faAt _ _ _ _ _ | with_reducible refine Le.cond ?_ ?_ | with_reducible refine Le.bind ?_ fun _ => ?_
theorem Rs_faSlope (p : List (Int)) (q : List (Int)) (x_Low_N : Int) (x_Low_K : Int) (x_High_N : Int) (x_High_K : Int) (i : Int) (fine : Int) : Lim (fun k => f97 k p q x_Low_N x_Low_K x_High_N x_High_K i fine) (s_faSlope p q x_Low_N x_Low_K x_High_N x_High_K i fine) := by
  unfold f97 s_faSlope
  repeat' first | with_reducible exact Lim.ret _ | with_reducible exact Rs_deOver _ _ _ _ _ | with_reducible exact Rs_sgDerive _ | with_reducible exact Rs_beSign _ | with_reducible exact Rs_faAt _ _ _ _ | with_reducible refine Lim.cond ?_ ?_ | with_reducible refine Lim.bind ?_ fun _ => ?_

-- spec.SlopeSign
noncomputable def s_SlopeSign (p : List (Int)) (q : List (Int)) (x_Low_N : Int) (x_Low_K : Int) (x_High_N : Int) (x_High_K : Int) (i : Int) (fine : Int) : Option (Int × Bool) :=
  (s_faStep p q i fine).bind fun r0 =>
  bif !r0 then
    some ((0, false))
  else
    (s_deFit x_Low_N x_Low_K x_High_N x_High_K).bind fun r1 =>
    bif !r1 then
      some ((0, false))
    else
      (s_faSlope p q x_Low_N x_Low_K x_High_N x_High_K i fine).bind fun r2 =>
      some ((r2, true))
theorem Ms_SlopeSign (k : Nat) (p : List (Int)) (q : List (Int)) (x_Low_N : Int) (x_Low_K : Int) (x_High_N : Int) (x_High_K : Int) (i : Int) (fine : Int) : Le (f50 k p q x_Low_N x_Low_K x_High_N x_High_K i fine) (f50 (k + 1) p q x_Low_N x_Low_K x_High_N x_High_K i fine) := by
  unfold f50
  repeat' first | with_reducible exact Le.rfl _ | with_reducible exact Ms_faStep _ _ _ _ _ | with_reducible exact Ms_deFit _ _ _ _ _ | with_reducible exact Ms_faSlope _ _ _ _ _ _ _ _ _ | with_reducible refine Le.cond ?_ ?_ | with_reducible refine Le.bind ?_ fun _ => ?_
theorem Rs_SlopeSign (p : List (Int)) (q : List (Int)) (x_Low_N : Int) (x_Low_K : Int) (x_High_N : Int) (x_High_K : Int) (i : Int) (fine : Int) : Lim (fun k => f50 k p q x_Low_N x_Low_K x_High_N x_High_K i fine) (s_SlopeSign p q x_Low_N x_Low_K x_High_N x_High_K i fine) := by
  unfold f50 s_SlopeSign
  repeat' first | with_reducible exact Lim.ret _ | with_reducible exact Rs_faStep _ _ _ _ | with_reducible exact Rs_deFit _ _ _ _ | with_reducible exact Rs_faSlope _ _ _ _ _ _ _ _ | with_reducible refine Lim.cond ?_ ?_ | with_reducible refine Lim.bind ?_ fun _ => ?_

-- laws.toDyadic
noncomputable def w_toDyadic (a_N : Int) (a_K : Int) : Option (Int × Int) :=
  some ((a_N, a_K))
theorem Mw_toDyadic (k : Nat) (a_N : Int) (a_K : Int) : Le (f43 k a_N a_K) (f43 (k + 1) a_N a_K) := by
  unfold f43
  repeat' first | with_reducible exact Le.rfl _ | with_reducible refine Le.cond ?_ ?_ | with_reducible refine Le.bind ?_ fun _ => ?_
theorem Rw_toDyadic (a_N : Int) (a_K : Int) : Lim (fun k => f43 k a_N a_K) (w_toDyadic a_N a_K) := by
  unfold f43 w_toDyadic
  repeat' first | with_reducible exact Lim.ret _ | with_reducible refine Lim.cond ?_ ?_ | with_reducible refine Lim.bind ?_ fun _ => ?_

-- laws.toInterval
noncomputable def w_toInterval (a_Low_N : Int) (a_Low_K : Int) (a_High_N : Int) (a_High_K : Int) : Option ((Int × Int) × Int × Int) :=
  some (((a_Low_N, a_Low_K), a_High_N, a_High_K))
theorem Mw_toInterval (k : Nat) (a_Low_N : Int) (a_Low_K : Int) (a_High_N : Int) (a_High_K : Int) : Le (f51 k a_Low_N a_Low_K a_High_N a_High_K) (f51 (k + 1) a_Low_N a_Low_K a_High_N a_High_K) := by
  unfold f51
  repeat' first | with_reducible exact Le.rfl _ | with_reducible refine Le.cond ?_ ?_ | with_reducible refine Le.bind ?_ fun _ => ?_
theorem Rw_toInterval (a_Low_N : Int) (a_Low_K : Int) (a_High_N : Int) (a_High_K : Int) : Lim (fun k => f51 k a_Low_N a_Low_K a_High_N a_High_K) (w_toInterval a_Low_N a_Low_K a_High_N a_High_K) := by
  unfold f51 w_toInterval
  repeat' first | with_reducible exact Lim.ret _ | with_reducible refine Lim.cond ?_ ?_ | with_reducible refine Lim.bind ?_ fun _ => ?_

-- impl.inside
noncomputable def i_inside (n : Int) (low : Int) (high : Int) : Option (Bool) :=
  bif decide (low ≤ n) then
    some (decide (n ≤ high))
  else
    some false
theorem Mi_inside (k : Nat) (n : Int) (low : Int) (high : Int) : Le (f74 k n low high) (f74 (k + 1) n low high) := by
  unfold f74
  repeat' first | with_reducible exact Le.rfl _ | with_reducible refine Le.cond ?_ ?_ | with_reducible refine Le.bind ?_ fun _ => ?_
theorem Ri_inside (n : Int) (low : Int) (high : Int) : Lim (fun k => f74 k n low high) (i_inside n low high) := by
  unfold f74 i_inside
  repeat' first | with_reducible exact Lim.ret _ | with_reducible refine Lim.cond ?_ ?_ | with_reducible refine Lim.bind ?_ fun _ => ?_

-- impl.isSingle
theorem MFi_isSingle_1002 (k : Nat) {r1002 q1002 : List Int → List Int → Int → Int → Option (Bool)} (h1002 : ∀ (p : List Int) (t5 : List Int) (t6 : Int) (t7 : Int), Le (r1002 p t5 t6 t7) (q1002 p t5 t6 t7)) (p : List Int) (t5 : List Int) (t6 : Int) (t7 : Int) : Le (F143_1002 k r1002 p t5 t6 t7) (F143_1002 (k + 1) q1002 p t5 t6 t7) := by
  unfold F143_1002
  repeat' first | with_reducible exact Le.rfl _ | with_reducible exact Mi_inside _ _ _ _ | with_reducible exact h1002 _ _ _ _ | with_reducible refine Le.cond ?_ ?_ | with_reducible refine Le.bind ?_ fun _ => ?_
theorem Mli_isSingle : ∀ k : Nat, ∀ (p : List Int) (t5 : List Int) (t6 : Int) (t7 : Int), Le ((l143 k) p t5 t6 t7) ((l143 (k + 1)) p t5 t6 t7)
  | 0 => fun p t5 t6 t7 => Le.no _
  | k + 1 => by
    have h := Mli_isSingle k
    exact fun p t5 t6 t7 => MFi_isSingle_1002 k h p t5 t6 t7
noncomputable def i_isSingle_1002 (p : List Int) (t5 : List Int) (t6 : Int) (t7 : Int) : Option (Bool) := lim fun k => (l143 k) p t5 t6 t7
theorem Rli_isSingle_1002 (p : List Int) (t5 : List Int) (t6 : Int) (t7 : Int) : Lim (fun k => (l143 k) p t5 t6 t7) (i_isSingle_1002 p t5 t6 t7) := Lim.of_mono fun k => Mli_isSingle k p t5 t6 t7
theorem Ei_isSingle_1002 (p : List Int) (t5 : List Int) (t6 : Int) (t7 : Int) : i_isSingle_1002 p t5 t6 t7 =
  bif decide (t7 < t6) then
    bif boundA t7 (List.length t5) then
      (i_inside (List.getD t5 (Int.toNat t7) 0) (-1000000) 1000000).bind fun r0 =>
      bif !r0 then
        some false
      else
        i_isSingle_1002 p t5 t6 (IntKind.wrap IntKind.i64 (t7 + 1))
    else
      none
  else
    bif decide ((↑(List.length p) : Int) = 0) then
      some true
    else
      bif decide ((↑(List.length p) : Int) ≤ 9) then
        bif boundA (IntKind.wrap IntKind.i64 ((↑(List.length p) : Int) - 1)) (List.length p) then
          some (!decide (List.getD p (Int.toNat (IntKind.wrap IntKind.i64 ((↑(List.length p) : Int) - 1))) 0 = 0))
        else
          none
      else
        some false := by
  refine Lim.uniq (Lim.shift (Rli_isSingle_1002 p t5 t6 t7)) (?_ : Lim (fun k => F143_1002 k ((l143 k)) p t5 t6 t7) _)
  unfold F143_1002
  repeat' first | with_reducible exact Lim.ret _ | with_reducible exact Ri_inside _ _ _ | with_reducible exact Rli_isSingle_1002 _ _ _ _ | with_reducible refine Lim.cond ?_ ?_ | with_reducible refine Lim.bind ?_ fun _ => ?_
noncomputable def i_isSingle (p : List (Int)) : Option (Bool) :=
  i_isSingle_1002 p p ((↑(List.length p) : Int)) (0)
theorem Mi_isSingle (k : Nat) (p : List (Int)) : Le (f143 k p) (f143 (k + 1) p) := by
  have h := Mli_isSingle k
  unfold f143 F143
  repeat' first | with_reducible exact Le.rfl _ | with_reducible exact h _ _ _ _ | with_reducible refine Le.cond ?_ ?_ | with_reducible refine Le.bind ?_ fun _ => ?_
theorem Ri_isSingle (p : List (Int)) : Lim (fun k => f143 k p) (i_isSingle p) := by
  unfold f143 F143 i_isSingle
  repeat' first | with_reducible exact Lim.ret _ | with_reducible exact Rli_isSingle_1002 _ _ _ _ | with_reducible refine Lim.cond ?_ ?_ | with_reducible refine Lim.bind ?_ fun _ => ?_

-- impl.isSmall$1
noncomputable def i_isSmall_1 (c : Int) : Option (Bool) :=
  (i_inside c (-1000) 1000).bind fun r0 =>
  some (!r0)
theorem Mi_isSmall_1 (k : Nat) (c : Int) : Le (f145 k c) (f145 (k + 1) c) := by
  unfold f145
  repeat' first | with_reducible exact Le.rfl _ | with_reducible exact Mi_inside _ _ _ _ | with_reducible refine Le.cond ?_ ?_ | with_reducible refine Le.bind ?_ fun _ => ?_
theorem Ri_isSmall_1 (c : Int) : Lim (fun k => f145 k c) (i_isSmall_1 c) := by
  unfold f145 i_isSmall_1
  repeat' first | with_reducible exact Lim.ret _ | with_reducible exact Ri_inside _ _ _ | with_reducible refine Lim.cond ?_ ?_ | with_reducible refine Lim.bind ?_ fun _ => ?_

-- slices.IndexFunc[[]int,int]
theorem MFslices_IndexFunc_int_int_i_isSmall_1_1002 (k : Nat) {r1002 q1002 : List Int → Int → Int → Option (Int)} (h1002 : ∀ (s : List Int) (t7 : Int) (t8 : Int), Le (r1002 s t7 t8) (q1002 s t7 t8)) (s : List Int) (t7 : Int) (t8 : Int) : Le (F174_145_1002 k r1002 s t7 t8) (F174_145_1002 (k + 1) q1002 s t7 t8) := by
  unfold F174_145_1002
  repeat' first | with_reducible exact Le.rfl _ | with_reducible exact Mi_isSmall_1 _ _ | with_reducible exact h1002 _ _ _ | with_reducible refine Le.cond ?_ ?_ | with_reducible refine Le.bind ?_ fun _ => ?_
theorem Mlslices_IndexFunc_int_int_i_isSmall_1 : ∀ k : Nat, ∀ (s : List Int) (t7 : Int) (t8 : Int), Le ((l174_145 k) s t7 t8) ((l174_145 (k + 1)) s t7 t8)
  | 0 => fun s t7 t8 => Le.no _
  | k + 1 => by
    have h := Mlslices_IndexFunc_int_int_i_isSmall_1 k
    exact fun s t7 t8 => MFslices_IndexFunc_int_int_i_isSmall_1_1002 k h s t7 t8
noncomputable def slices_IndexFunc_int_int_i_isSmall_1_1002 (s : List Int) (t7 : Int) (t8 : Int) : Option (Int) := lim fun k => (l174_145 k) s t7 t8
theorem Rlslices_IndexFunc_int_int_i_isSmall_1_1002 (s : List Int) (t7 : Int) (t8 : Int) : Lim (fun k => (l174_145 k) s t7 t8) (slices_IndexFunc_int_int_i_isSmall_1_1002 s t7 t8) := Lim.of_mono fun k => Mlslices_IndexFunc_int_int_i_isSmall_1 k s t7 t8
theorem Eslices_IndexFunc_int_int_i_isSmall_1_1002 (s : List Int) (t7 : Int) (t8 : Int) : slices_IndexFunc_int_int_i_isSmall_1_1002 s t7 t8 =
  bif decide (t8 < t7) then
    bif boundA t8 (List.length s) then
      (i_isSmall_1 (List.getD s (Int.toNat t8) 0)).bind fun r0 =>
      bif r0 then
        some t8
      else
        slices_IndexFunc_int_int_i_isSmall_1_1002 s t7 (IntKind.wrap IntKind.i64 (t8 + 1))
    else
      none
  else
    some (-1) := by
  refine Lim.uniq (Lim.shift (Rlslices_IndexFunc_int_int_i_isSmall_1_1002 s t7 t8)) (?_ : Lim (fun k => F174_145_1002 k ((l174_145 k)) s t7 t8) _)
  unfold F174_145_1002
  repeat' first | with_reducible exact Lim.ret _ | with_reducible exact Ri_isSmall_1 _ | with_reducible exact Rlslices_IndexFunc_int_int_i_isSmall_1_1002 _ _ _ | with_reducible refine Lim.cond ?_ ?_ | with_reducible refine Lim.bind ?_ fun _ => ?_
noncomputable def slices_IndexFunc_int_int_i_isSmall_1 (s : List (Int)) : Option (Int) :=
  slices_IndexFunc_int_int_i_isSmall_1_1002 s ((↑(List.length s) : Int)) (0)
theorem Mslices_IndexFunc_int_int_i_isSmall_1 (k : Nat) (s : List (Int)) : Le (f174_145 k s) (f174_145 (k + 1) s) := by
  have h := Mlslices_IndexFunc_int_int_i_isSmall_1 k
  unfold f174_145 F174_145
  repeat' first | with_reducible exact Le.rfl _ | with_reducible exact h _ _ _ | with_reducible refine Le.cond ?_ ?_ | with_reducible refine Le.bind ?_ fun _ => ?_
theorem Rslices_IndexFunc_int_int_i_isSmall_1 (s : List (Int)) : Lim (fun k => f174_145 k s) (slices_IndexFunc_int_int_i_isSmall_1 s) := by
  unfold f174_145 F174_145 slices_IndexFunc_int_int_i_isSmall_1
  repeat' first | with_reducible exact Lim.ret _ | with_reducible exact Rlslices_IndexFunc_int_int_i_isSmall_1_1002 _ _ _ | with_reducible refine Lim.cond ?_ ?_ | with_reducible refine Lim.bind ?_ fun _ => ?_

-- slices.ContainsFunc[[]int,int]
noncomputable def slices_ContainsFunc_int_int_i_isSmall_1 (s : List (Int)) : Option (Bool) :=
  (slices_IndexFunc_int_int_i_isSmall_1 s).bind fun r0 =>
  some (decide (0 ≤ r0))
theorem Mslices_ContainsFunc_int_int_i_isSmall_1 (k : Nat) (s : List (Int)) : Le (f144_145 k s) (f144_145 (k + 1) s) := by
  unfold f144_145
  repeat' first | with_reducible exact Le.rfl _ | with_reducible exact Mslices_IndexFunc_int_int_i_isSmall_1 _ _ | with_reducible refine Le.cond ?_ ?_ | with_reducible refine Le.bind ?_ fun _ => ?_
theorem Rslices_ContainsFunc_int_int_i_isSmall_1 (s : List (Int)) : Lim (fun k => f144_145 k s) (slices_ContainsFunc_int_int_i_isSmall_1 s) := by
  unfold f144_145 slices_ContainsFunc_int_int_i_isSmall_1
  repeat' first | with_reducible exact Lim.ret _ | with_reducible exact Rslices_IndexFunc_int_int_i_isSmall_1 _ | with_reducible refine Lim.cond ?_ ?_ | with_reducible refine Lim.bind ?_ fun _ => ?_

-- impl.isSmall
noncomputable def i_isSmall (p : List (Int)) : Option (Bool) :=
  (i_isSingle p).bind fun r0 =>
  bif r0 then
    (i_inside (↑(List.length p) : Int) 1 6).bind fun r1 =>
    bif r1 then
      (slices_ContainsFunc_int_int_i_isSmall_1 p).bind fun r2 =>
      some (!r2)
    else
      some false
  else
    some false
theorem Mi_isSmall (k : Nat) (p : List (Int)) : Le (f109 k p) (f109 (k + 1) p) := by
  unfold f109
  repeat' first | with_reducible exact Le.rfl _ | with_reducible exact Mi_isSingle _ _ | with_reducible exact Mslices_ContainsFunc_int_int_i_isSmall_1 _ _ | with_reducible exact Mi_inside _ _ _ _ | with_reducible refine Le.cond ?_ ?_ | with_reducible refine Le.bind ?_ fun _ => ?_
theorem Ri_isSmall (p : List (Int)) : Lim (fun k => f109 k p) (i_isSmall p) := by
  unfold f109 i_isSmall
  repeat' first | with_reducible exact Lim.ret _ | with_reducible exact Ri_isSingle _ | with_reducible exact Rslices_ContainsFunc_int_int_i_isSmall_1 _ | with_reducible exact Ri_inside _ _ _ | with_reducible refine Lim.cond ?_ ?_ | with_reducible refine Lim.bind ?_ fun _ => ?_

-- impl.isFamily
noncomputable def i_isFamily (p : List (Int)) (q : List (Int)) (fine : Int) : Option (Bool) :=
  (i_isSmall p).bind fun r0 =>
  bif r0 then
    (i_isSmall q).bind fun r1 =>
    bif r1 then
      (i_inside fine 0 4).bind fun r2 =>
      some r2
    else
      some false
  else
    some false
theorem Mi_isFamily (k : Nat) (p : List (Int)) (q : List (Int)) (fine : Int) : Le (f66 k p q fine) (f66 (k + 1) p q fine) := by
  unfold f66
  repeat' first | with_reducible exact Le.rfl _ | with_reducible exact Mi_isSmall _ _ | with_reducible exact Mi_inside _ _ _ _ | with_reducible refine Le.cond ?_ ?_ | with_reducible refine Le.bind ?_ fun _ => ?_
theorem Ri_isFamily (p : List (Int)) (q : List (Int)) (fine : Int) : Lim (fun k => f66 k p q fine) (i_isFamily p q fine) := by
  unfold f66 i_isFamily
  repeat' first | with_reducible exact Lim.ret _ | with_reducible exact Ri_isSmall _ | with_reducible exact Ri_inside _ _ _ | with_reducible refine Lim.cond ?_ ?_ | with_reducible refine Lim.bind ?_ fun _ => ?_

-- impl.isMoment
noncomputable def i_isMoment (i : Int) (fine : Int) : Option (Bool) :=
  bif !decide (fine < 0) then
    (i_inside i 0 (IntKind.wrap IntKind.i64 (1 * 2 ^ min (Int.toNat fine) (IntKind.bits IntKind.i64)))).bind fun r0 =>
    some r0
  else
    none
theorem Mi_isMoment (k : Nat) (i : Int) (fine : Int) : Le (f67 k i fine) (f67 (k + 1) i fine) := by
  unfold f67
  repeat' first | with_reducible exact Le.rfl _ | with_reducible exact Mi_inside _ _ _ _ | with_reducible refine Le.cond ?_ ?_ | with_reducible refine Le.bind ?_ fun _ => ?_
theorem Ri_isMoment (i : Int) (fine : Int) : Lim (fun k => f67 k i fine) (i_isMoment i fine) := by
  unfold f67 i_isMoment
  repeat' first | with_reducible exact Lim.ret _ | with_reducible exact Ri_inside _ _ _ | with_reducible refine Lim.cond ?_ ?_ | with_reducible refine Lim.bind ?_ fun _ => ?_

-- impl.wide).isZero
noncomputable def i_wide_isZero (w_negative : Bool) (w_high : Int) (w_low : Int) : Option (Bool) :=
  bif decide (w_high = 0) then
    some (decide (w_low = 0))
  else
    some false
theorem Mi_wide_isZero (k : Nat) (w_negative : Bool) (w_high : Int) (w_low : Int) : Le (f192 k w_negative w_high w_low) (f192 (k + 1) w_negative w_high w_low) := by
  unfold f192
  repeat' first | with_reducible exact Le.rfl _ | with_reducible refine Le.cond ?_ ?_ | with_reducible refine Le.bind ?_ fun _ => ?_
theorem Ri_wide_isZero (w_negative : Bool) (w_high : Int) (w_low : Int) : Lim (fun k => f192 k w_negative w_high w_low) (i_wide_isZero w_negative w_high w_low) := by
  unfold f192 i_wide_isZero
  repeat' first | with_reducible exact Lim.ret _ | with_reducible refine Lim.cond ?_ ?_ | with_reducible refine Lim.bind ?_ fun _ => ?_

-- cmp.Or[int]
theorem MFcmp_Or_int_1003 (k : Nat) {r1003 q1003 : Int → List Int → Int → Int → Option (Int)} (h1003 : ∀ (zero : Int) (t6 : List Int) (t7 : Int) (t8 : Int), Le (r1003 zero t6 t7 t8) (q1003 zero t6 t7 t8)) (zero : Int) (t6 : List Int) (t7 : Int) (t8 : Int) : Le (F203_1003 k r1003 zero t6 t7 t8) (F203_1003 (k + 1) q1003 zero t6 t7 t8) := by
  unfold F203_1003
  repeat' first | with_reducible exact Le.rfl _ | with_reducible exact h1003 _ _ _ _ | with_reducible refine Le.cond ?_ ?_ | with_reducible refine Le.bind ?_ fun _ => ?_
theorem Mlcmp_Or_int : ∀ k : Nat, ∀ (zero : Int) (t6 : List Int) (t7 : Int) (t8 : Int), Le ((l203 k) zero t6 t7 t8) ((l203 (k + 1)) zero t6 t7 t8)
  | 0 => fun zero t6 t7 t8 => Le.no _
  | k + 1 => by
    have h := Mlcmp_Or_int k
    exact fun zero t6 t7 t8 => MFcmp_Or_int_1003 k h zero t6 t7 t8
noncomputable def cmp_Or_int_1003 (zero : Int) (t6 : List Int) (t7 : Int) (t8 : Int) : Option (Int) := lim fun k => (l203 k) zero t6 t7 t8
theorem Rlcmp_Or_int_1003 (zero : Int) (t6 : List Int) (t7 : Int) (t8 : Int) : Lim (fun k => (l203 k) zero t6 t7 t8) (cmp_Or_int_1003 zero t6 t7 t8) := Lim.of_mono fun k => Mlcmp_Or_int k zero t6 t7 t8
theorem Ecmp_Or_int_1003 (zero : Int) (t6 : List Int) (t7 : Int) (t8 : Int) : cmp_Or_int_1003 zero t6 t7 t8 =
  bif decide (t8 < t7) then
    bif boundA t8 (List.length t6) then
      bif !decide (List.getD t6 (Int.toNat t8) 0 = zero) then
        some (List.getD t6 (Int.toNat t8) 0)
      else
        cmp_Or_int_1003 zero t6 t7 (IntKind.wrap IntKind.i64 (t8 + 1))
    else
      none
  else
    some zero := by
  refine Lim.uniq (Lim.shift (Rlcmp_Or_int_1003 zero t6 t7 t8)) (?_ : Lim (fun k => F203_1003 k ((l203 k)) zero t6 t7 t8) _)
  unfold F203_1003
  repeat' first | with_reducible exact Lim.ret _ | with_reducible exact Rlcmp_Or_int_1003 _ _ _ _ | with_reducible refine Lim.cond ?_ ?_ | with_reducible refine Lim.bind ?_ fun _ => ?_
noncomputable def cmp_Or_int (vals : List (Int)) : Option (Int) :=
  cmp_Or_int_1003 (0) vals ((↑(List.length vals) : Int)) (0)
theorem Mcmp_Or_int (k : Nat) (vals : List (Int)) : Le (f203 k vals) (f203 (k + 1) vals) := by
  have h := Mlcmp_Or_int k
  unfold f203 F203
  repeat' first | with_reducible exact Le.rfl _ | with_reducible exact h _ _ _ _ | with_reducible refine Le.cond ?_ ?_ | with_reducible refine Le.bind ?_ fun _ => ?_
theorem Rcmp_Or_int (vals : List (Int)) : Lim (fun k => f203 k vals) (cmp_Or_int vals) := by
  unfold f203 F203 cmp_Or_int
  repeat' first | with_reducible exact Lim.ret _ | with_reducible exact Rlcmp_Or_int_1003 _ _ _ _ | with_reducible refine Lim.cond ?_ ?_ | with_reducible refine Lim.bind ?_ fun _ => ?_

-- cmp.isNaN[uint64]
noncomputable def cmp_isNaN_uint64 (x : Int) : Option (Bool) :=
  some (!decide (x = x))
theorem Mcmp_isNaN_uint64 (k : Nat) (x : Int) : Le (f208 k x) (f208 (k + 1) x) := by
  unfold f208
  repeat' first | with_reducible exact Le.rfl _ | with_reducible refine Le.cond ?_ ?_ | with_reducible refine Le.bind ?_ fun _ => ?_
theorem Rcmp_isNaN_uint64 (x : Int) : Lim (fun k => f208 k x) (cmp_isNaN_uint64 x) := by
  unfold f208 cmp_isNaN_uint64
  repeat' first | with_reducible exact Lim.ret _ | with_reducible refine Lim.cond ?_ ?_ | with_reducible refine Lim.bind ?_ fun _ => ?_

-- cmp.Compare[uint64]
noncomputable def cmp_Compare_uint64 (x : Int) (y : Int) : Option (Int) :=
  bif !decide (x = x) then
    bif !decide (y = y) then
      some (0)
    else
      some (-1)
  else
    bif !decide (y = y) then
      some (1)
    else
      bif decide (x < y) then
        some (-1)
      else
        bif decide (y < x) then
          some (1)
        else
          some (0)
theorem Mcmp_Compare_uint64 (k : Nat) (x : Int) (y : Int) : Le (f204 k x y) (f204 (k + 1) x y) := by
  unfold f204
  repeat' first | with_reducible exact Le.rfl _ | with_reducible refine Le.cond ?_ ?_ | with_reducible refine Le.bind ?_ fun _ => ?_
theorem Rcmp_Compare_uint64 (x : Int) (y : Int) : Lim (fun k => f204 k x y) (cmp_Compare_uint64 x y) := by
  unfold f204 cmp_Compare_uint64
  repeat' first | with_reducible exact Lim.ret _ | with_reducible refine Lim.cond ?_ ?_ | with_reducible refine Lim.bind ?_ fun _ => ?_

-- impl.compareSizes
noncomputable def i_compareSizes (a_negative : Bool) (a_high : Int) (a_low : Int) (b_negative : Bool) (b_high : Int) (b_low : Int) : Option (Int) :=
  (cmp_Compare_uint64 a_high b_high).bind fun r0 =>
  (cmp_Compare_uint64 a_low b_low).bind fun r1 =>
  (cmp_Or_int [r0, r1]).bind fun r2 =>
  some r2
theorem Mi_compareSizes (k : Nat) (a_negative : Bool) (a_high : Int) (a_low : Int) (b_negative : Bool) (b_high : Int) (b_low : Int) : Le (f193 k a_negative a_high a_low b_negative b_high b_low) (f193 (k + 1) a_negative a_high a_low b_negative b_high b_low) := by
  unfold f193
  repeat' first | with_reducible exact Le.rfl _ | with_reducible exact Mcmp_Or_int _ _ | with_reducible exact Mcmp_Compare_uint64 _ _ _ | with_reducible refine Le.cond ?_ ?_ | with_reducible refine Le.bind ?_ fun _ => ?_
theorem Ri_compareSizes (a_negative : Bool) (a_high : Int) (a_low : Int) (b_negative : Bool) (b_high : Int) (b_low : Int) : Lim (fun k => f193 k a_negative a_high a_low b_negative b_high b_low) (i_compareSizes a_negative a_high a_low b_negative b_high b_low) := by
  unfold f193 i_compareSizes
  repeat' first | with_reducible exact Lim.ret _ | with_reducible exact Rcmp_Or_int _ | with_reducible exact Rcmp_Compare_uint64 _ _ | with_reducible refine Lim.cond ?_ ?_ | with_reducible refine Lim.bind ?_ fun _ => ?_

-- impl.compareWide
noncomputable def i_compareWide (a_negative : Bool) (a_high : Int) (a_low : Int) (b_negative : Bool) (b_high : Int) (b_low : Int) : Option (Int) :=
  (i_wide_isZero a_negative a_high a_low).bind fun r0 =>
  bif r0 then
    (i_wide_isZero b_negative b_high b_low).bind fun r1 =>
    bif r1 then
      some (0)
    else
      bif !a_negative == b_negative then
        bif a_negative then
          some (-1)
        else
          some (1)
      else
        bif a_negative then
          (i_compareSizes b_negative b_high b_low a_negative a_high a_low).bind fun r2 =>
          some r2
        else
          (i_compareSizes a_negative a_high a_low b_negative b_high b_low).bind fun r3 =>
          some r3
  else
    bif !a_negative == b_negative then
      bif a_negative then
        some (-1)
      else
        some (1)
    else
      bif a_negative then
        (i_compareSizes b_negative b_high b_low a_negative a_high a_low).bind fun r4 =>
        some r4
      else
        (i_compareSizes a_negative a_high a_low b_negative b_high b_low).bind fun r5 =>
        some r5
theorem Mi_compareWide (k : Nat) (a_negative : Bool) (a_high : Int) (a_low : Int) (b_negative : Bool) (b_high : Int) (b_low : Int) : Le (f176 k a_negative a_high a_low b_negative b_high b_low) (f176 (k + 1) a_negative a_high a_low b_negative b_high b_low) := by
  unfold f176
  repeat' first | with_reducible exact Le.rfl _ | with_reducible exact Mi_wide_isZero _ _ _ _ | with_reducible exact Mi_compareSizes _ _ _ _ _ _ _ | with_reducible refine Le.cond ?_ ?_ | with_reducible refine Le.bind ?_ fun _ => ?_
theorem Ri_compareWide (a_negative : Bool) (a_high : Int) (a_low : Int) (b_negative : Bool) (b_high : Int) (b_low : Int) : Lim (fun k => f176 k a_negative a_high a_low b_negative b_high b_low) (i_compareWide a_negative a_high a_low b_negative b_high b_low) := by
  unfold f176 i_compareWide
  repeat' first | with_reducible exact Lim.ret _ | with_reducible exact Ri_wide_isZero _ _ _ | with_reducible exact Ri_compareSizes _ _ _ _ _ _ | with_reducible refine Lim.cond ?_ ?_ | with_reducible refine Lim.bind ?_ fun _ => ?_

-- impl.size
noncomputable def i_size (n : Int) : Option (Int) :=
  bif decide (n < 0) then
    some (IntKind.wrap IntKind.u64 (IntKind.wrap IntKind.i64 (0 - n)))
  else
    some (IntKind.wrap IntKind.u64 n)
theorem Mi_size (k : Nat) (n : Int) : Le (f179 k n) (f179 (k + 1) n) := by
  unfold f179
  repeat' first | with_reducible exact Le.rfl _ | with_reducible refine Le.cond ?_ ?_ | with_reducible refine Le.bind ?_ fun _ => ?_
theorem Ri_size (n : Int) : Lim (fun k => f179 k n) (i_size n) := by
  unfold f179 i_size
  repeat' first | with_reducible exact Lim.ret _ | with_reducible refine Lim.cond ?_ ?_ | with_reducible refine Lim.bind ?_ fun _ => ?_

-- impl.wideOf
noncomputable def i_wideOf (n : Int) : Option (Bool × Int × Int) :=
  (i_size n).bind fun r0 =>
  some ((decide (n < 0), 0, r0))
theorem Mi_wideOf (k : Nat) (n : Int) : Le (f177 k n) (f177 (k + 1) n) := by
  unfold f177
  repeat' first | with_reducible exact Le.rfl _ | with_reducible exact Mi_size _ _ | with_reducible refine Le.cond ?_ ?_ | with_reducible refine Le.bind ?_ fun _ => ?_
theorem Ri_wideOf (n : Int) : Lim (fun k => f177 k n) (i_wideOf n) := by
  unfold f177 i_wideOf
  repeat' first | with_reducible exact Lim.ret _ | with_reducible exact Ri_size _ | with_reducible refine Lim.cond ?_ ?_ | with_reducible refine Lim.bind ?_ fun _ => ?_

-- impl.wide).shift
noncomputable def i_wide_shift (w_negative : Bool) (w_high : Int) (w_low : Int) (k_ : Int) : Option (Bool × Int × Int) :=
  bif decide (0 ≤ k_) then
    bif decide (64 ≤ k_) then
      bif !decide (IntKind.wrap IntKind.i64 (k_ - 64) < 0) then
        some ((w_negative, IntKind.wrap IntKind.u64 (w_low * 2 ^ min (Int.toNat (IntKind.wrap IntKind.i64 (k_ - 64))) (IntKind.bits IntKind.u64)), 0))
      else
        none
    else
      bif !decide (k_ < 0) then
        bif !decide (IntKind.wrap IntKind.i64 (64 - k_) < 0) then
          bif !decide (k_ < 0) then
            some ((w_negative, IntKind.wrap IntKind.u64 (↑(BitVec.toNat (BitVec.ofInt (IntKind.bits IntKind.u64) (IntKind.wrap IntKind.u64 (w_high * 2 ^ min (Int.toNat k_) (IntKind.bits IntKind.u64))) ||| BitVec.ofInt (IntKind.bits IntKind.u64) (Int.fdiv w_low (2 ^ min (Int.toNat (IntKind.wrap IntKind.i64 (64 - k_))) (IntKind.bits IntKind.u64))))) : Int), IntKind.wrap IntKind.u64 (w_low * 2 ^ min (Int.toNat k_) (IntKind.bits IntKind.u64))))
          else
            none
        else
          none
      else
        none
  else
    bif decide (64 ≤ IntKind.wrap IntKind.i64 (0 - k_)) then
      bif !decide (IntKind.wrap IntKind.i64 (IntKind.wrap IntKind.i64 (0 - k_) - 64) < 0) then
        some ((w_negative, 0, Int.fdiv w_high (2 ^ min (Int.toNat (IntKind.wrap IntKind.i64 (IntKind.wrap IntKind.i64 (0 - k_) - 64))) (IntKind.bits IntKind.u64))))
      else
        none
    else
      bif !decide (IntKind.wrap IntKind.i64 (0 - k_) < 0) then
        bif !decide (IntKind.wrap IntKind.i64 (0 - k_) < 0) then
          bif !decide (IntKind.wrap IntKind.i64 (64 - IntKind.wrap IntKind.i64 (0 - k_)) < 0) then
            some ((w_negative, Int.fdiv w_high (2 ^ min (Int.toNat (IntKind.wrap IntKind.i64 (0 - k_))) (IntKind.bits IntKind.u64)), IntKind.wrap IntKind.u64 (↑(BitVec.toNat (BitVec.ofInt (IntKind.bits IntKind.u64) (Int.fdiv w_low (2 ^ min (Int.toNat (IntKind.wrap IntKind.i64 (0 - k_))) (IntKind.bits IntKind.u64))) ||| BitVec.ofInt (IntKind.bits IntKind.u64) (IntKind.wrap IntKind.u64 (w_high * 2 ^ min (Int.toNat (IntKind.wrap IntKind.i64 (64 - IntKind.wrap IntKind.i64 (0 - k_)))) (IntKind.bits IntKind.u64))))) : Int)))
          else
            none
        else
          none
      else
        none
theorem Mi_wide_shift (k : Nat) (w_negative : Bool) (w_high : Int) (w_low : Int) (k_ : Int) : Le (f178 k w_negative w_high w_low k_) (f178 (k + 1) w_negative w_high w_low k_) := by
  unfold f178
  repeat' first | with_reducible exact Le.rfl _ | with_reducible refine Le.cond ?_ ?_ | with_reducible refine Le.bind ?_ fun _ => ?_
theorem Ri_wide_shift (w_negative : Bool) (w_high : Int) (w_low : Int) (k_ : Int) : Lim (fun k => f178 k w_negative w_high w_low k_) (i_wide_shift w_negative w_high w_low k_) := by
  unfold f178 i_wide_shift
  repeat' first | with_reducible exact Lim.ret _ | with_reducible refine Lim.cond ?_ ?_ | with_reducible refine Lim.bind ?_ fun _ => ?_

-- impl.compareD
noncomputable def i_compareD (a_N : Int) (a_K : Int) (b_N : Int) (b_K : Int) : Option (Int) :=
  (i_wideOf a_N).bind fun r0 =>
  (i_wide_shift r0.fst r0.snd.fst r0.snd.snd (IntKind.wrap IntKind.i64 ((bif decide (a_K < b_K) then b_K else a_K) - a_K))).bind fun r1 =>
  (i_wideOf b_N).bind fun r2 =>
  (i_wide_shift r2.fst r2.snd.fst r2.snd.snd (IntKind.wrap IntKind.i64 ((bif decide (a_K < b_K) then b_K else a_K) - b_K))).bind fun r3 =>
  (i_compareWide r1.fst r1.snd.fst r1.snd.snd r3.fst r3.snd.fst r3.snd.snd).bind fun r4 =>
  some r4
theorem Mi_compareD (k : Nat) (a_N : Int) (a_K : Int) (b_N : Int) (b_K : Int) : Le (f152 k a_N a_K b_N b_K) (f152 (k + 1) a_N a_K b_N b_K) := by
  unfold f152
  repeat' first | with_reducible exact Le.rfl _ | with_reducible exact Mi_compareWide _ _ _ _ _ _ _ | with_reducible exact Mi_wideOf _ _ | with_reducible exact Mi_wide_shift _ _ _ _ _ | with_reducible refine Le.cond ?_ ?_ | with_reducible refine Le.bind ?_ fun _ => ?_
theorem Ri_compareD (a_N : Int) (a_K : Int) (b_N : Int) (b_K : Int) : Lim (fun k => f152 k a_N a_K b_N b_K) (i_compareD a_N a_K b_N b_K) := by
  unfold f152 i_compareD
  repeat' first | with_reducible exact Lim.ret _ | with_reducible exact Ri_compareWide _ _ _ _ _ _ | with_reducible exact Ri_wideOf _ | with_reducible exact Ri_wide_shift _ _ _ _ | with_reducible refine Lim.cond ?_ ?_ | with_reducible refine Lim.bind ?_ fun _ => ?_

-- impl.integer
noncomputable def i_integer (n : Int) : Option (Int × Int) :=
  some ((n, 0))
theorem Mi_integer (k : Nat) (n : Int) : Le (f153 k n) (f153 (k + 1) n) := by
  unfold f153
  repeat' first | with_reducible exact Le.rfl _ | with_reducible refine Le.cond ?_ ?_ | with_reducible refine Le.bind ?_ fun _ => ?_
theorem Ri_integer (n : Int) : Lim (fun k => f153 k n) (i_integer n) := by
  unfold f153 i_integer
  repeat' first | with_reducible exact Lim.ret _ | with_reducible refine Lim.cond ?_ ?_ | with_reducible refine Lim.bind ?_ fun _ => ?_

-- impl.inRange
noncomputable def i_inRange (a_N : Int) (a_K : Int) : Option (Bool) :=
  (i_compareD (-8) 0 a_N a_K).bind fun r0 =>
  bif decide (r0 ≤ 0) then
    (i_compareD a_N a_K 8 0).bind fun r1 =>
    some (decide (r1 ≤ 0))
  else
    some false
theorem Mi_inRange (k : Nat) (a_N : Int) (a_K : Int) : Le (f121 k a_N a_K) (f121 (k + 1) a_N a_K) := by
  unfold f121
  repeat' first | with_reducible exact Le.rfl _ | with_reducible exact Mi_compareD _ _ _ _ _ | with_reducible refine Le.cond ?_ ?_ | with_reducible refine Le.bind ?_ fun _ => ?_
theorem Ri_inRange (a_N : Int) (a_K : Int) : Lim (fun k => f121 k a_N a_K) (i_inRange a_N a_K) := by
  unfold f121 i_inRange
  repeat' first | with_reducible exact Lim.ret _ | with_reducible exact Ri_compareD _ _ _ _ | with_reducible refine Lim.cond ?_ ?_ | with_reducible refine Lim.bind ?_ fun _ => ?_

-- impl.isPlaces
noncomputable def i_isPlaces (places : Int) : Option (Bool) :=
  (i_inside places 0 24).bind fun r0 =>
  some r0
theorem Mi_isPlaces (k : Nat) (places : Int) : Le (f151 k places) (f151 (k + 1) places) := by
  unfold f151
  repeat' first | with_reducible exact Le.rfl _ | with_reducible exact Mi_inside _ _ _ _ | with_reducible refine Le.cond ?_ ?_ | with_reducible refine Le.bind ?_ fun _ => ?_
theorem Ri_isPlaces (places : Int) : Lim (fun k => f151 k places) (i_isPlaces places) := by
  unfold f151 i_isPlaces
  repeat' first | with_reducible exact Lim.ret _ | with_reducible exact Ri_inside _ _ _ | with_reducible refine Lim.cond ?_ ?_ | with_reducible refine Lim.bind ?_ fun _ => ?_

-- impl.isDyadic
noncomputable def i_isDyadic (a_N : Int) (a_K : Int) : Option (Bool) :=
  (i_isPlaces a_K).bind fun r0 =>
  bif r0 then
    (i_inside a_N (-1099511627776) 1099511627776).bind fun r1 =>
    bif r1 then
      bif decide (a_K = 0) then
        some true
      else
        some (!decide (Int.tmod a_N 2 = 0))
    else
      some false
  else
    some false
theorem Mi_isDyadic (k : Nat) (a_N : Int) (a_K : Int) : Le (f120 k a_N a_K) (f120 (k + 1) a_N a_K) := by
  unfold f120
  repeat' first | with_reducible exact Le.rfl _ | with_reducible exact Mi_isPlaces _ _ | with_reducible exact Mi_inside _ _ _ _ | with_reducible refine Le.cond ?_ ?_ | with_reducible refine Le.bind ?_ fun _ => ?_
theorem Ri_isDyadic (a_N : Int) (a_K : Int) : Lim (fun k => f120 k a_N a_K) (i_isDyadic a_N a_K) := by
  unfold f120 i_isDyadic
  repeat' first | with_reducible exact Lim.ret _ | with_reducible exact Ri_isPlaces _ | with_reducible exact Ri_inside _ _ _ | with_reducible refine Lim.cond ?_ ?_ | with_reducible refine Lim.bind ?_ fun _ => ?_

-- impl.isInterval
noncomputable def i_isInterval (i_Low_N : Int) (i_Low_K : Int) (i_High_N : Int) (i_High_K : Int) : Option (Bool) :=
  (i_isDyadic i_Low_N i_Low_K).bind fun r0 =>
  bif r0 then
    (i_isDyadic i_High_N i_High_K).bind fun r1 =>
    bif r1 then
      (i_compareD i_Low_N i_Low_K i_High_N i_High_K).bind fun r2 =>
      some (decide (r2 ≤ 0))
    else
      some false
  else
    some false
theorem Mi_isInterval (k : Nat) (i_Low_N : Int) (i_Low_K : Int) (i_High_N : Int) (i_High_K : Int) : Le (f135 k i_Low_N i_Low_K i_High_N i_High_K) (f135 (k + 1) i_Low_N i_Low_K i_High_N i_High_K) := by
  unfold f135
  repeat' first | with_reducible exact Le.rfl _ | with_reducible exact Mi_isDyadic _ _ _ | with_reducible exact Mi_compareD _ _ _ _ _ | with_reducible refine Le.cond ?_ ?_ | with_reducible refine Le.bind ?_ fun _ => ?_
theorem Ri_isInterval (i_Low_N : Int) (i_Low_K : Int) (i_High_N : Int) (i_High_K : Int) : Lim (fun k => f135 k i_Low_N i_Low_K i_High_N i_High_K) (i_isInterval i_Low_N i_Low_K i_High_N i_High_K) := by
  unfold f135 i_isInterval
  repeat' first | with_reducible exact Lim.ret _ | with_reducible exact Ri_isDyadic _ _ | with_reducible exact Ri_compareD _ _ _ _ | with_reducible refine Lim.cond ?_ ?_ | with_reducible refine Lim.bind ?_ fun _ => ?_

-- impl.isFit
noncomputable def i_isFit (i_Low_N : Int) (i_Low_K : Int) (i_High_N : Int) (i_High_K : Int) : Option (Bool) :=
  (i_isInterval i_Low_N i_Low_K i_High_N i_High_K).bind fun r0 =>
  bif r0 then
    (i_inRange i_Low_N i_Low_K).bind fun r1 =>
    bif r1 then
      (i_inRange i_High_N i_High_K).bind fun r2 =>
      bif r2 then
        bif decide (i_Low_K ≤ 5) then
          bif decide (i_High_K ≤ 5) then
            some (!(decide (i_Low_N = i_High_N) && (decide (i_Low_K = i_High_K) && true)))
          else
            some false
        else
          some false
      else
        some false
    else
      some false
  else
    some false
theorem Mi_isFit (k : Nat) (i_Low_N : Int) (i_Low_K : Int) (i_High_N : Int) (i_High_K : Int) : Le (f98 k i_Low_N i_Low_K i_High_N i_High_K) (f98 (k + 1) i_Low_N i_Low_K i_High_N i_High_K) := by
  unfold f98
  repeat' first | with_reducible exact Le.rfl _ | with_reducible exact Mi_inRange _ _ _ | with_reducible exact Mi_isInterval _ _ _ _ _ | with_reducible refine Le.cond ?_ ?_ | with_reducible refine Le.bind ?_ fun _ => ?_
theorem Ri_isFit (i_Low_N : Int) (i_Low_K : Int) (i_High_N : Int) (i_High_K : Int) : Lim (fun k => f98 k i_Low_N i_Low_K i_High_N i_High_K) (i_isFit i_Low_N i_Low_K i_High_N i_High_K) := by
  unfold f98 i_isFit
  repeat' first | with_reducible exact Lim.ret _ | with_reducible exact Ri_inRange _ _ | with_reducible exact Ri_isInterval _ _ _ _ | with_reducible refine Lim.cond ?_ ?_ | with_reducible refine Lim.bind ?_ fun _ => ?_

-- slices.Clone[[]int,int]
noncomputable def slices_Clone_int_int (s : List (Int)) : Option (List (Int)) :=
  bif decide ((0 + List.length s) * 8 ≤ 140737488355328) then
    some s
  else
    none
theorem Mslices_Clone_int_int (k : Nat) (s : List (Int)) : Le (f170 k s) (f170 (k + 1) s) := by
  unfold f170
  repeat' first | with_reducible exact Le.rfl _ | with_reducible refine Le.cond ?_ ?_ | with_reducible refine Le.bind ?_ fun _ => ?_
theorem Rslices_Clone_int_int (s : List (Int)) : Lim (fun k => f170 k s) (slices_Clone_int_int s) := by
  unfold f170 slices_Clone_int_int
  repeat' first | with_reducible exact Lim.ret _ | with_reducible refine Lim.cond ?_ ?_ | with_reducible refine Lim.bind ?_ fun _ => ?_

-- impl.stripped
theorem MFi_stripped_1001 (k : Nat) {r1001 q1001 : List Int → Option (List (Int))} (h1001 : ∀ (p : List Int), Le (r1001 p) (q1001 p)) (p : List Int) : Le (F146_1001 k r1001 p) (F146_1001 (k + 1) q1001 p) := by
  unfold F146_1001
  repeat' first | with_reducible exact Le.rfl _ | with_reducible exact Mslices_Clone_int_int _ _ | with_reducible exact h1001 _ | with_reducible refine Le.cond ?_ ?_ | with_reducible refine Le.bind ?_ fun _ => ?_
theorem Mli_stripped : ∀ k : Nat, ∀ (p : List Int), Le ((l146 k) p) ((l146 (k + 1)) p)
  | 0 => fun p => Le.no _
  | k + 1 => by
    have h := Mli_stripped k
    exact fun p => MFi_stripped_1001 k h p
noncomputable def i_stripped_1001 (p : List Int) : Option (List (Int)) := lim fun k => (l146 k) p
theorem Rli_stripped_1001 (p : List Int) : Lim (fun k => (l146 k) p) (i_stripped_1001 p) := Lim.of_mono fun k => Mli_stripped k p
theorem Ei_stripped_1001 (p : List Int) : i_stripped_1001 p =
  bif decide (0 < (↑(List.length p) : Int)) then
    bif boundA (IntKind.wrap IntKind.i64 ((↑(List.length p) : Int) - 1)) (List.length p) then
      bif decide (List.getD p (Int.toNat (IntKind.wrap IntKind.i64 ((↑(List.length p) : Int) - 1))) 0 = 0) then
        bif boundE (IntKind.wrap IntKind.i64 ((↑(List.length p) : Int) - 1)) (List.length p) then
          bif decide (0 ≤ 0) && decide (0 ≤ IntKind.wrap IntKind.i64 ((↑(List.length p) : Int) - 1)) then
            i_stripped_1001 (List.drop (Int.toNat 0) (List.take (Int.toNat (IntKind.wrap IntKind.i64 ((↑(List.length p) : Int) - 1))) p))
          else
            none
        else
          none
      else
        (slices_Clone_int_int p).bind fun r0 =>
        some r0
    else
      none
  else
    (slices_Clone_int_int p).bind fun r1 =>
    some r1 := by
  refine Lim.uniq (Lim.shift (Rli_stripped_1001 p)) (?_ : Lim (fun k => F146_1001 k ((l146 k)) p) _)
  unfold F146_1001
  repeat' first | with_reducible exact Lim.ret _ | with_reducible exact Rslices_Clone_int_int _ | with_reducible exact Rli_stripped_1001 _ | with_reducible refine Lim.cond ?_ ?_ | with_reducible refine Lim.bind ?_ fun _ => ?_
noncomputable def i_stripped (p : List (Int)) : Option (List (Int)) :=
  i_stripped_1001 p
theorem Mi_stripped (k : Nat) (p : List (Int)) : Le (f146 k p) (f146 (k + 1) p) := by
  have h := Mli_stripped k
  unfold f146 F146
  repeat' first | with_reducible exact Le.rfl _ | with_reducible exact h _ | with_reducible refine Le.cond ?_ ?_ | with_reducible refine Le.bind ?_ fun _ => ?_
theorem Ri_stripped (p : List (Int)) : Lim (fun k => f146 k p) (i_stripped p) := by
  unfold f146 F146 i_stripped
  repeat' first | with_reducible exact Lim.ret _ | with_reducible exact Rli_stripped_1001 _ | with_reducible refine Lim.cond ?_ ?_ | with_reducible refine Lim.bind ?_ fun _ => ?_

-- impl.addSingle
theorem MFi_addSingle_1003 (k : Nat) {r1003 q1003 : List Int → List Int → List Int → Int → Int → Option (List (Int))} (h1003 : ∀ (p : List Int) (q : List Int) (outs : List Int) (t14 : Int) (t15 : Int), Le (r1003 p q outs t14 t15) (q1003 p q outs t14 t15)) (p : List Int) (q : List Int) (outs : List Int) (t14 : Int) (t15 : Int) : Le (F110_1003 k r1003 p q outs t14 t15) (F110_1003 (k + 1) q1003 p q outs t14 t15) := by
  unfold F110_1003
  repeat' first | with_reducible exact Le.rfl _ | with_reducible exact Mi_stripped _ _ | with_reducible exact h1003 _ _ _ _ _ | with_reducible refine Le.cond ?_ ?_ | with_reducible refine Le.bind ?_ fun _ => ?_
theorem Mli_addSingle : ∀ k : Nat, ∀ (p : List Int) (q : List Int) (outs : List Int) (t14 : Int) (t15 : Int), Le ((l110 k) p q outs t14 t15) ((l110 (k + 1)) p q outs t14 t15)
  | 0 => fun p q outs t14 t15 => Le.no _
  | k + 1 => by
    have h := Mli_addSingle k
    exact fun p q outs t14 t15 => MFi_addSingle_1003 k h p q outs t14 t15
noncomputable def i_addSingle_1003 (p : List Int) (q : List Int) (outs : List Int) (t14 : Int) (t15 : Int) : Option (List (Int)) := lim fun k => (l110 k) p q outs t14 t15
theorem Rli_addSingle_1003 (p : List Int) (q : List Int) (outs : List Int) (t14 : Int) (t15 : Int) : Lim (fun k => (l110 k) p q outs t14 t15) (i_addSingle_1003 p q outs t14 t15) := Lim.of_mono fun k => Mli_addSingle k p q outs t14 t15
theorem Ei_addSingle_1003 (p : List Int) (q : List Int) (outs : List Int) (t14 : Int) (t15 : Int) : i_addSingle_1003 p q outs t14 t15 =
  bif decide (t15 < t14) then
    bif decide (t15 < (↑(List.length p) : Int)) then
      bif boundA t15 (List.length outs) then
        bif Nat.blt (Int.toNat t15) (List.length outs) then
          bif boundA t15 (List.length p) then
            bif boundA t15 (List.length outs) then
              bif Nat.blt (Int.toNat t15) (List.length outs) then
                bif decide (t15 < (↑(List.length q) : Int)) then
                  bif boundA t15 (List.length (List.set outs (Int.toNat t15) (IntKind.wrap IntKind.i64 (List.getD outs (Int.toNat t15) 0 + List.getD p (Int.toNat t15) 0)))) then
                    bif Nat.blt (Int.toNat t15) (List.length (List.set outs (Int.toNat t15) (IntKind.wrap IntKind.i64 (List.getD outs (Int.toNat t15) 0 + List.getD p (Int.toNat t15) 0)))) then
                      bif boundA t15 (List.length q) then
                        bif boundA t15 (List.length (List.set outs (Int.toNat t15) (IntKind.wrap IntKind.i64 (List.getD outs (Int.toNat t15) 0 + List.getD p (Int.toNat t15) 0)))) then
                          bif Nat.blt (Int.toNat t15) (List.length (List.set outs (Int.toNat t15) (IntKind.wrap IntKind.i64 (List.getD outs (Int.toNat t15) 0 + List.getD p (Int.toNat t15) 0)))) then
                            i_addSingle_1003 p q (List.set (List.set outs (Int.toNat t15) (IntKind.wrap IntKind.i64 (List.getD outs (Int.toNat t15) 0 + List.getD p (Int.toNat t15) 0))) (Int.toNat t15) (IntKind.wrap IntKind.i64 (List.getD (List.set outs (Int.toNat t15) (IntKind.wrap IntKind.i64 (List.getD outs (Int.toNat t15) 0 + List.getD p (Int.toNat t15) 0))) (Int.toNat t15) 0 + List.getD q (Int.toNat t15) 0))) t14 (IntKind.wrap IntKind.i64 (t15 + 1))
                          else
                            none
                        else
                          none
                      else
                        none
                    else
                      none
                  else
                    none
                else
                  i_addSingle_1003 p q (List.set outs (Int.toNat t15) (IntKind.wrap IntKind.i64 (List.getD outs (Int.toNat t15) 0 + List.getD p (Int.toNat t15) 0))) t14 (IntKind.wrap IntKind.i64 (t15 + 1))
              else
                none
            else
              none
          else
            none
        else
          none
      else
        none
    else
      bif decide (t15 < (↑(List.length q) : Int)) then
        bif boundA t15 (List.length outs) then
          bif Nat.blt (Int.toNat t15) (List.length outs) then
            bif boundA t15 (List.length q) then
              bif boundA t15 (List.length outs) then
                bif Nat.blt (Int.toNat t15) (List.length outs) then
                  i_addSingle_1003 p q (List.set outs (Int.toNat t15) (IntKind.wrap IntKind.i64 (List.getD outs (Int.toNat t15) 0 + List.getD q (Int.toNat t15) 0))) t14 (IntKind.wrap IntKind.i64 (t15 + 1))
                else
                  none
              else
                none
            else
              none
          else
            none
        else
          none
      else
        i_addSingle_1003 p q outs t14 (IntKind.wrap IntKind.i64 (t15 + 1))
  else
    (i_stripped outs).bind fun r0 =>
    some r0 := by
  refine Lim.uniq (Lim.shift (Rli_addSingle_1003 p q outs t14 t15)) (?_ : Lim (fun k => F110_1003 k ((l110 k)) p q outs t14 t15) _)
  unfold F110_1003
  repeat' first | with_reducible exact Lim.ret _ | with_reducible exact Ri_stripped _ | with_reducible exact Rli_addSingle_1003 _ _ _ _ _ | with_reducible refine Lim.cond ?_ ?_ | with_reducible refine Lim.bind ?_ fun _ => ?_
noncomputable def i_addSingle (p : List (Int)) (q : List (Int)) : Option (List (Int)) :=
  bif decide (0 ≤ bif decide ((↑(List.length p) : Int) < (↑(List.length q) : Int)) then (↑(List.length q) : Int) else (↑(List.length p) : Int)) then
    bif decide ((bif decide ((↑(List.length p) : Int) < (↑(List.length q) : Int)) then (↑(List.length q) : Int) else (↑(List.length p) : Int)) ≤ bif decide ((↑(List.length p) : Int) < (↑(List.length q) : Int)) then (↑(List.length q) : Int) else (↑(List.length p) : Int)) then
      bif decide ((bif decide ((↑(List.length p) : Int) < (↑(List.length q) : Int)) then (↑(List.length q) : Int) else (↑(List.length p) : Int)) * (↑8 : Int) ≤ 140737488355328) then
        i_addSingle_1003 p q (List.replicate (Int.toNat (bif decide ((↑(List.length p) : Int) < (↑(List.length q) : Int)) then (↑(List.length q) : Int) else (↑(List.length p) : Int))) (dflt (Ty.int IntKind.i64))) ((↑(List.length (List.replicate (Int.toNat (bif decide ((↑(List.length p) : Int) < (↑(List.length q) : Int)) then (↑(List.length q) : Int) else (↑(List.length p) : Int))) (dflt (Ty.int IntKind.i64)))) : Int)) (0)
      else
        none
    else
      none
  else
    none
theorem Mi_addSingle (k : Nat) (p : List (Int)) (q : List (Int)) : Le (f110 k p q) (f110 (k + 1) p q) := by
  have h := Mli_addSingle k
  unfold f110 F110
  repeat' first | with_reducible exact Le.rfl _ | with_reducible exact h _ _ _ _ _ | with_reducible refine Le.cond ?_ ?_ | with_reducible refine Le.bind ?_ fun _ => ?_
theorem Ri_addSingle (p : List (Int)) (q : List (Int)) : Lim (fun k => f110 k p q) (i_addSingle p q) := by
  unfold f110 F110 i_addSingle
  repeat' first | with_reducible exact Lim.ret _ | with_reducible exact Rli_addSingle_1003 _ _ _ _ _ | with_reducible refine Lim.cond ?_ ?_ | with_reducible refine Lim.bind ?_ fun _ => ?_

-- impl.multiplySingle
theorem MFi_multiplySingle_1003 (k : Nat) {r1003 q1003 : List Int → List Int → List Int → Int → Int → Option (List (Int))} (h1003 : ∀ (q : List Int) (outs : List Int) (t16 : List Int) (t17 : Int) (t18 : Int), Le (r1003 q outs t16 t17 t18) (q1003 q outs t16 t17 t18)) {r1006 q1006 : List Int → List Int → Int → Int → List Int → Int → Int → List Int → Int → Int → Option (List (Int))} (h1006 : ∀ (q : List Int) (outs : List Int) (i : Int) (a : Int) (t16 : List Int) (t17 : Int) (t18 : Int) (t23 : List Int) (t24 : Int) (t25 : Int), Le (r1006 q outs i a t16 t17 t18 t23 t24 t25) (q1006 q outs i a t16 t17 t18 t23 t24 t25)) (q : List Int) (outs : List Int) (t16 : List Int) (t17 : Int) (t18 : Int) : Le (F111_1003 k r1003 r1006 q outs t16 t17 t18) (F111_1003 (k + 1) q1003 q1006 q outs t16 t17 t18) := by
  unfold F111_1003
  repeat' first | with_reducible exact Le.rfl _ | with_reducible exact Mi_stripped _ _ | with_reducible exact h1003 _ _ _ _ _ | with_reducible exact h1006 _ _ _ _ _ _ _ _ _ _ | with_reducible refine Le.cond ?_ ?_ | with_reducible refine Le.bind ?_ fun _ => ?_
theorem MFi_multiplySingle_1006 (k : Nat) {r1003 q1003 : List Int → List Int → List Int → Int → Int → Option (List (Int))} (h1003 : ∀ (q : List Int) (outs : List Int) (t16 : List Int) (t17 : Int) (t18 : Int), Le (r1003 q outs t16 t17 t18) (q1003 q outs t16 t17 t18)) {r1006 q1006 : List Int → List Int → Int → Int → List Int → Int → Int → List Int → Int → Int → Option (List (Int))} (h1006 : ∀ (q : List Int) (outs : List Int) (i : Int) (a : Int) (t16 : List Int) (t17 : Int) (t18 : Int) (t23 : List Int) (t24 : Int) (t25 : Int), Le (r1006 q outs i a t16 t17 t18 t23 t24 t25) (q1006 q outs i a t16 t17 t18 t23 t24 t25)) (q : List Int) (outs : List Int) (i : Int) (a : Int) (t16 : List Int) (t17 : Int) (t18 : Int) (t23 : List Int) (t24 : Int) (t25 : Int) : Le (F111_1006 k r1003 r1006 q outs i a t16 t17 t18 t23 t24 t25) (F111_1006 (k + 1) q1003 q1006 q outs i a t16 t17 t18 t23 t24 t25) := by
  unfold F111_1006
  repeat' first | with_reducible exact Le.rfl _ | with_reducible exact h1003 _ _ _ _ _ | with_reducible exact h1006 _ _ _ _ _ _ _ _ _ _ | with_reducible refine Le.cond ?_ ?_ | with_reducible refine Le.bind ?_ fun _ => ?_
theorem Mli_multiplySingle : ∀ k : Nat, (∀ (q : List Int) (outs : List Int) (t16 : List Int) (t17 : Int) (t18 : Int), Le ((l111 k).1 q outs t16 t17 t18) ((l111 (k + 1)).1 q outs t16 t17 t18)) ∧ (∀ (q : List Int) (outs : List Int) (i : Int) (a : Int) (t16 : List Int) (t17 : Int) (t18 : Int) (t23 : List Int) (t24 : Int) (t25 : Int), Le ((l111 k).2 q outs i a t16 t17 t18 t23 t24 t25) ((l111 (k + 1)).2 q outs i a t16 t17 t18 t23 t24 t25))
  | 0 => ⟨fun q outs t16 t17 t18 => Le.no _, fun q outs i a t16 t17 t18 t23 t24 t25 => Le.no _⟩
  | k + 1 => by
    have h := Mli_multiplySingle k
    exact ⟨fun q outs t16 t17 t18 => MFi_multiplySingle_1003 k h.1 h.2 q outs t16 t17 t18, fun q outs i a t16 t17 t18 t23 t24 t25 => MFi_multiplySingle_1006 k h.1 h.2 q outs i a t16 t17 t18 t23 t24 t25⟩
noncomputable def i_multiplySingle_1003 (q : List Int) (outs : List Int) (t16 : List Int) (t17 : Int) (t18 : Int) : Option (List (Int)) := lim fun k => (l111 k).1 q outs t16 t17 t18
theorem Rli_multiplySingle_1003 (q : List Int) (outs : List Int) (t16 : List Int) (t17 : Int) (t18 : Int) : Lim (fun k => (l111 k).1 q outs t16 t17 t18) (i_multiplySingle_1003 q outs t16 t17 t18) := Lim.of_mono fun k => (Mli_multiplySingle k).1 q outs t16 t17 t18
noncomputable def i_multiplySingle_1006 (q : List Int) (outs : List Int) (i : Int) (a : Int) (t16 : List Int) (t17 : Int) (t18 : Int) (t23 : List Int) (t24 : Int) (t25 : Int) : Option (List (Int)) := lim fun k => (l111 k).2 q outs i a t16 t17 t18 t23 t24 t25
theorem Rli_multiplySingle_1006 (q : List Int) (outs : List Int) (i : Int) (a : Int) (t16 : List Int) (t17 : Int) (t18 : Int) (t23 : List Int) (t24 : Int) (t25 : Int) : Lim (fun k => (l111 k).2 q outs i a t16 t17 t18 t23 t24 t25) (i_multiplySingle_1006 q outs i a t16 t17 t18 t23 t24 t25) := Lim.of_mono fun k => (Mli_multiplySingle k).2 q outs i a t16 t17 t18 t23 t24 t25
theorem Ei_multiplySingle_1003 (q : List Int) (outs : List Int) (t16 : List Int) (t17 : Int) (t18 : Int) : i_multiplySingle_1003 q outs t16 t17 t18 =
  bif decide (t18 < t17) then
    bif boundA t18 (List.length t16) then
      i_multiplySingle_1006 q outs t18 (List.getD t16 (Int.toNat t18) 0) t16 t17 t18 q ((↑(List.length q) : Int)) (0)
    else
      none
  else
    (i_stripped outs).bind fun r0 =>
    some r0 := by
  refine Lim.uniq (Lim.shift (Rli_multiplySingle_1003 q outs t16 t17 t18)) (?_ : Lim (fun k => F111_1003 k ((l111 k).1) ((l111 k).2) q outs t16 t17 t18) _)
  unfold F111_1003
  repeat' first | with_reducible exact Lim.ret _ | with_reducible exact Ri_stripped _ | with_reducible exact Rli_multiplySingle_1003 _ _ _ _ _ | with_reducible exact Rli_multiplySingle_1006 _ _ _ _ _ _ _ _ _ _ | with_reducible refine Lim.cond ?_ ?_ | with_reducible refine Lim.bind ?_ fun _ => ?_
theorem Ei_multiplySingle_1006 (q : List Int) (outs : List Int) (i : Int) (a : Int) (t16 : List Int) (t17 : Int) (t18 : Int) (t23 : List Int) (t24 : Int) (t25 : Int) : i_multiplySingle_1006 q outs i a t16 t17 t18 t23 t24 t25 =
  bif decide (t25 < t24) then
    bif boundA t25 (List.length t23) then
      bif boundA (IntKind.wrap IntKind.i64 (i + t25)) (List.length outs) then
        bif Nat.blt (Int.toNat (IntKind.wrap IntKind.i64 (i + t25))) (List.length outs) then
          bif boundA (IntKind.wrap IntKind.i64 (i + t25)) (List.length outs) then
            bif Nat.blt (Int.toNat (IntKind.wrap IntKind.i64 (i + t25))) (List.length outs) then
              i_multiplySingle_1006 q (List.set outs (Int.toNat (IntKind.wrap IntKind.i64 (i + t25))) (IntKind.wrap IntKind.i64 (List.getD outs (Int.toNat (IntKind.wrap IntKind.i64 (i + t25))) 0 + IntKind.wrap IntKind.i64 (a * List.getD t23 (Int.toNat t25) 0)))) i a t16 t17 t18 t23 t24 (IntKind.wrap IntKind.i64 (t25 + 1))
            else
              none
          else
            none
        else
          none
      else
        none
    else
      none
  else
    i_multiplySingle_1003 q outs t16 t17 (IntKind.wrap IntKind.i64 (t18 + 1)) := by
  refine Lim.uniq (Lim.shift (Rli_multiplySingle_1006 q outs i a t16 t17 t18 t23 t24 t25)) (?_ : Lim (fun k => F111_1006 k ((l111 k).1) ((l111 k).2) q outs i a t16 t17 t18 t23 t24 t25) _)
  unfold F111_1006
  repeat' first | with_reducible exact Lim.ret _ | with_reducible exact Rli_multiplySingle_1003 _ _ _ _ _ | with_reducible exact Rli_multiplySingle_1006 _ _ _ _ _ _ _ _ _ _ | with_reducible refine Lim.cond ?_ ?_ | with_reducible refine Lim.bind ?_ fun _ => ?_
noncomputable def i_multiplySingle (p : List (Int)) (q : List (Int)) : Option (List (Int)) :=
  bif decide (0 ≤ IntKind.wrap IntKind.i64 ((↑(List.length p) : Int) + (↑(List.length q) : Int))) then
    bif decide (IntKind.wrap IntKind.i64 ((↑(List.length p) : Int) + (↑(List.length q) : Int)) ≤ IntKind.wrap IntKind.i64 ((↑(List.length p) : Int) + (↑(List.length q) : Int))) then
      bif decide (IntKind.wrap IntKind.i64 ((↑(List.length p) : Int) + (↑(List.length q) : Int)) * (↑8 : Int) ≤ 140737488355328) then
        i_multiplySingle_1003 q (List.replicate (Int.toNat (IntKind.wrap IntKind.i64 ((↑(List.length p) : Int) + (↑(List.length q) : Int)))) (dflt (Ty.int IntKind.i64))) p ((↑(List.length p) : Int)) (0)
      else
        none
    else
      none
  else
    none
theorem Mi_multiplySingle (k : Nat) (p : List (Int)) (q : List (Int)) : Le (f111 k p q) (f111 (k + 1) p q) := by
  have h := Mli_multiplySingle k
  unfold f111 F111
  repeat' first | with_reducible exact Le.rfl _ | with_reducible exact h.1 _ _ _ _ _ | with_reducible exact h.2 _ _ _ _ _ _ _ _ _ _ | with_reducible refine Le.cond ?_ ?_ | with_reducible refine Le.bind ?_ fun _ => ?_
theorem Ri_multiplySingle (p : List (Int)) (q : List (Int)) : Lim (fun k => f111 k p q) (i_multiplySingle p q) := by
  unfold f111 F111 i_multiplySingle
  repeat' first | with_reducible exact Lim.ret _ | with_reducible exact Rli_multiplySingle_1003 _ _ _ _ _ | with_reducible exact Rli_multiplySingle_1006 _ _ _ _ _ _ _ _ _ _ | with_reducible refine Lim.cond ?_ ?_ | with_reducible refine Lim.bind ?_ fun _ => ?_

-- impl.familyAt
noncomputable def i_familyAt (p : List (Int)) (q : List (Int)) (i : Int) (fine : Int) : Option (List (Int)) :=
  bif !decide (fine < 0) then
    (i_multiplySingle p [IntKind.wrap IntKind.i64 (1 * 2 ^ min (Int.toNat fine) (IntKind.bits IntKind.i64))]).bind fun r0 =>
    (i_multiplySingle q [i]).bind fun r1 =>
    (i_addSingle r0 r1).bind fun r2 =>
    some r2
  else
    none
theorem Mi_familyAt (k : Nat) (p : List (Int)) (q : List (Int)) (i : Int) (fine : Int) : Le (f68 k p q i fine) (f68 (k + 1) p q i fine) := by
  unfold f68
  repeat' first | with_reducible exact Le.rfl _ | with_reducible exact Mi_addSingle _ _ _ | with_reducible exact Mi_multiplySingle _ _ _ | with_reducible refine Le.cond ?_ ?_ | with_reducible refine Le.bind ?_ fun _ => ?_
theorem Ri_familyAt (p : List (Int)) (q : List (Int)) (i : Int) (fine : Int) : Lim (fun k => f68 k p q i fine) (i_familyAt p q i fine) := by
  unfold f68 i_familyAt
  repeat' first | with_reducible exact Lim.ret _ | with_reducible exact Ri_addSingle _ _ | with_reducible exact Ri_multiplySingle _ _ | with_reducible refine Lim.cond ?_ ?_ | with_reducible refine Lim.bind ?_ fun _ => ?_

-- impl.deriveSingle
theorem MFi_deriveSingle_1003 (k : Nat) {r1003 q1003 : List Int → List Int → Int → Option (List (Int))} (h1003 : ∀ (p : List Int) (outs : List Int) (i : Int), Le (r1003 p outs i) (q1003 p outs i)) (p : List Int) (outs : List Int) (i : Int) : Le (F136_1003 k r1003 p outs i) (F136_1003 (k + 1) q1003 p outs i) := by
  unfold F136_1003
  repeat' first | with_reducible exact Le.rfl _ | with_reducible exact Mi_stripped _ _ | with_reducible exact h1003 _ _ _ | with_reducible refine Le.cond ?_ ?_ | with_reducible refine Le.bind ?_ fun _ => ?_
theorem Mli_deriveSingle : ∀ k : Nat, ∀ (p : List Int) (outs : List Int) (i : Int), Le ((l136 k) p outs i) ((l136 (k + 1)) p outs i)
  | 0 => fun p outs i => Le.no _
  | k + 1 => by
    have h := Mli_deriveSingle k
    exact fun p outs i => MFi_deriveSingle_1003 k h p outs i
noncomputable def i_deriveSingle_1003 (p : List Int) (outs : List Int) (i : Int) : Option (List (Int)) := lim fun k => (l136 k) p outs i
theorem Rli_deriveSingle_1003 (p : List Int) (outs : List Int) (i : Int) : Lim (fun k => (l136 k) p outs i) (i_deriveSingle_1003 p outs i) := Lim.of_mono fun k => Mli_deriveSingle k p outs i
theorem Ei_deriveSingle_1003 (p : List Int) (outs : List Int) (i : Int) : i_deriveSingle_1003 p outs i =
  bif decide (i < (↑(List.length p) : Int)) then
    bif boundA i (List.length p) then
      bif decide ((List.length outs + List.length [IntKind.wrap IntKind.i64 (i * List.getD p (Int.toNat i) 0)]) * 8 ≤ 140737488355328) then
        i_deriveSingle_1003 p (outs ++ [IntKind.wrap IntKind.i64 (i * List.getD p (Int.toNat i) 0)]) (IntKind.wrap IntKind.i64 (i + 1))
      else
        none
    else
      none
  else
    (i_stripped outs).bind fun r0 =>
    some r0 := by
  refine Lim.uniq (Lim.shift (Rli_deriveSingle_1003 p outs i)) (?_ : Lim (fun k => F136_1003 k ((l136 k)) p outs i) _)
  unfold F136_1003
  repeat' first | with_reducible exact Lim.ret _ | with_reducible exact Ri_stripped _ | with_reducible exact Rli_deriveSingle_1003 _ _ _ | with_reducible refine Lim.cond ?_ ?_ | with_reducible refine Lim.bind ?_ fun _ => ?_
noncomputable def i_deriveSingle (p : List (Int)) : Option (List (Int)) :=
  i_deriveSingle_1003 p ([]) (1)
theorem Mi_deriveSingle (k : Nat) (p : List (Int)) : Le (f136 k p) (f136 (k + 1) p) := by
  have h := Mli_deriveSingle k
  unfold f136 F136
  repeat' first | with_reducible exact Le.rfl _ | with_reducible exact h _ _ _ | with_reducible refine Le.cond ?_ ?_ | with_reducible refine Le.bind ?_ fun _ => ?_
theorem Ri_deriveSingle (p : List (Int)) : Lim (fun k => f136 k p) (i_deriveSingle p) := by
  unfold f136 F136 i_deriveSingle
  repeat' first | with_reducible exact Lim.ret _ | with_reducible exact Rli_deriveSingle_1003 _ _ _ | with_reducible refine Lim.cond ?_ ?_ | with_reducible refine Lim.bind ?_ fun _ => ?_

-- impl.powerSingle
theorem MFi_powerSingle_1003 (k : Nat) {r1003 q1003 : List Int → List Int → Int → Int → Option (List (Int))} (h1003 : ∀ (p : List Int) (outs : List Int) (t7 : Int) (t8 : Int), Le (r1003 p outs t7 t8) (q1003 p outs t7 t8)) (p : List Int) (outs : List Int) (t7 : Int) (t8 : Int) : Le (F164_1003 k r1003 p outs t7 t8) (F164_1003 (k + 1) q1003 p outs t7 t8) := by
  unfold F164_1003
  repeat' first | with_reducible exact Le.rfl _ | with_reducible exact Mi_multiplySingle _ _ _ | with_reducible exact h1003 _ _ _ _ | with_reducible refine Le.cond ?_ ?_ | with_reducible refine Le.bind ?_ fun _ => ?_
theorem Mli_powerSingle : ∀ k : Nat, ∀ (p : List Int) (outs : List Int) (t7 : Int) (t8 : Int), Le ((l164 k) p outs t7 t8) ((l164 (k + 1)) p outs t7 t8)
  | 0 => fun p outs t7 t8 => Le.no _
  | k + 1 => by
    have h := Mli_powerSingle k
    exact fun p outs t7 t8 => MFi_powerSingle_1003 k h p outs t7 t8
noncomputable def i_powerSingle_1003 (p : List Int) (outs : List Int) (t7 : Int) (t8 : Int) : Option (List (Int)) := lim fun k => (l164 k) p outs t7 t8
theorem Rli_powerSingle_1003 (p : List Int) (outs : List Int) (t7 : Int) (t8 : Int) : Lim (fun k => (l164 k) p outs t7 t8) (i_powerSingle_1003 p outs t7 t8) := Lim.of_mono fun k => Mli_powerSingle k p outs t7 t8
theorem Ei_powerSingle_1003 (p : List Int) (outs : List Int) (t7 : Int) (t8 : Int) : i_powerSingle_1003 p outs t7 t8 =
  bif decide (t8 < t7) then
    (i_multiplySingle outs p).bind fun r0 =>
    i_powerSingle_1003 p r0 t7 (IntKind.wrap IntKind.i64 (t8 + 1))
  else
    some outs := by
  refine Lim.uniq (Lim.shift (Rli_powerSingle_1003 p outs t7 t8)) (?_ : Lim (fun k => F164_1003 k ((l164 k)) p outs t7 t8) _)
  unfold F164_1003
  repeat' first | with_reducible exact Lim.ret _ | with_reducible exact Ri_multiplySingle _ _ | with_reducible exact Rli_powerSingle_1003 _ _ _ _ | with_reducible refine Lim.cond ?_ ?_ | with_reducible refine Lim.bind ?_ fun _ => ?_
noncomputable def i_powerSingle (p : List (Int)) (n : Int) : Option (List (Int)) :=
  i_powerSingle_1003 p ([1]) n (0)
theorem Mi_powerSingle (k : Nat) (p : List (Int)) (n : Int) : Le (f164 k p n) (f164 (k + 1) p n) := by
  have h := Mli_powerSingle k
  unfold f164 F164
  repeat' first | with_reducible exact Le.rfl _ | with_reducible exact h _ _ _ _ | with_reducible refine Le.cond ?_ ?_ | with_reducible refine Le.bind ?_ fun _ => ?_
theorem Ri_powerSingle (p : List (Int)) (n : Int) : Lim (fun k => f164 k p n) (i_powerSingle p n) := by
  unfold f164 F164 i_powerSingle
  repeat' first | with_reducible exact Lim.ret _ | with_reducible exact Rli_powerSingle_1003 _ _ _ _ | with_reducible refine Lim.cond ?_ ?_ | with_reducible refine Lim.bind ?_ fun _ => ?_

-- impl.overInterval
theorem MFi_overInterval_1005 (k : Nat) {r1005 q1005 : List Int → Int → Int → Int → List Int → List Int → Int → Int → Option (List (Int))} (h1005 : ∀ (L : List Int) (o : Int) (A : Int) (r : Int) (r_9s : List Int) (t40 : List Int) (t41 : Int) (t42 : Int), Le (r1005 L o A r r_9s t40 t41 t42) (q1005 L o A r r_9s t40 t41 t42)) {r1010 q1010 : List Int → List Int → Option (List (Int))} (h1010 : ∀ (L : List Int) (rs : List Int), Le (r1010 L rs) (q1010 L rs)) (L : List Int) (o : Int) (A : Int) (r : Int) (r_9s : List Int) (t40 : List Int) (t41 : Int) (t42 : Int) : Le (F137_1005 k r1005 r1010 L o A r r_9s t40 t41 t42) (F137_1005 (k + 1) q1005 q1010 L o A r r_9s t40 t41 t42) := by
  unfold F137_1005
  repeat' first | with_reducible exact Le.rfl _ | with_reducible exact Mi_addSingle _ _ _ | with_reducible exact Mi_multiplySingle _ _ _ | with_reducible exact Mi_powerSingle _ _ _ | with_reducible exact h1005 _ _ _ _ _ _ _ _ | with_reducible exact h1010 _ _ | with_reducible refine Le.cond ?_ ?_ | with_reducible refine Le.bind ?_ fun _ => ?_
theorem MFi_overInterval_1010 (k : Nat) {r1005 q1005 : List Int → Int → Int → Int → List Int → List Int → Int → Int → Option (List (Int))} (h1005 : ∀ (L : List Int) (o : Int) (A : Int) (r : Int) (r_9s : List Int) (t40 : List Int) (t41 : Int) (t42 : Int), Le (r1005 L o A r r_9s t40 t41 t42) (q1005 L o A r r_9s t40 t41 t42)) {r1010 q1010 : List Int → List Int → Option (List (Int))} (h1010 : ∀ (L : List Int) (rs : List Int), Le (r1010 L rs) (q1010 L rs)) (L : List Int) (rs : List Int) : Le (F137_1010 k r1005 r1010 L rs) (F137_1010 (k + 1) q1005 q1010 L rs) := by
  unfold F137_1010
  repeat' first | with_reducible exact Le.rfl _ | with_reducible exact h1005 _ _ _ _ _ _ _ _ | with_reducible exact h1010 _ _ | with_reducible refine Le.cond ?_ ?_ | with_reducible refine Le.bind ?_ fun _ => ?_
theorem Mli_overInterval : ∀ k : Nat, (∀ (L : List Int) (o : Int) (A : Int) (r : Int) (r_9s : List Int) (t40 : List Int) (t41 : Int) (t42 : Int), Le ((l137 k).1 L o A r r_9s t40 t41 t42) ((l137 (k + 1)).1 L o A r r_9s t40 t41 t42)) ∧ (∀ (L : List Int) (rs : List Int), Le ((l137 k).2 L rs) ((l137 (k + 1)).2 L rs))
  | 0 => ⟨fun L o A r r_9s t40 t41 t42 => Le.no _, fun L rs => Le.no _⟩
  | k + 1 => by
    have h := Mli_overInterval k
    exact ⟨fun L o A r r_9s t40 t41 t42 => MFi_overInterval_1005 k h.1 h.2 L o A r r_9s t40 t41 t42, fun L rs => MFi_overInterval_1010 k h.1 h.2 L rs⟩
noncomputable def i_overInterval_1005 (L : List Int) (o : Int) (A : Int) (r : Int) (r_9s : List Int) (t40 : List Int) (t41 : Int) (t42 : Int) : Option (List (Int)) := lim fun k => (l137 k).1 L o A r r_9s t40 t41 t42
theorem Rli_overInterval_1005 (L : List Int) (o : Int) (A : Int) (r : Int) (r_9s : List Int) (t40 : List Int) (t41 : Int) (t42 : Int) : Lim (fun k => (l137 k).1 L o A r r_9s t40 t41 t42) (i_overInterval_1005 L o A r r_9s t40 t41 t42) := Lim.of_mono fun k => (Mli_overInterval k).1 L o A r r_9s t40 t41 t42
noncomputable def i_overInterval_1010 (L : List Int) (rs : List Int) : Option (List (Int)) := lim fun k => (l137 k).2 L rs
theorem Rli_overInterval_1010 (L : List Int) (rs : List Int) : Lim (fun k => (l137 k).2 L rs) (i_overInterval_1010 L rs) := Lim.of_mono fun k => (Mli_overInterval k).2 L rs
theorem Ei_overInterval_1005 (L : List Int) (o : Int) (A : Int) (r : Int) (r_9s : List Int) (t40 : List Int) (t41 : Int) (t42 : Int) : i_overInterval_1005 L o A r r_9s t40 t41 t42 =
  bif decide (t42 < t41) then
    bif boundA t42 (List.length t40) then
      (i_powerSingle [o, A] t42).bind fun r0 =>
      (i_powerSingle [r, r] (IntKind.wrap IntKind.i64 (IntKind.wrap IntKind.i64 ((↑(List.length L) : Int) - 1) - t42))).bind fun r1 =>
      (i_multiplySingle r0 r1).bind fun r2 =>
      (i_multiplySingle r2 [List.getD t40 (Int.toNat t42) 0]).bind fun r3 =>
      (i_addSingle r_9s r3).bind fun r4 =>
      i_overInterval_1005 L o A r r4 t40 t41 (IntKind.wrap IntKind.i64 (t42 + 1))
    else
      none
  else
    i_overInterval_1010 L r_9s := by
  refine Lim.uniq (Lim.shift (Rli_overInterval_1005 L o A r r_9s t40 t41 t42)) (?_ : Lim (fun k => F137_1005 k ((l137 k).1) ((l137 k).2) L o A r r_9s t40 t41 t42) _)
  unfold F137_1005
  repeat' first | with_reducible exact Lim.ret _ | with_reducible exact Ri_addSingle _ _ | with_reducible exact Ri_multiplySingle _ _ | with_reducible exact Ri_powerSingle _ _ | with_reducible exact Rli_overInterval_1005 _ _ _ _ _ _ _ _ | with_reducible exact Rli_overInterval_1010 _ _ | with_reducible refine Lim.cond ?_ ?_ | with_reducible refine Lim.bind ?_ fun _ => ?_
theorem Ei_overInterval_1010 (L : List Int) (rs : List Int) : i_overInterval_1010 L rs =
  bif decide ((↑(List.length rs) : Int) < (↑(List.length L) : Int)) then
    bif decide ((List.length rs + List.length [0]) * 8 ≤ 140737488355328) then
      i_overInterval_1010 L (rs ++ [0])
    else
      none
  else
    some rs := by
  refine Lim.uniq (Lim.shift (Rli_overInterval_1010 L rs)) (?_ : Lim (fun k => F137_1010 k ((l137 k).1) ((l137 k).2) L rs) _)
  unfold F137_1010
  repeat' first | with_reducible exact Lim.ret _ | with_reducible exact Rli_overInterval_1005 _ _ _ _ _ _ _ _ | with_reducible exact Rli_overInterval_1010 _ _ | with_reducible refine Lim.cond ?_ ?_ | with_reducible refine Lim.bind ?_ fun _ => ?_
noncomputable def i_overInterval (L : List (Int)) (i_Low_N : Int) (i_Low_K : Int) (i_High_N : Int) (i_High_K : Int) : Option (List (Int)) :=
  bif !decide (IntKind.wrap IntKind.i64 ((bif decide (i_Low_K < i_High_K) then i_High_K else i_Low_K) - i_Low_K) < 0) then
    bif !decide (IntKind.wrap IntKind.i64 ((bif decide (i_Low_K < i_High_K) then i_High_K else i_Low_K) - i_High_K) < 0) then
      bif !decide ((bif decide (i_Low_K < i_High_K) then i_High_K else i_Low_K) < 0) then
        i_overInterval_1005 L (IntKind.wrap IntKind.i64 (i_Low_N * 2 ^ min (Int.toNat (IntKind.wrap IntKind.i64 ((bif decide (i_Low_K < i_High_K) then i_High_K else i_Low_K) - i_Low_K))) (IntKind.bits IntKind.i64))) (IntKind.wrap IntKind.i64 (i_High_N * 2 ^ min (Int.toNat (IntKind.wrap IntKind.i64 ((bif decide (i_Low_K < i_High_K) then i_High_K else i_Low_K) - i_High_K))) (IntKind.bits IntKind.i64))) (IntKind.wrap IntKind.i64 (1 * 2 ^ min (Int.toNat (bif decide (i_Low_K < i_High_K) then i_High_K else i_Low_K)) (IntKind.bits IntKind.i64))) ([]) L ((↑(List.length L) : Int)) (0)
      else
        none
    else
      none
  else
    none
theorem Mi_overInterval (k : Nat) (L : List (Int)) (i_Low_N : Int) (i_Low_K : Int) (i_High_N : Int) (i_High_K : Int) : Le (f137 k L i_Low_N i_Low_K i_High_N i_High_K) (f137 (k + 1) L i_Low_N i_Low_K i_High_N i_High_K) := by
  have h := Mli_overInterval k
  unfold f137 F137
  repeat' first | with_reducible exact Le.rfl _ | with_reducible exact h.1 _ _ _ _ _ _ _ _ | with_reducible exact h.2 _ _ | with_reducible refine Le.cond ?_ ?_ | with_reducible refine Le.bind ?_ fun _ => ?_
theorem Ri_overInterval (L : List (Int)) (i_Low_N : Int) (i_Low_K : Int) (i_High_N : Int) (i_High_K : Int) : Lim (fun k => f137 k L i_Low_N i_Low_K i_High_N i_High_K) (i_overInterval L i_Low_N i_Low_K i_High_N i_High_K) := by
  unfold f137 F137 i_overInterval
  repeat' first | with_reducible exact Lim.ret _ | with_reducible exact Rli_overInterval_1005 _ _ _ _ _ _ _ _ | with_reducible exact Rli_overInterval_1010 _ _ | with_reducible refine Lim.cond ?_ ?_ | with_reducible refine Lim.bind ?_ fun _ => ?_

-- slices.Min[[]int,int]
theorem MFslices_Min_int_int_1005 (k : Nat) {r1005 q1005 : List Int → Int → Int → Option (Int)} (h1005 : ∀ (x : List Int) (m : Int) (i : Int), Le (r1005 x m i) (q1005 x m i)) (x : List Int) (m : Int) (i : Int) : Le (F165_1005 k r1005 x m i) (F165_1005 (k + 1) q1005 x m i) := by
  unfold F165_1005
  repeat' first | with_reducible exact Le.rfl _ | with_reducible exact h1005 _ _ _ | with_reducible refine Le.cond ?_ ?_ | with_reducible refine Le.bind ?_ fun _ => ?_
theorem Mlslices_Min_int_int : ∀ k : Nat, ∀ (x : List Int) (m : Int) (i : Int), Le ((l165 k) x m i) ((l165 (k + 1)) x m i)
  | 0 => fun x m i => Le.no _
  | k + 1 => by
    have h := Mlslices_Min_int_int k
    exact fun x m i => MFslices_Min_int_int_1005 k h x m i
noncomputable def slices_Min_int_int_1005 (x : List Int) (m : Int) (i : Int) : Option (Int) := lim fun k => (l165 k) x m i
theorem Rlslices_Min_int_int_1005 (x : List Int) (m : Int) (i : Int) : Lim (fun k => (l165 k) x m i) (slices_Min_int_int_1005 x m i) := Lim.of_mono fun k => Mlslices_Min_int_int k x m i
theorem Eslices_Min_int_int_1005 (x : List Int) (m : Int) (i : Int) : slices_Min_int_int_1005 x m i =
  bif decide (i < (↑(List.length x) : Int)) then
    bif boundA i (List.length x) then
      slices_Min_int_int_1005 x (bif decide (List.getD x (Int.toNat i) 0 < m) then List.getD x (Int.toNat i) 0 else m) (IntKind.wrap IntKind.i64 (i + 1))
    else
      none
  else
    some m := by
  refine Lim.uniq (Lim.shift (Rlslices_Min_int_int_1005 x m i)) (?_ : Lim (fun k => F165_1005 k ((l165 k)) x m i) _)
  unfold F165_1005
  repeat' first | with_reducible exact Lim.ret _ | with_reducible exact Rlslices_Min_int_int_1005 _ _ _ | with_reducible refine Lim.cond ?_ ?_ | with_reducible refine Lim.bind ?_ fun _ => ?_
noncomputable def slices_Min_int_int (x : List (Int)) : Option (Int) :=
  bif decide ((↑(List.length x) : Int) < 1) then
    none
  else
    bif boundA 0 (List.length x) then
      slices_Min_int_int_1005 x (List.getD x (Int.toNat 0) 0) (1)
    else
      none
theorem Mslices_Min_int_int (k : Nat) (x : List (Int)) : Le (f165 k x) (f165 (k + 1) x) := by
  have h := Mlslices_Min_int_int k
  unfold f165 F165
  repeat' first | with_reducible exact Le.rfl _ | with_reducible exact h _ _ _ | with_reducible refine Le.cond ?_ ?_ | with_reducible refine Le.bind ?_ fun _ => ?_
theorem Rslices_Min_int_int (x : List (Int)) : Lim (fun k => f165 k x) (slices_Min_int_int x) := by
  unfold f165 F165 slices_Min_int_int
  repeat' first | with_reducible exact Lim.ret _ | with_reducible exact Rlslices_Min_int_int_1005 _ _ _ | with_reducible refine Lim.cond ?_ ?_ | with_reducible refine Lim.bind ?_ fun _ => ?_

-- slices.Max[[]int,int]
theorem MFslices_Max_int_int_1005 (k : Nat) {r1005 q1005 : List Int → Int → Int → Option (Int)} (h1005 : ∀ (x : List Int) (m : Int) (i : Int), Le (r1005 x m i) (q1005 x m i)) (x : List Int) (m : Int) (i : Int) : Le (F166_1005 k r1005 x m i) (F166_1005 (k + 1) q1005 x m i) := by
  unfold F166_1005
  repeat' first | with_reducible exact Le.rfl _ | with_reducible exact h1005 _ _ _ | with_reducible refine Le.cond ?_ ?_ | with_reducible refine Le.bind ?_ fun _ => ?_
theorem Mlslices_Max_int_int : ∀ k : Nat, ∀ (x : List Int) (m : Int) (i : Int), Le ((l166 k) x m i) ((l166 (k + 1)) x m i)
  | 0 => fun x m i => Le.no _
  | k + 1 => by
    have h := Mlslices_Max_int_int k
    exact fun x m i => MFslices_Max_int_int_1005 k h x m i
noncomputable def slices_Max_int_int_1005 (x : List Int) (m : Int) (i : Int) : Option (Int) := lim fun k => (l166 k) x m i
theorem Rlslices_Max_int_int_1005 (x : List Int) (m : Int) (i : Int) : Lim (fun k => (l166 k) x m i) (slices_Max_int_int_1005 x m i) := Lim.of_mono fun k => Mlslices_Max_int_int k x m i
theorem Eslices_Max_int_int_1005 (x : List Int) (m : Int) (i : Int) : slices_Max_int_int_1005 x m i =
  bif decide (i < (↑(List.length x) : Int)) then
    bif boundA i (List.length x) then
      slices_Max_int_int_1005 x (bif decide (m < List.getD x (Int.toNat i) 0) then List.getD x (Int.toNat i) 0 else m) (IntKind.wrap IntKind.i64 (i + 1))
    else
      none
  else
    some m := by
  refine Lim.uniq (Lim.shift (Rlslices_Max_int_int_1005 x m i)) (?_ : Lim (fun k => F166_1005 k ((l166 k)) x m i) _)
  unfold F166_1005
  repeat' first | with_reducible exact Lim.ret _ | with_reducible exact Rlslices_Max_int_int_1005 _ _ _ | with_reducible refine Lim.cond ?_ ?_ | with_reducible refine Lim.bind ?_ fun _ => ?_
noncomputable def slices_Max_int_int (x : List (Int)) : Option (Int) :=
  bif decide ((↑(List.length x) : Int) < 1) then
    none
  else
    bif boundA 0 (List.length x) then
      slices_Max_int_int_1005 x (List.getD x (Int.toNat 0) 0) (1)
    else
      none
theorem Mslices_Max_int_int (k : Nat) (x : List (Int)) : Le (f166 k x) (f166 (k + 1) x) := by
  have h := Mlslices_Max_int_int k
  unfold f166 F166
  repeat' first | with_reducible exact Le.rfl _ | with_reducible exact h _ _ _ | with_reducible refine Le.cond ?_ ?_ | with_reducible refine Le.bind ?_ fun _ => ?_
theorem Rslices_Max_int_int (x : List (Int)) : Lim (fun k => f166 k x) (slices_Max_int_int x) := by
  unfold f166 F166 slices_Max_int_int
  repeat' first | with_reducible exact Lim.ret _ | with_reducible exact Rlslices_Max_int_int_1005 _ _ _ | with_reducible refine Lim.cond ?_ ?_ | with_reducible refine Lim.bind ?_ fun _ => ?_

-- impl.commonSign
noncomputable def i_commonSign (list : List (Int)) : Option (Int) :=
  (slices_Min_int_int list).bind fun r0 =>
  bif decide (0 < r0) then
    some (1)
  else
    (slices_Max_int_int list).bind fun r1 =>
    bif decide (r1 < 0) then
      some (-1)
    else
      some (0)
theorem Mi_commonSign (k : Nat) (list : List (Int)) : Le (f138 k list) (f138 (k + 1) list) := by
  unfold f138
  repeat' first | with_reducible exact Le.rfl _ | with_reducible exact Mslices_Min_int_int _ _ | with_reducible exact Mslices_Max_int_int _ _ | with_reducible refine Le.cond ?_ ?_ | with_reducible refine Le.bind ?_ fun _ => ?_
theorem Ri_commonSign (list : List (Int)) : Lim (fun k => f138 k list) (i_commonSign list) := by
  unfold f138 i_commonSign
  repeat' first | with_reducible exact Lim.ret _ | with_reducible exact Rslices_Min_int_int _ | with_reducible exact Rslices_Max_int_int _ | with_reducible refine Lim.cond ?_ ?_ | with_reducible refine Lim.bind ?_ fun _ => ?_

-- impl.slopeSign
theorem MFi_slopeSign_1003 (k : Nat) {r1003 q1003 : List Int → List Int → Int → Int → Int → Int → Int → Int → List Int → Int → Option (Int)} (h1003 : ∀ (p : List Int) (q : List Int) (i : Int) (fine : Int) (xs_0 : Int) (xs_1 : Int) (xs_2 : Int) (xs_3 : Int) (alls : List Int) (moment : Int), Le (r1003 p q i fine xs_0 xs_1 xs_2 xs_3 alls moment) (q1003 p q i fine xs_0 xs_1 xs_2 xs_3 alls moment)) {r1006 q1006 : List Int → List Int → Int → Int → Int → Int → Int → Int → List Int → Int → List Int → Option (Int)} (h1006 : ∀ (p : List Int) (q : List Int) (i : Int) (fine : Int) (xs_0 : Int) (xs_1 : Int) (xs_2 : Int) (xs_3 : Int) (alls : List Int) (moment : Int) (ds : List Int), Le (r1006 p q i fine xs_0 xs_1 xs_2 xs_3 alls moment ds) (q1006 p q i fine xs_0 xs_1 xs_2 xs_3 alls moment ds)) (p : List Int) (q : List Int) (i : Int) (fine : Int) (xs_0 : Int) (xs_1 : Int) (xs_2 : Int) (xs_3 : Int) (alls : List Int) (moment : Int) : Le (F99_1003 k r1003 r1006 p q i fine xs_0 xs_1 xs_2 xs_3 alls moment) (F99_1003 (k + 1) q1003 q1006 p q i fine xs_0 xs_1 xs_2 xs_3 alls moment) := by
  unfold F99_1003
  repeat' first | with_reducible exact Le.rfl _ | with_reducible exact Mi_deriveSingle _ _ | with_reducible exact Mi_commonSign _ _ | with_reducible exact Mi_familyAt _ _ _ _ _ | with_reducible exact h1003 _ _ _ _ _ _ _ _ _ _ | with_reducible exact h1006 _ _ _ _ _ _ _ _ _ _ _ | with_reducible refine Le.cond ?_ ?_ | with_reducible refine Le.bind ?_ fun _ => ?_
theorem MFi_slopeSign_1006 (k : Nat) {r1003 q1003 : List Int → List Int → Int → Int → Int → Int → Int → Int → List Int → Int → Option (Int)} (h1003 : ∀ (p : List Int) (q : List Int) (i : Int) (fine : Int) (xs_0 : Int) (xs_1 : Int) (xs_2 : Int) (xs_3 : Int) (alls : List Int) (moment : Int), Le (r1003 p q i fine xs_0 xs_1 xs_2 xs_3 alls moment) (q1003 p q i fine xs_0 xs_1 xs_2 xs_3 alls moment)) {r1006 q1006 : List Int → List Int → Int → Int → Int → Int → Int → Int → List Int → Int → List Int → Option (Int)} (h1006 : ∀ (p : List Int) (q : List Int) (i : Int) (fine : Int) (xs_0 : Int) (xs_1 : Int) (xs_2 : Int) (xs_3 : Int) (alls : List Int) (moment : Int) (ds : List Int), Le (r1006 p q i fine xs_0 xs_1 xs_2 xs_3 alls moment ds) (q1006 p q i fine xs_0 xs_1 xs_2 xs_3 alls moment ds)) (p : List Int) (q : List Int) (i : Int) (fine : Int) (xs_0 : Int) (xs_1 : Int) (xs_2 : Int) (xs_3 : Int) (alls : List Int) (moment : Int) (ds : List Int) : Le (F99_1006 k r1003 r1006 p q i fine xs_0 xs_1 xs_2 xs_3 alls moment ds) (F99_1006 (k + 1) q1003 q1006 p q i fine xs_0 xs_1 xs_2 xs_3 alls moment ds) := by
  unfold F99_1006
  repeat' first | with_reducible exact Le.rfl _ | with_reducible exact Mi_overInterval _ _ _ _ _ _ | with_reducible exact h1003 _ _ _ _ _ _ _ _ _ _ | with_reducible exact h1006 _ _ _ _ _ _ _ _ _ _ _ | with_reducible refine Le.cond ?_ ?_ | with_reducible refine Le.bind ?_ fun _ => ?_
theorem Mli_slopeSign : ∀ k : Nat, (∀ (p : List Int) (q : List Int) (i : Int) (fine : Int) (xs_0 : Int) (xs_1 : Int) (xs_2 : Int) (xs_3 : Int) (alls : List Int) (moment : Int), Le ((l99 k).1 p q i fine xs_0 xs_1 xs_2 xs_3 alls moment) ((l99 (k + 1)).1 p q i fine xs_0 xs_1 xs_2 xs_3 alls moment)) ∧ (∀ (p : List Int) (q : List Int) (i : Int) (fine : Int) (xs_0 : Int) (xs_1 : Int) (xs_2 : Int) (xs_3 : Int) (alls : List Int) (moment : Int) (ds : List Int), Le ((l99 k).2 p q i fine xs_0 xs_1 xs_2 xs_3 alls moment ds) ((l99 (k + 1)).2 p q i fine xs_0 xs_1 xs_2 xs_3 alls moment ds))
  | 0 => ⟨fun p q i fine xs_0 xs_1 xs_2 xs_3 alls moment => Le.no _, fun p q i fine xs_0 xs_1 xs_2 xs_3 alls moment ds => Le.no _⟩
  | k + 1 => by
    have h := Mli_slopeSign k
    exact ⟨fun p q i fine xs_0 xs_1 xs_2 xs_3 alls moment => MFi_slopeSign_1003 k h.1 h.2 p q i fine xs_0 xs_1 xs_2 xs_3 alls moment, fun p q i fine xs_0 xs_1 xs_2 xs_3 alls moment ds => MFi_slopeSign_1006 k h.1 h.2 p q i fine xs_0 xs_1 xs_2 xs_3 alls moment ds⟩
noncomputable def i_slopeSign_1003 (p : List Int) (q : List Int) (i : Int) (fine : Int) (xs_0 : Int) (xs_1 : Int) (xs_2 : Int) (xs_3 : Int) (alls : List Int) (moment : Int) : Option (Int) := lim fun k => (l99 k).1 p q i fine xs_0 xs_1 xs_2 xs_3 alls moment
theorem Rli_slopeSign_1003 (p : List Int) (q : List Int) (i : Int) (fine : Int) (xs_0 : Int) (xs_1 : Int) (xs_2 : Int) (xs_3 : Int) (alls : List Int) (moment : Int) : Lim (fun k => (l99 k).1 p q i fine xs_0 xs_1 xs_2 xs_3 alls moment) (i_slopeSign_1003 p q i fine xs_0 xs_1 xs_2 xs_3 alls moment) := Lim.of_mono fun k => (Mli_slopeSign k).1 p q i fine xs_0 xs_1 xs_2 xs_3 alls moment
noncomputable def i_slopeSign_1006 (p : List Int) (q : List Int) (i : Int) (fine : Int) (xs_0 : Int) (xs_1 : Int) (xs_2 : Int) (xs_3 : Int) (alls : List Int) (moment : Int) (ds : List Int) : Option (Int) := lim fun k => (l99 k).2 p q i fine xs_0 xs_1 xs_2 xs_3 alls moment ds
theorem Rli_slopeSign_1006 (p : List Int) (q : List Int) (i : Int) (fine : Int) (xs_0 : Int) (xs_1 : Int) (xs_2 : Int) (xs_3 : Int) (alls : List Int) (moment : Int) (ds : List Int) : Lim (fun k => (l99 k).2 p q i fine xs_0 xs_1 xs_2 xs_3 alls moment ds) (i_slopeSign_1006 p q i fine xs_0 xs_1 xs_2 xs_3 alls moment ds) := Lim.of_mono fun k => (Mli_slopeSign k).2 p q i fine xs_0 xs_1 xs_2 xs_3 alls moment ds
theorem Ei_slopeSign_1003 (p : List Int) (q : List Int) (i : Int) (fine : Int) (xs_0 : Int) (xs_1 : Int) (xs_2 : Int) (xs_3 : Int) (alls : List Int) (moment : Int) : i_slopeSign_1003 p q i fine xs_0 xs_1 xs_2 xs_3 alls moment =
  bif decide (moment ≤ IntKind.wrap IntKind.i64 (i + 1)) then
    (i_familyAt p q moment fine).bind fun r0 =>
    (i_deriveSingle r0).bind fun r1 =>
    i_slopeSign_1006 p q i fine xs_0 xs_1 xs_2 xs_3 alls moment r1
  else
    (i_commonSign alls).bind fun r2 =>
    some r2 := by
  refine Lim.uniq (Lim.shift (Rli_slopeSign_1003 p q i fine xs_0 xs_1 xs_2 xs_3 alls moment)) (?_ : Lim (fun k => F99_1003 k ((l99 k).1) ((l99 k).2) p q i fine xs_0 xs_1 xs_2 xs_3 alls moment) _)
  unfold F99_1003
  repeat' first | with_reducible exact Lim.ret _ | with_reducible exact Ri_deriveSingle _ | with_reducible exact Ri_commonSign _ | with_reducible exact Ri_familyAt _ _ _ _ | with_reducible exact Rli_slopeSign_1003 _ _ _ _ _ _ _ _ _ _ | with_reducible exact Rli_slopeSign_1006 _ _ _ _ _ _ _ _ _ _ _ | with_reducible refine Lim.cond ?_ ?_ | with_reducible refine Lim.bind ?_ fun _ => ?_
theorem Ei_slopeSign_1006 (p : List Int) (q : List Int) (i : Int) (fine : Int) (xs_0 : Int) (xs_1 : Int) (xs_2 : Int) (xs_3 : Int) (alls : List Int) (moment : Int) (ds : List Int) : i_slopeSign_1006 p q i fine xs_0 xs_1 xs_2 xs_3 alls moment ds =
  bif decide ((↑(List.length ds) : Int) < 5) then
    bif decide ((List.length ds + List.length [0]) * 8 ≤ 140737488355328) then
      i_slopeSign_1006 p q i fine xs_0 xs_1 xs_2 xs_3 alls moment (ds ++ [0])
    else
      none
  else
    (i_overInterval ds xs_0 xs_1 xs_2 xs_3).bind fun r0 =>
    bif decide ((List.length alls + List.length r0) * 8 ≤ 140737488355328) then
      i_slopeSign_1003 p q i fine xs_0 xs_1 xs_2 xs_3 (alls ++ r0) (IntKind.wrap IntKind.i64 (moment + 1))
    else
      none := by
  refine Lim.uniq (Lim.shift (Rli_slopeSign_1006 p q i fine xs_0 xs_1 xs_2 xs_3 alls moment ds)) (?_ : Lim (fun k => F99_1006 k ((l99 k).1) ((l99 k).2) p q i fine xs_0 xs_1 xs_2 xs_3 alls moment ds) _)
  unfold F99_1006
  repeat' first | with_reducible exact Lim.ret _ | with_reducible exact Ri_overInterval _ _ _ _ _ | with_reducible exact Rli_slopeSign_1003 _ _ _ _ _ _ _ _ _ _ | with_reducible exact Rli_slopeSign_1006 _ _ _ _ _ _ _ _ _ _ _ | with_reducible refine Lim.cond ?_ ?_ | with_reducible refine Lim.bind ?_ fun _ => ?_
noncomputable def i_slopeSign (p : List (Int)) (q : List (Int)) (x_Low_N : Int) (x_Low_K : Int) (x_High_N : Int) (x_High_K : Int) (i : Int) (fine : Int) : Option (Int) :=
  i_slopeSign_1003 p q i fine x_Low_N x_Low_K x_High_N x_High_K ([]) i
theorem Mi_slopeSign (k : Nat) (p : List (Int)) (q : List (Int)) (x_Low_N : Int) (x_Low_K : Int) (x_High_N : Int) (x_High_K : Int) (i : Int) (fine : Int) : Le (f99 k p q x_Low_N x_Low_K x_High_N x_High_K i fine) (f99 (k + 1) p q x_Low_N x_Low_K x_High_N x_High_K i fine) := by
  have h := Mli_slopeSign k
  unfold f99 F99
  repeat' first | with_reducible exact Le.rfl _ | with_reducible exact h.1 _ _ _ _ _ _ _ _ _ _ | with_reducible exact h.2 _ _ _ _ _ _ _ _ _ _ _ | with_reducible refine Le.cond ?_ ?_ | with_reducible refine Le.bind ?_ fun _ => ?_
theorem Ri_slopeSign (p : List (Int)) (q : List (Int)) (x_Low_N : Int) (x_Low_K : Int) (x_High_N : Int) (x_High_K : Int) (i : Int) (fine : Int) : Lim (fun k => f99 k p q x_Low_N x_Low_K x_High_N x_High_K i fine) (i_slopeSign p q x_Low_N x_Low_K x_High_N x_High_K i fine) := by
  unfold f99 F99 i_slopeSign
  repeat' first | with_reducible exact Lim.ret _ | with_reducible exact Rli_slopeSign_1003 _ _ _ _ _ _ _ _ _ _ | with_reducible exact Rli_slopeSign_1006 _ _ _ _ _ _ _ _ _ _ _ | with_reducible refine Lim.cond ?_ ?_ | with_reducible refine Lim.bind ?_ fun _ => ?_

-- impl.SlopeSign
noncomputable def i_SlopeSign (p : List (Int)) (q : List (Int)) (x_Low_N : Int) (x_Low_K : Int) (x_High_N : Int) (x_High_K : Int) (i : Int) (fine : Int) : Option (Int × Bool) :=
  (i_isFamily p q fine).bind fun r0 =>
  bif !r0 then
    some ((0, false))
  else
    (i_isFit x_Low_N x_Low_K x_High_N x_High_K).bind fun r1 =>
    bif !r1 then
      some ((0, false))
    else
      (i_isMoment (IntKind.wrap IntKind.i64 (i + 1)) fine).bind fun r2 =>
      bif !r2 then
        some ((0, false))
      else
        bif decide (i < 0) then
          some ((0, false))
        else
          (i_slopeSign p q x_Low_N x_Low_K x_High_N x_High_K i fine).bind fun r3 =>
          some ((r3, true))
theorem Mi_SlopeSign (k : Nat) (p : List (Int)) (q : List (Int)) (x_Low_N : Int) (x_Low_K : Int) (x_High_N : Int) (x_High_K : Int) (i : Int) (fine : Int) : Le (f52 k p q x_Low_N x_Low_K x_High_N x_High_K i fine) (f52 (k + 1) p q x_Low_N x_Low_K x_High_N x_High_K i fine) := by
  unfold f52
  repeat' first | with_reducible exact Le.rfl _ | with_reducible exact Mi_isFamily _ _ _ _ | with_reducible exact Mi_isMoment _ _ _ | with_reducible exact Mi_isFit _ _ _ _ _ | with_reducible exact Mi_slopeSign _ _ _ _ _ _ _ _ _ | with_reducible refine Le.cond ?_ ?_ | with_reducible refine Le.bind ?_ fun _ => ?_
theorem Ri_SlopeSign (p : List (Int)) (q : List (Int)) (x_Low_N : Int) (x_Low_K : Int) (x_High_N : Int) (x_High_K : Int) (i : Int) (fine : Int) : Lim (fun k => f52 k p q x_Low_N x_Low_K x_High_N x_High_K i fine) (i_SlopeSign p q x_Low_N x_Low_K x_High_N x_High_K i fine) := by
  unfold f52 i_SlopeSign
  repeat' first | with_reducible exact Lim.ret _ | with_reducible exact Ri_isFamily _ _ _ | with_reducible exact Ri_isMoment _ _ | with_reducible exact Ri_isFit _ _ _ _ | with_reducible exact Ri_slopeSign _ _ _ _ _ _ _ _ | with_reducible refine Lim.cond ?_ ?_ | with_reducible refine Lim.bind ?_ fun _ => ?_

-- laws.FnExactSlopeSign
noncomputable def w_FnExactSlopeSign (L : List (Int)) (i : List (Int)) (s_Low_N : Int) (s_Low_K : Int) (s_High_N : Int) (s_High_K : Int) (t : Int) (t4 : Int) : Option (Bool) :=
  bif decide (1000000 < IntKind.wrap IntKind.i64 ((↑(List.length L) : Int) + (↑(List.length i) : Int))) then
    some true
  else
    (w_toIntS L false).bind fun r0 =>
    (w_toIntS i false).bind fun r1 =>
    (s_SlopeSign (List.take r0.snd r0.fst) (List.take r1.snd r1.fst) s_Low_N s_Low_K s_High_N s_High_K t t4).bind fun r2 =>
    (w_toIntS L false).bind fun r3 =>
    (w_toIntS i false).bind fun r4 =>
    (i_SlopeSign (List.take r3.snd r3.fst) (List.take r4.snd r4.fst) s_Low_N s_Low_K s_High_N s_High_K t t4).bind fun r5 =>
    bif !decide (r5.fst = r2.fst) then
      some false
    else
      bif !r5.snd == r2.snd then
        some false
      else
        (w_toIntS L false).bind fun r6 =>
        (w_intactIntS r3.fst r3.snd r6.fst r6.snd).bind fun r7 =>
        bif !r7 then
          some false
        else
          (w_toIntS i false).bind fun r8 =>
          (w_intactIntS r4.fst r4.snd r8.fst r8.snd).bind fun r9 =>
          bif !r9 then
            some false
          else
            (w_toIntS L true).bind fun r10 =>
            (w_toIntS i true).bind fun r11 =>
            (i_SlopeSign (List.take r10.snd r10.fst) (List.take r11.snd r11.fst) s_Low_N s_Low_K s_High_N s_High_K t t4).bind fun r12 =>
            bif !decide (r12.fst = r2.fst) then
              some false
            else
              bif !r12.snd == r2.snd then
                some false
              else
                some true
theorem Mw_FnExactSlopeSign (k : Nat) (L : List (Int)) (i : List (Int)) (s_Low_N : Int) (s_Low_K : Int) (s_High_N : Int) (s_High_K : Int) (t : Int) (t4 : Int) : Le (f12 k L i s_Low_N s_Low_K s_High_N s_High_K t t4) (f12 (k + 1) L i s_Low_N s_Low_K s_High_N s_High_K t t4) := by
  unfold f12
  repeat' first | with_reducible exact Le.rfl _ | with_reducible exact Mw_toIntS _ _ _ | with_reducible exact Mw_intactIntS _ _ _ _ _ | with_reducible exact Ms_SlopeSign _ _ _ _ _ _ _ _ _ | with_reducible exact Mi_SlopeSign _ _ _ _ _ _ _ _ _ | with_reducible refine Le.cond ?_ ?_ | with_reducible refine Le.bind ?_ fun _ => ?_
theorem Rw_FnExactSlopeSign (L : List (Int)) (i : List (Int)) (s_Low_N : Int) (s_Low_K : Int) (s_High_N : Int) (s_High_K : Int) (t : Int) (t4 : Int) : Lim (fun k => f12 k L i s_Low_N s_Low_K s_High_N s_High_K t t4) (w_FnExactSlopeSign L i s_Low_N s_Low_K s_High_N s_High_K t t4) := by
  unfold f12 w_FnExactSlopeSign
  repeat' first | with_reducible exact Lim.ret _ | with_reducible exact Rw_toIntS _ _ | with_reducible exact Rw_intactIntS _ _ _ _ | with_reducible exact Rs_SlopeSign _ _ _ _ _ _ _ _ | with_reducible exact Ri_SlopeSign _ _ _ _ _ _ _ _ | with_reducible refine Lim.cond ?_ ?_ | with_reducible refine Lim.bind ?_ fun _ => ?_

end Go.Proofs.YtnndolcjljhhcaaE
