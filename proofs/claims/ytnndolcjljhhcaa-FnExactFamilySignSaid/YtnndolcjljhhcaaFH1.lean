/- Functions without a count of rounds; printed. -/
import Derived.Test.YtnndolcjljhhcaaE24
import Derived.Test.YtnndolcjljhhcaaFS6
set_option maxRecDepth 100000
set_option maxHeartbeats 4000000
set_option linter.unusedVariables false
namespace Go.Proofs.YtnndolcjljhhcaaE
-- laws.roomBehind
noncomputable def w_roomBehind (n : Int) : Option (Int) :=
  bif decide (Int.tmod n 6 = 5) then
    some (0)
  else
    bif decide (Int.tmod n 3 = 0) then
      some (1)
    else
      some n
theorem Mw_roomBehind (k : Nat) (n : Int) : Le (f65 k n) (f65 (k + 1) n) := by
  unfold f65
  repeat' first | with_reducible exact Le.rfl _ | with_reducible refine Le.cond ?_ ?_ | with_reducible refine Le.bind ?_ fun _ => ?_
theorem Rw_roomBehind (n : Int) : Lim (fun k => f65 k n) (w_roomBehind n) := by
  unfold f65 w_roomBehind
  repeat' first | with_reducible exact Lim.ret _ | with_reducible refine Lim.cond ?_ ?_ | with_reducible refine Lim.bind ?_ fun _ => ?_

-- laws.toIntS
theorem MFw_toIntS_1005 (k : Nat) {r1005 q1005 : List Int → List Int → Int → Option (List (Int) × Nat)} (h1005 : ∀ (a : List Int) (outs : List Int) (i : Int), Le (r1005 a outs i) (q1005 a outs i)) {r1009 q1009 : List Int → List Int → Int → Option (List (Int) × Nat)} (h1009 : ∀ (a : List Int) (outs : List Int) (i : Int), Le (r1009 a outs i) (q1009 a outs i)) (a : List Int) (outs : List Int) (i : Int) : Le (F15_1005 k r1005 r1009 a outs i) (F15_1005 (k + 1) q1005 q1009 a outs i) := by
  unfold F15_1005
  repeat' first | with_reducible exact Le.rfl _ | with_reducible exact h1005 _ _ _ | with_reducible exact h1009 _ _ _ | with_reducible refine Le.cond ?_ ?_ | with_reducible refine Le.bind ?_ fun _ => ?_
theorem MFw_toIntS_1009 (k : Nat) {r1005 q1005 : List Int → List Int → Int → Option (List (Int) × Nat)} (h1005 : ∀ (a : List Int) (outs : List Int) (i : Int), Le (r1005 a outs i) (q1005 a outs i)) {r1009 q1009 : List Int → List Int → Int → Option (List (Int) × Nat)} (h1009 : ∀ (a : List Int) (outs : List Int) (i : Int), Le (r1009 a outs i) (q1009 a outs i)) (a : List Int) (outs : List Int) (i : Int) : Le (F15_1009 k r1005 r1009 a outs i) (F15_1009 (k + 1) q1005 q1009 a outs i) := by
  unfold F15_1009
  repeat' first | with_reducible exact Le.rfl _ | with_reducible exact h1005 _ _ _ | with_reducible exact h1009 _ _ _ | with_reducible refine Le.cond ?_ ?_ | with_reducible refine Le.bind ?_ fun _ => ?_
theorem Mlw_toIntS : ∀ k : Nat, (∀ (a : List Int) (outs : List Int) (i : Int), Le ((l15 k).1 a outs i) ((l15 (k + 1)).1 a outs i)) ∧ (∀ (a : List Int) (outs : List Int) (i : Int), Le ((l15 k).2 a outs i) ((l15 (k + 1)).2 a outs i))
  | 0 => ⟨fun a outs i => Le.no _, fun a outs i => Le.no _⟩
  | k + 1 => by
    have h := Mlw_toIntS k
    exact ⟨fun a outs i => MFw_toIntS_1005 k h.1 h.2 a outs i, fun a outs i => MFw_toIntS_1009 k h.1 h.2 a outs i⟩
noncomputable def w_toIntS_1005 (a : List Int) (outs : List Int) (i : Int) : Option (List (Int) × Nat) := lim fun k => (l15 k).1 a outs i
theorem Rlw_toIntS_1005 (a : List Int) (outs : List Int) (i : Int) : Lim (fun k => (l15 k).1 a outs i) (w_toIntS_1005 a outs i) := Lim.of_mono fun k => (Mlw_toIntS k).1 a outs i
noncomputable def w_toIntS_1009 (a : List Int) (outs : List Int) (i : Int) : Option (List (Int) × Nat) := lim fun k => (l15 k).2 a outs i
theorem Rlw_toIntS_1009 (a : List Int) (outs : List Int) (i : Int) : Lim (fun k => (l15 k).2 a outs i) (w_toIntS_1009 a outs i) := Lim.of_mono fun k => (Mlw_toIntS k).2 a outs i
theorem Ew_toIntS_1005 (a : List Int) (outs : List Int) (i : Int) : w_toIntS_1005 a outs i =
  bif decide (i < (↑(List.length a) : Int)) then
    bif boundA i (List.length a) then
      bif boundA i (List.length outs) then
        bif Nat.blt (Int.toNat i) (List.length outs) then
          w_toIntS_1005 a (List.set outs (Int.toNat i) (List.getD a (Int.toNat i) 0)) (IntKind.wrap IntKind.i64 (i + 1))
        else
          none
      else
        none
    else
      none
  else
    w_toIntS_1009 a outs ((↑(List.length a) : Int)) := by
  refine Lim.uniq (Lim.shift (Rlw_toIntS_1005 a outs i)) (?_ : Lim (fun k => F15_1005 k ((l15 k).1) ((l15 k).2) a outs i) _)
  unfold F15_1005
  repeat' first | with_reducible exact Lim.ret _ | with_reducible exact Rlw_toIntS_1005 _ _ _ | with_reducible exact Rlw_toIntS_1009 _ _ _ | with_reducible refine Lim.cond ?_ ?_ | with_reducible refine Lim.bind ?_ fun _ => ?_
theorem Ew_toIntS_1009 (a : List Int) (outs : List Int) (i : Int) : w_toIntS_1009 a outs i =
  bif decide (i < (↑(List.length outs) : Int)) then
    bif boundA i (List.length outs) then
      bif Nat.blt (Int.toNat i) (List.length outs) then
        w_toIntS_1009 a (List.set outs (Int.toNat i) (-7000000000000000101)) (IntKind.wrap IntKind.i64 (i + 1))
      else
        none
    else
      none
  else
    bif boundE (↑(List.length a) : Int) (List.length outs) then
      some ((outs, Option.getD (some (Int.toNat (↑(List.length a) : Int))) (List.length outs)))
    else
      none := by
  refine Lim.uniq (Lim.shift (Rlw_toIntS_1009 a outs i)) (?_ : Lim (fun k => F15_1009 k ((l15 k).1) ((l15 k).2) a outs i) _)
  unfold F15_1009
  repeat' first | with_reducible exact Lim.ret _ | with_reducible exact Rlw_toIntS_1005 _ _ _ | with_reducible exact Rlw_toIntS_1009 _ _ _ | with_reducible refine Lim.cond ?_ ?_ | with_reducible refine Lim.bind ?_ fun _ => ?_
noncomputable def w_toIntS (a : List (Int)) (bare : Bool) : Option (List (Int) × Nat) :=
  bif bare then
    bif decide ((↑(List.length a) : Int) = 0) then
      some (([], 0))
    else
      (w_roomBehind (↑(List.length a) : Int)).bind fun r0 =>
      bif decide (0 ≤ IntKind.wrap IntKind.i64 ((↑(List.length a) : Int) + r0)) then
        bif decide (IntKind.wrap IntKind.i64 ((↑(List.length a) : Int) + r0) ≤ IntKind.wrap IntKind.i64 ((↑(List.length a) : Int) + r0)) then
          bif decide (IntKind.wrap IntKind.i64 ((↑(List.length a) : Int) + r0) * (↑8 : Int) ≤ 140737488355328) then
            w_toIntS_1005 a (List.replicate (Int.toNat (IntKind.wrap IntKind.i64 ((↑(List.length a) : Int) + r0))) (dflt (Ty.int IntKind.i64))) (0)
          else
            none
        else
          none
      else
        none
  else
    (w_roomBehind (↑(List.length a) : Int)).bind fun r1 =>
    bif decide (0 ≤ IntKind.wrap IntKind.i64 ((↑(List.length a) : Int) + r1)) then
      bif decide (IntKind.wrap IntKind.i64 ((↑(List.length a) : Int) + r1) ≤ IntKind.wrap IntKind.i64 ((↑(List.length a) : Int) + r1)) then
        bif decide (IntKind.wrap IntKind.i64 ((↑(List.length a) : Int) + r1) * (↑8 : Int) ≤ 140737488355328) then
          w_toIntS_1005 a (List.replicate (Int.toNat (IntKind.wrap IntKind.i64 ((↑(List.length a) : Int) + r1))) (dflt (Ty.int IntKind.i64))) (0)
        else
          none
      else
        none
    else
      none
theorem Mw_toIntS (k : Nat) (a : List (Int)) (bare : Bool) : Le (f15 k a bare) (f15 (k + 1) a bare) := by
  have h := Mlw_toIntS k
  unfold f15 F15
  repeat' first | with_reducible exact Le.rfl _ | with_reducible exact Mw_roomBehind _ _ | with_reducible exact h.1 _ _ _ | with_reducible exact h.2 _ _ _ | with_reducible refine Le.cond ?_ ?_ | with_reducible refine Le.bind ?_ fun _ => ?_
theorem Rw_toIntS (a : List (Int)) (bare : Bool) : Lim (fun k => f15 k a bare) (w_toIntS a bare) := by
  unfold f15 F15 w_toIntS
  repeat' first | with_reducible exact Lim.ret _ | with_reducible exact Rw_roomBehind _ | with_reducible exact Rlw_toIntS_1005 _ _ _ | with_reducible exact Rlw_toIntS_1009 _ _ _ | with_reducible refine Lim.cond ?_ ?_ | with_reducible refine Lim.bind ?_ fun _ => ?_

-- laws.eqIntS
theorem MFw_eqIntS_1004 (k : Nat) {r1004 q1004 : List Int → List Int → Int → Option (Bool)} (h1004 : ∀ (a : List Int) (b : List Int) (i : Int), Le (r1004 a b i) (q1004 a b i)) (a : List Int) (b : List Int) (i : Int) : Le (F17_1004 k r1004 a b i) (F17_1004 (k + 1) q1004 a b i) := by
  unfold F17_1004
  repeat' first | with_reducible exact Le.rfl _ | with_reducible exact h1004 _ _ _ | with_reducible refine Le.cond ?_ ?_ | with_reducible refine Le.bind ?_ fun _ => ?_
theorem Mlw_eqIntS : ∀ k : Nat, ∀ (a : List Int) (b : List Int) (i : Int), Le ((l17 k) a b i) ((l17 (k + 1)) a b i)
  | 0 => fun a b i => Le.no _
  | k + 1 => by
    have h := Mlw_eqIntS k
    exact fun a b i => MFw_eqIntS_1004 k h a b i
noncomputable def w_eqIntS_1004 (a : List Int) (b : List Int) (i : Int) : Option (Bool) := lim fun k => (l17 k) a b i
theorem Rlw_eqIntS_1004 (a : List Int) (b : List Int) (i : Int) : Lim (fun k => (l17 k) a b i) (w_eqIntS_1004 a b i) := Lim.of_mono fun k => Mlw_eqIntS k a b i
theorem Ew_eqIntS_1004 (a : List Int) (b : List Int) (i : Int) : w_eqIntS_1004 a b i =
  bif decide (i < (↑(List.length a) : Int)) then
    bif boundA i (List.length a) then
      bif boundA i (List.length b) then
        bif !decide (List.getD a (Int.toNat i) 0 = List.getD b (Int.toNat i) 0) then
          some false
        else
          w_eqIntS_1004 a b (IntKind.wrap IntKind.i64 (i + 1))
      else
        none
    else
      none
  else
    some true := by
  refine Lim.uniq (Lim.shift (Rlw_eqIntS_1004 a b i)) (?_ : Lim (fun k => F17_1004 k ((l17 k)) a b i) _)
  unfold F17_1004
  repeat' first | with_reducible exact Lim.ret _ | with_reducible exact Rlw_eqIntS_1004 _ _ _ | with_reducible refine Lim.cond ?_ ?_ | with_reducible refine Lim.bind ?_ fun _ => ?_
noncomputable def w_eqIntS (a : List (Int)) (b : List (Int)) : Option (Bool) :=
  bif !decide ((↑(List.length a) : Int) = (↑(List.length b) : Int)) then
    some false
  else
    w_eqIntS_1004 a b (0)
theorem Mw_eqIntS (k : Nat) (a : List (Int)) (b : List (Int)) : Le (f17 k a b) (f17 (k + 1) a b) := by
  have h := Mlw_eqIntS k
  unfold f17 F17
  repeat' first | with_reducible exact Le.rfl _ | with_reducible exact h _ _ _ | with_reducible refine Le.cond ?_ ?_ | with_reducible refine Le.bind ?_ fun _ => ?_
theorem Rw_eqIntS (a : List (Int)) (b : List (Int)) : Lim (fun k => f17 k a b) (w_eqIntS a b) := by
  unfold f17 F17 w_eqIntS
  repeat' first | with_reducible exact Lim.ret _ | with_reducible exact Rlw_eqIntS_1004 _ _ _ | with_reducible refine Lim.cond ?_ ?_ | with_reducible refine Lim.bind ?_ fun _ => ?_

-- laws.intactIntS
noncomputable def w_intactIntS (x : List (Int)) (x_n : Nat) (y : List (Int)) (y_n : Nat) : Option (Bool) :=
  (w_roomBehind (↑y_n : Int)).bind fun r0 =>
  bif decide ((↑x_n : Int) = (↑y_n : Int)) then
    bif boundE (IntKind.wrap IntKind.i64 ((↑y_n : Int) + r0)) (List.length x) then
      bif decide (0 ≤ 0) && decide (0 ≤ IntKind.wrap IntKind.i64 ((↑y_n : Int) + r0)) then
        bif boundE (IntKind.wrap IntKind.i64 ((↑y_n : Int) + r0)) (List.length y) then
          bif decide (0 ≤ 0) && decide (0 ≤ IntKind.wrap IntKind.i64 ((↑y_n : Int) + r0)) then
            (w_eqIntS (List.drop (Int.toNat 0) (List.take (Int.toNat (IntKind.wrap IntKind.i64 ((↑y_n : Int) + r0))) x)) (List.drop (Int.toNat 0) (List.take (Int.toNat (IntKind.wrap IntKind.i64 ((↑y_n : Int) + r0))) y))).bind fun r1 =>
            some r1
          else
            none
        else
          none
      else
        none
    else
      none
  else
    some false
theorem Mw_intactIntS (k : Nat) (x : List (Int)) (x_n : Nat) (y : List (Int)) (y_n : Nat) : Le (f18 k x x_n y y_n) (f18 (k + 1) x x_n y y_n) := by
  unfold f18
  repeat' first | with_reducible exact Le.rfl _ | with_reducible exact Mw_eqIntS _ _ _ | with_reducible exact Mw_roomBehind _ _ | with_reducible refine Le.cond ?_ ?_ | with_reducible refine Le.bind ?_ fun _ => ?_
theorem Rw_intactIntS (x : List (Int)) (x_n : Nat) (y : List (Int)) (y_n : Nat) : Lim (fun k => f18 k x x_n y y_n) (w_intactIntS x x_n y y_n) := by
  unfold f18 w_intactIntS
  repeat' first | with_reducible exact Lim.ret _ | with_reducible exact Rw_eqIntS _ _ | with_reducible exact Rw_roomBehind _ | with_reducible refine Lim.cond ?_ ?_ | with_reducible refine Lim.bind ?_ fun _ => ?_

-- spec.l1In
noncomputable def s_l1In (n : Int) (lo : Int) (hi : Int) : Option (Bool) :=
  bif decide (lo ≤ n) then
    some (decide (n ≤ hi))
  else
    some false
theorem Ms_l1In (k : Nat) (n : Int) (lo : Int) (hi : Int) : Le (f85 k n lo hi) (f85 (k + 1) n lo hi) := by
  unfold f85
  repeat' first | with_reducible exact Le.rfl _ | with_reducible refine Le.cond ?_ ?_ | with_reducible refine Le.bind ?_ fun _ => ?_
theorem Rs_l1In (n : Int) (lo : Int) (hi : Int) : Lim (fun k => f85 k n lo hi) (s_l1In n lo hi) := by
  unfold f85 s_l1In
  repeat' first | with_reducible exact Lim.ret _ | with_reducible refine Lim.cond ?_ ?_ | with_reducible refine Lim.bind ?_ fun _ => ?_

-- spec.l1All
theorem MFs_l1All_1002 (k : Nat) {r1002 q1002 : Int → Int → List Int → Int → Int → Option (Bool)} (h1002 : ∀ (lo : Int) (hi : Int) (t9 : List Int) (t10 : Int) (t11 : Int), Le (r1002 lo hi t9 t10 t11) (q1002 lo hi t9 t10 t11)) (lo : Int) (hi : Int) (t9 : List Int) (t10 : Int) (t11 : Int) : Le (F173_1002 k r1002 lo hi t9 t10 t11) (F173_1002 (k + 1) q1002 lo hi t9 t10 t11) := by
  unfold F173_1002
  repeat' first | with_reducible exact Le.rfl _ | with_reducible exact Ms_l1In _ _ _ _ | with_reducible exact h1002 _ _ _ _ _ | with_reducible refine Le.cond ?_ ?_ | with_reducible refine Le.bind ?_ fun _ => ?_
theorem Mls_l1All : ∀ k : Nat, ∀ (lo : Int) (hi : Int) (t9 : List Int) (t10 : Int) (t11 : Int), Le ((l173 k) lo hi t9 t10 t11) ((l173 (k + 1)) lo hi t9 t10 t11)
  | 0 => fun lo hi t9 t10 t11 => Le.no _
  | k + 1 => by
    have h := Mls_l1All k
    exact fun lo hi t9 t10 t11 => MFs_l1All_1002 k h lo hi t9 t10 t11
noncomputable def s_l1All_1002 (lo : Int) (hi : Int) (t9 : List Int) (t10 : Int) (t11 : Int) : Option (Bool) := lim fun k => (l173 k) lo hi t9 t10 t11
theorem Rls_l1All_1002 (lo : Int) (hi : Int) (t9 : List Int) (t10 : Int) (t11 : Int) : Lim (fun k => (l173 k) lo hi t9 t10 t11) (s_l1All_1002 lo hi t9 t10 t11) := Lim.of_mono fun k => Mls_l1All k lo hi t9 t10 t11
theorem Es_l1All_1002 (lo : Int) (hi : Int) (t9 : List Int) (t10 : Int) (t11 : Int) : s_l1All_1002 lo hi t9 t10 t11 =
  bif decide (t11 < t10) then
    bif boundA t11 (List.length t9) then
      (s_l1In (List.getD t9 (Int.toNat t11) 0) lo hi).bind fun r0 =>
      bif !r0 then
        some false
      else
        s_l1All_1002 lo hi t9 t10 (IntKind.wrap IntKind.i64 (t11 + 1))
    else
      none
  else
    some true := by
  refine Lim.uniq (Lim.shift (Rls_l1All_1002 lo hi t9 t10 t11)) (?_ : Lim (fun k => F173_1002 k ((l173 k)) lo hi t9 t10 t11) _)
  unfold F173_1002
  repeat' first | with_reducible exact Lim.ret _ | with_reducible exact Rs_l1In _ _ _ | with_reducible exact Rls_l1All_1002 _ _ _ _ _ | with_reducible refine Lim.cond ?_ ?_ | with_reducible refine Lim.bind ?_ fun _ => ?_
noncomputable def s_l1All (l : List (Int)) (lo : Int) (hi : Int) : Option (Bool) :=
  s_l1All_1002 lo hi l ((↑(List.length l) : Int)) (0)
theorem Ms_l1All (k : Nat) (l : List (Int)) (lo : Int) (hi : Int) : Le (f173 k l lo hi) (f173 (k + 1) l lo hi) := by
  have h := Mls_l1All k
  unfold f173 F173
  repeat' first | with_reducible exact Le.rfl _ | with_reducible exact h _ _ _ _ _ | with_reducible refine Le.cond ?_ ?_ | with_reducible refine Le.bind ?_ fun _ => ?_
theorem Rs_l1All (l : List (Int)) (lo : Int) (hi : Int) : Lim (fun k => f173 k l lo hi) (s_l1All l lo hi) := by
  unfold f173 F173 s_l1All
  repeat' first | with_reducible exact Lim.ret _ | with_reducible exact Rls_l1All_1002 _ _ _ _ _ | with_reducible refine Lim.cond ?_ ?_ | with_reducible refine Lim.bind ?_ fun _ => ?_

-- spec.sgGood
noncomputable def s_sgGood (p : List (Int)) : Option (Bool) :=
  bif decide (9 < (↑(List.length p) : Int)) then
    some false
  else
    (s_l1All p (-1000000) 1000000).bind fun r0 =>
    bif !r0 then
      some false
    else
      bif decide ((↑(List.length p) : Int) = 0) then
        some true
      else
        bif boundA (IntKind.wrap IntKind.i64 ((↑(List.length p) : Int) - 1)) (List.length p) then
          some (!decide (List.getD p (Int.toNat (IntKind.wrap IntKind.i64 ((↑(List.length p) : Int) - 1))) 0 = 0))
        else
          none
theorem Ms_sgGood (k : Nat) (p : List (Int)) : Le (f172 k p) (f172 (k + 1) p) := by
  unfold f172
  repeat' first | with_reducible exact Le.rfl _ | with_reducible exact Ms_l1All _ _ _ _ | with_reducible refine Le.cond ?_ ?_ | with_reducible refine Le.bind ?_ fun _ => ?_
theorem Rs_sgGood (p : List (Int)) : Lim (fun k => f172 k p) (s_sgGood p) := by
  unfold f172 s_sgGood
  repeat' first | with_reducible exact Lim.ret _ | with_reducible exact Rs_l1All _ _ _ | with_reducible refine Lim.cond ?_ ?_ | with_reducible refine Lim.bind ?_ fun _ => ?_

-- spec.deGood
noncomputable def s_deGood (p : List (Int)) : Option (Bool) :=
  (s_sgGood p).bind fun r0 =>
  bif r0 then
    (s_l1In (↑(List.length p) : Int) 1 6).bind fun r1 =>
    bif r1 then
      (s_l1All p (-1000) 1000).bind fun r2 =>
      some r2
    else
      some false
  else
    some false
theorem Ms_deGood (k : Nat) (p : List (Int)) : Le (f142 k p) (f142 (k + 1) p) := by
  unfold f142
  repeat' first | with_reducible exact Le.rfl _ | with_reducible exact Ms_sgGood _ _ | with_reducible exact Ms_l1All _ _ _ _ | with_reducible exact Ms_l1In _ _ _ _ | with_reducible refine Le.cond ?_ ?_ | with_reducible refine Le.bind ?_ fun _ => ?_
theorem Rs_deGood (p : List (Int)) : Lim (fun k => f142 k p) (s_deGood p) := by
  unfold f142 s_deGood
  repeat' first | with_reducible exact Lim.ret _ | with_reducible exact Rs_sgGood _ | with_reducible exact Rs_l1All _ _ _ | with_reducible exact Rs_l1In _ _ _ | with_reducible refine Lim.cond ?_ ?_ | with_reducible refine Lim.bind ?_ fun _ => ?_

-- spec.faAsked
noncomputable def s_faAsked (p : List (Int)) (q : List (Int)) (fine : Int) : Option (Bool) :=
  (s_deGood p).bind fun r0 =>
  bif r0 then
    (s_deGood q).bind fun r1 =>
    bif r1 then
      (s_l1In fine 0 4).bind fun r2 =>
      some r2
    else
      some false
  else
    some false
theorem Ms_faAsked (k : Nat) (p : List (Int)) (q : List (Int)) (fine : Int) : Le (f106 k p q fine) (f106 (k + 1) p q fine) := by
  unfold f106
  repeat' first | with_reducible exact Le.rfl _ | with_reducible exact Ms_deGood _ _ | with_reducible exact Ms_l1In _ _ _ _ | with_reducible refine Le.cond ?_ ?_ | with_reducible refine Le.bind ?_ fun _ => ?_
theorem Rs_faAsked (p : List (Int)) (q : List (Int)) (fine : Int) : Lim (fun k => f106 k p q fine) (s_faAsked p q fine) := by
  unfold f106 s_faAsked
  repeat' first | with_reducible exact Lim.ret _ | with_reducible exact Rs_deGood _ | with_reducible exact Rs_l1In _ _ _ | with_reducible refine Lim.cond ?_ ?_ | with_reducible refine Lim.bind ?_ fun _ => ?_

-- spec.dyPower
noncomputable def s_dyPower (k_ : Int) : Option (Int) :=
  bif !decide (IntKind.wrap IntKind.u64 k_ < 0) then
    some (IntKind.wrap IntKind.i64 (1 * 2 ^ min (Int.toNat (IntKind.wrap IntKind.u64 k_)) (IntKind.bits IntKind.i64)))
  else
    none
theorem Ms_dyPower (k : Nat) (k_ : Int) : Le (f107 k k_) (f107 (k + 1) k_) := by
  unfold f107
  repeat' first | with_reducible exact Le.rfl _ | with_reducible refine Le.cond ?_ ?_ | with_reducible refine Le.bind ?_ fun _ => ?_
theorem Rs_dyPower (k_ : Int) : Lim (fun k => f107 k k_) (s_dyPower k_) := by
  unfold f107 s_dyPower
  repeat' first | with_reducible exact Lim.ret _ | with_reducible refine Lim.cond ?_ ?_ | with_reducible refine Lim.bind ?_ fun _ => ?_

-- spec.faMoment
noncomputable def s_faMoment (p : List (Int)) (q : List (Int)) (i : Int) (fine : Int) : Option (Bool) :=
  (s_faAsked p q fine).bind fun r0 =>
  bif r0 then
    (s_dyPower fine).bind fun r1 =>
    (s_l1In i 0 r1).bind fun r2 =>
    some r2
  else
    some false
theorem Ms_faMoment (k : Nat) (p : List (Int)) (q : List (Int)) (i : Int) (fine : Int) : Le (f62 k p q i fine) (f62 (k + 1) p q i fine) := by
  unfold f62
  repeat' first | with_reducible exact Le.rfl _ | with_reducible exact Ms_faAsked _ _ _ _ | with_reducible exact Ms_dyPower _ _ | with_reducible exact Ms_l1In _ _ _ _ | with_reducible refine Le.cond ?_ ?_ | with_reducible refine Le.bind ?_ fun _ => ?_
theorem Rs_faMoment (p : List (Int)) (q : List (Int)) (i : Int) (fine : Int) : Lim (fun k => f62 k p q i fine) (s_faMoment p q i fine) := by
  unfold f62 s_faMoment
  repeat' first | with_reducible exact Lim.ret _ | with_reducible exact Rs_faAsked _ _ _ | with_reducible exact Rs_dyPower _ | with_reducible exact Rs_l1In _ _ _ | with_reducible refine Lim.cond ?_ ?_ | with_reducible refine Lim.bind ?_ fun _ => ?_

-- spec.dyGood
noncomputable def s_dyGood (a_N : Int) (a_K : Int) : Option (Bool) :=
  (s_l1In a_K 0 24).bind fun r0 =>
  bif r0 then
    (s_l1In a_N (-1099511627776) 1099511627776).bind fun r1 =>
    bif r1 then
      bif decide (a_K = 0) then
        some true
      else
        some (!decide (Int.tmod a_N 2 = 0))
    else
      some false
  else
    some false
theorem Ms_dyGood (k : Nat) (a_N : Int) (a_K : Int) : Le (f116 k a_N a_K) (f116 (k + 1) a_N a_K) := by
  unfold f116
  repeat' first | with_reducible exact Le.rfl _ | with_reducible exact Ms_l1In _ _ _ _ | with_reducible refine Le.cond ?_ ?_ | with_reducible refine Le.bind ?_ fun _ => ?_
theorem Rs_dyGood (a_N : Int) (a_K : Int) : Lim (fun k => f116 k a_N a_K) (s_dyGood a_N a_K) := by
  unfold f116 s_dyGood
  repeat' first | with_reducible exact Lim.ret _ | with_reducible exact Rs_l1In _ _ _ | with_reducible refine Lim.cond ?_ ?_ | with_reducible refine Lim.bind ?_ fun _ => ?_

-- spec.dyDown
noncomputable def s_dyDown (a : Int) (b : Int) : Option (Int) :=
  bif !decide (b = 0) then
    bif !decide (b = 0) then
      bif decide (Int.tmod a b < 0) then
        some (IntKind.wrap IntKind.i64 (IntKind.wrap IntKind.i64 (Int.tdiv a b) - 1))
      else
        some (IntKind.wrap IntKind.i64 (Int.tdiv a b))
    else
      none
  else
    none
theorem Ms_dyDown (k : Nat) (a : Int) (b : Int) : Le (f175 k a b) (f175 (k + 1) a b) := by
  unfold f175
  repeat' first | with_reducible exact Le.rfl _ | with_reducible refine Le.cond ?_ ?_ | with_reducible refine Le.bind ?_ fun _ => ?_
theorem Rs_dyDown (a : Int) (b : Int) : Lim (fun k => f175 k a b) (s_dyDown a b) := by
  unfold f175 s_dyDown
  repeat' first | with_reducible exact Lim.ret _ | with_reducible refine Lim.cond ?_ ?_ | with_reducible refine Lim.bind ?_ fun _ => ?_

-- spec.dyFloor
noncomputable def s_dyFloor (a_N : Int) (a_K : Int) : Option (Int) :=
  (s_dyPower a_K).bind fun r0 =>
  (s_dyDown a_N r0).bind fun r1 =>
  some r1
theorem Ms_dyFloor (k : Nat) (a_N : Int) (a_K : Int) : Le (f147 k a_N a_K) (f147 (k + 1) a_N a_K) := by
  unfold f147
  repeat' first | with_reducible exact Le.rfl _ | with_reducible exact Ms_dyPower _ _ | with_reducible exact Ms_dyDown _ _ _ | with_reducible refine Le.cond ?_ ?_ | with_reducible refine Le.bind ?_ fun _ => ?_
theorem Rs_dyFloor (a_N : Int) (a_K : Int) : Lim (fun k => f147 k a_N a_K) (s_dyFloor a_N a_K) := by
  unfold f147 s_dyFloor
  repeat' first | with_reducible exact Lim.ret _ | with_reducible exact Rs_dyPower _ | with_reducible exact Rs_dyDown _ _ | with_reducible refine Lim.cond ?_ ?_ | with_reducible refine Lim.bind ?_ fun _ => ?_

-- spec.l1Sign
noncomputable def s_l1Sign (n : Int) : Option (Int) :=
  bif decide (0 < n) then
    some (1)
  else
    bif decide (n < 0) then
      some (-1)
    else
      some (0)
theorem Ms_l1Sign (k : Nat) (n : Int) : Le (f148 k n) (f148 (k + 1) n) := by
  unfold f148
  repeat' first | with_reducible exact Le.rfl _ | with_reducible refine Le.cond ?_ ?_ | with_reducible refine Le.bind ?_ fun _ => ?_
theorem Rs_l1Sign (n : Int) : Lim (fun k => f148 k n) (s_l1Sign n) := by
  unfold f148 s_l1Sign
  repeat' first | with_reducible exact Lim.ret _ | with_reducible refine Lim.cond ?_ ?_ | with_reducible refine Lim.bind ?_ fun _ => ?_

-- spec.dyAt
theorem MFs_dyAt_1004 (k : Nat) {r1004 q1004 : Int → Int → Int → Int → Option (Int × Bool)} (h1004 : ∀ (k_ : Int) (as_0 : Int) (as_1 : Int) (i : Int), Le (r1004 k_ as_0 as_1 i) (q1004 k_ as_0 as_1 i)) (k_ : Int) (as_0 : Int) (as_1 : Int) (i : Int) : Le (F149_1004 k r1004 k_ as_0 as_1 i) (F149_1004 (k + 1) q1004 k_ as_0 as_1 i) := by
  unfold F149_1004
  repeat' first | with_reducible exact Le.rfl _ | with_reducible exact Ms_l1In _ _ _ _ | with_reducible exact h1004 _ _ _ _ | with_reducible refine Le.cond ?_ ?_ | with_reducible refine Le.bind ?_ fun _ => ?_
theorem Mls_dyAt : ∀ k : Nat, ∀ (k_ : Int) (as_0 : Int) (as_1 : Int) (i : Int), Le ((l149 k) k_ as_0 as_1 i) ((l149 (k + 1)) k_ as_0 as_1 i)
  | 0 => fun k_ as_0 as_1 i => Le.no _
  | k + 1 => by
    have h := Mls_dyAt k
    exact fun k_ as_0 as_1 i => MFs_dyAt_1004 k h k_ as_0 as_1 i
noncomputable def s_dyAt_1004 (k_ : Int) (as_0 : Int) (as_1 : Int) (i : Int) : Option (Int × Bool) := lim fun k => (l149 k) k_ as_0 as_1 i
theorem Rls_dyAt_1004 (k_ : Int) (as_0 : Int) (as_1 : Int) (i : Int) : Lim (fun k => (l149 k) k_ as_0 as_1 i) (s_dyAt_1004 k_ as_0 as_1 i) := Lim.of_mono fun k => Mls_dyAt k k_ as_0 as_1 i
theorem Es_dyAt_1004 (k_ : Int) (as_0 : Int) (as_1 : Int) (i : Int) : s_dyAt_1004 k_ as_0 as_1 i =
  bif decide (i < k_) then
    (s_l1In as_0 (IntKind.wrap IntKind.i64 (0 - IntKind.wrap IntKind.i64 (1 * 2 ^ min (Int.toNat (IntKind.wrap IntKind.u64 60)) (IntKind.bits IntKind.i64)))) (IntKind.wrap IntKind.i64 (1 * 2 ^ min (Int.toNat (IntKind.wrap IntKind.u64 60)) (IntKind.bits IntKind.i64)))).bind fun r0 =>
    bif !r0 then
      some ((0, false))
    else
      s_dyAt_1004 k_ (IntKind.wrap IntKind.i64 (as_0 * 2)) as_1 (IntKind.wrap IntKind.i64 (i + 1))
  else
    some ((as_0, true)) := by
  refine Lim.uniq (Lim.shift (Rls_dyAt_1004 k_ as_0 as_1 i)) (?_ : Lim (fun k => F149_1004 k ((l149 k)) k_ as_0 as_1 i) _)
  unfold F149_1004
  repeat' first | with_reducible exact Lim.ret _ | with_reducible exact Rs_l1In _ _ _ | with_reducible exact Rls_dyAt_1004 _ _ _ _ | with_reducible refine Lim.cond ?_ ?_ | with_reducible refine Lim.bind ?_ fun _ => ?_
noncomputable def s_dyAt (a_N : Int) (a_K : Int) (k_ : Int) : Option (Int × Bool) :=
  bif decide (a_N = 0) then
    some ((0, true))
  else
    s_dyAt_1004 k_ a_N a_K a_K
theorem Ms_dyAt (k : Nat) (a_N : Int) (a_K : Int) (k_ : Int) : Le (f149 k a_N a_K k_) (f149 (k + 1) a_N a_K k_) := by
  have h := Mls_dyAt k
  unfold f149 F149
  repeat' first | with_reducible exact Le.rfl _ | with_reducible exact h _ _ _ _ | with_reducible refine Le.cond ?_ ?_ | with_reducible refine Le.bind ?_ fun _ => ?_
theorem Rs_dyAt (a_N : Int) (a_K : Int) (k_ : Int) : Lim (fun k => f149 k a_N a_K k_) (s_dyAt a_N a_K k_) := by
  unfold f149 F149 s_dyAt
  repeat' first | with_reducible exact Lim.ret _ | with_reducible exact Rls_dyAt_1004 _ _ _ _ | with_reducible refine Lim.cond ?_ ?_ | with_reducible refine Lim.bind ?_ fun _ => ?_

-- spec.dyCmp
noncomputable def s_dyCmp (a_N : Int) (a_K : Int) (b_N : Int) (b_K : Int) : Option (Int) :=
  (s_dyFloor a_N a_K).bind fun r0 =>
  (s_dyFloor b_N b_K).bind fun r1 =>
  bif !decide (r0 = r1) then
    (s_l1Sign (IntKind.wrap IntKind.i64 (r0 - r1))).bind fun r2 =>
    some r2
  else
    (s_dyPower a_K).bind fun r3 =>
    (s_dyAt (IntKind.wrap IntKind.i64 (a_N - IntKind.wrap IntKind.i64 (r0 * r3))) a_K 24).bind fun r4 =>
    (s_dyPower b_K).bind fun r5 =>
    (s_dyAt (IntKind.wrap IntKind.i64 (b_N - IntKind.wrap IntKind.i64 (r1 * r5))) b_K 24).bind fun r6 =>
    (s_l1Sign (IntKind.wrap IntKind.i64 (r4.fst - r6.fst))).bind fun r7 =>
    some r7
theorem Ms_dyCmp (k : Nat) (a_N : Int) (a_K : Int) (b_N : Int) (b_K : Int) : Le (f117 k a_N a_K b_N b_K) (f117 (k + 1) a_N a_K b_N b_K) := by
  unfold f117
  repeat' first | with_reducible exact Le.rfl _ | with_reducible exact Ms_dyPower _ _ | with_reducible exact Ms_dyFloor _ _ _ | with_reducible exact Ms_l1Sign _ _ | with_reducible exact Ms_dyAt _ _ _ _ | with_reducible refine Le.cond ?_ ?_ | with_reducible refine Le.bind ?_ fun _ => ?_
theorem Rs_dyCmp (a_N : Int) (a_K : Int) (b_N : Int) (b_K : Int) : Lim (fun k => f117 k a_N a_K b_N b_K) (s_dyCmp a_N a_K b_N b_K) := by
  unfold f117 s_dyCmp
  repeat' first | with_reducible exact Lim.ret _ | with_reducible exact Rs_dyPower _ | with_reducible exact Rs_dyFloor _ _ | with_reducible exact Rs_l1Sign _ | with_reducible exact Rs_dyAt _ _ _ | with_reducible refine Lim.cond ?_ ?_ | with_reducible refine Lim.bind ?_ fun _ => ?_

-- spec.dyInt
noncomputable def s_dyInt (n : Int) : Option (Int × Int) :=
  some ((n, 0))
theorem Ms_dyInt (k : Nat) (n : Int) : Le (f118 k n) (f118 (k + 1) n) := by
  unfold f118
  repeat' first | with_reducible exact Le.rfl _ | with_reducible refine Le.cond ?_ ?_ | with_reducible refine Le.bind ?_ fun _ => ?_
theorem Rs_dyInt (n : Int) : Lim (fun k => f118 k n) (s_dyInt n) := by
  unfold f118 s_dyInt
  repeat' first | with_reducible exact Lim.ret _ | with_reducible refine Lim.cond ?_ ?_ | with_reducible refine Lim.bind ?_ fun _ => ?_

-- spec.faX
noncomputable def s_faX (x_N : Int) (x_K : Int) : Option (Bool) :=
  (s_dyGood x_N x_K).bind fun r0 =>
  bif r0 then
    bif decide (x_K ≤ 5) then
      (s_dyCmp (-8) 0 x_N x_K).bind fun r1 =>
      bif decide (r1 ≤ 0) then
        (s_dyCmp x_N x_K 8 0).bind fun r2 =>
        some (decide (r2 ≤ 0))
      else
        some false
    else
      some false
  else
    some false
theorem Ms_faX (k : Nat) (x_N : Int) (x_K : Int) : Le (f86 k x_N x_K) (f86 (k + 1) x_N x_K) := by
  unfold f86
  repeat' first | with_reducible exact Le.rfl _ | with_reducible exact Ms_dyGood _ _ _ | with_reducible exact Ms_dyCmp _ _ _ _ _ | with_reducible refine Le.cond ?_ ?_ | with_reducible refine Le.bind ?_ fun _ => ?_
theorem Rs_faX (x_N : Int) (x_K : Int) : Lim (fun k => f86 k x_N x_K) (s_faX x_N x_K) := by
  unfold f86 s_faX
  repeat' first | with_reducible exact Lim.ret _ | with_reducible exact Rs_dyGood _ _ | with_reducible exact Rs_dyCmp _ _ _ _ | with_reducible refine Lim.cond ?_ ?_ | with_reducible refine Lim.bind ?_ fun _ => ?_

-- spec.faAt
theorem MFs_faAt_1003 (k : Nat) {r1003 q1003 : List Int → Int → Int → List Int → List Int → Int → Int → Option (List (Int))} (h1003 : ∀ (q : List Int) (i : Int) (fine : Int) (outs : List Int) (t15 : List Int) (t16 : Int) (t17 : Int), Le (r1003 q i fine outs t15 t16 t17) (q1003 q i fine outs t15 t16 t17)) {r1008 q1008 : Int → List Int → List Int → Int → Int → Option (List (Int))} (h1008 : ∀ (i : Int) (outs : List Int) (t33 : List Int) (t34 : Int) (t35 : Int), Le (r1008 i outs t33 t34 t35) (q1008 i outs t33 t34 t35)) (q : List Int) (i : Int) (fine : Int) (outs : List Int) (t15 : List Int) (t16 : Int) (t17 : Int) : Le (F64_1003 k r1003 r1008 q i fine outs t15 t16 t17) (F64_1003 (k + 1) q1003 q1008 q i fine outs t15 t16 t17) := by
  unfold F64_1003
  repeat' first | with_reducible exact Le.rfl _ | with_reducible exact Ms_dyPower _ _ | with_reducible exact h1003 _ _ _ _ _ _ _ | with_reducible exact h1008 _ _ _ _ _ | with_reducible refine Le.cond ?_ ?_ | with_reducible refine Le.bind ?_ fun _ => ?_
theorem MFs_faAt_1008 (k : Nat) {r1003 q1003 : List Int → Int → Int → List Int → List Int → Int → Int → Option (List (Int))} (h1003 : ∀ (q : List Int) (i : Int) (fine : Int) (outs : List Int) (t15 : List Int) (t16 : Int) (t17 : Int), Le (r1003 q i fine outs t15 t16 t17) (q1003 q i fine outs t15 t16 t17)) {r1008 q1008 : Int → List Int → List Int → Int → Int → Option (List (Int))} (h1008 : ∀ (i : Int) (outs : List Int) (t33 : List Int) (t34 : Int) (t35 : Int), Le (r1008 i outs t33 t34 t35) (q1008 i outs t33 t34 t35)) (i : Int) (outs : List Int) (t33 : List Int) (t34 : Int) (t35 : Int) : Le (F64_1008 k r1003 r1008 i outs t33 t34 t35) (F64_1008 (k + 1) q1003 q1008 i outs t33 t34 t35) := by
  unfold F64_1008
  repeat' first | with_reducible exact Le.rfl _ | with_reducible exact h1003 _ _ _ _ _ _ _ | with_reducible exact h1008 _ _ _ _ _ | with_reducible refine Le.cond ?_ ?_ | with_reducible refine Le.bind ?_ fun _ => ?_
theorem Mls_faAt : ∀ k : Nat, (∀ (q : List Int) (i : Int) (fine : Int) (outs : List Int) (t15 : List Int) (t16 : Int) (t17 : Int), Le ((l64 k).1 q i fine outs t15 t16 t17) ((l64 (k + 1)).1 q i fine outs t15 t16 t17)) ∧ (∀ (i : Int) (outs : List Int) (t33 : List Int) (t34 : Int) (t35 : Int), Le ((l64 k).2 i outs t33 t34 t35) ((l64 (k + 1)).2 i outs t33 t34 t35))
  | 0 => ⟨fun q i fine outs t15 t16 t17 => Le.no _, fun i outs t33 t34 t35 => Le.no _⟩
  | k + 1 => by
    have h := Mls_faAt k
    exact ⟨fun q i fine outs t15 t16 t17 => MFs_faAt_1003 k h.1 h.2 q i fine outs t15 t16 t17, fun i outs t33 t34 t35 => MFs_faAt_1008 k h.1 h.2 i outs t33 t34 t35⟩
noncomputable def s_faAt_1003 (q : List Int) (i : Int) (fine : Int) (outs : List Int) (t15 : List Int) (t16 : Int) (t17 : Int) : Option (List (Int)) := lim fun k => (l64 k).1 q i fine outs t15 t16 t17
theorem Rls_faAt_1003 (q : List Int) (i : Int) (fine : Int) (outs : List Int) (t15 : List Int) (t16 : Int) (t17 : Int) : Lim (fun k => (l64 k).1 q i fine outs t15 t16 t17) (s_faAt_1003 q i fine outs t15 t16 t17) := Lim.of_mono fun k => (Mls_faAt k).1 q i fine outs t15 t16 t17
noncomputable def s_faAt_1008 (i : Int) (outs : List Int) (t33 : List Int) (t34 : Int) (t35 : Int) : Option (List (Int)) := lim fun k => (l64 k).2 i outs t33 t34 t35
theorem Rls_faAt_1008 (i : Int) (outs : List Int) (t33 : List Int) (t34 : Int) (t35 : Int) : Lim (fun k => (l64 k).2 i outs t33 t34 t35) (s_faAt_1008 i outs t33 t34 t35) := Lim.of_mono fun k => (Mls_faAt k).2 i outs t33 t34 t35
theorem Es_faAt_1003 (q : List Int) (i : Int) (fine : Int) (outs : List Int) (t15 : List Int) (t16 : Int) (t17 : Int) : s_faAt_1003 q i fine outs t15 t16 t17 =
  bif decide (t17 < t16) then
    bif boundA t17 (List.length t15) then
      bif boundA t17 (List.length outs) then
        bif Nat.blt (Int.toNat t17) (List.length outs) then
          (s_dyPower fine).bind fun r0 =>
          bif boundA t17 (List.length outs) then
            bif Nat.blt (Int.toNat t17) (List.length outs) then
              s_faAt_1003 q i fine (List.set outs (Int.toNat t17) (IntKind.wrap IntKind.i64 (List.getD outs (Int.toNat t17) 0 + IntKind.wrap IntKind.i64 (List.getD t15 (Int.toNat t17) 0 * r0)))) t15 t16 (IntKind.wrap IntKind.i64 (t17 + 1))
            else
              none
          else
            none
        else
          none
      else
        none
    else
      none
  else
    s_faAt_1008 i outs q ((↑(List.length q) : Int)) (0) := by
  refine Lim.uniq (Lim.shift (Rls_faAt_1003 q i fine outs t15 t16 t17)) (?_ : Lim (fun k => F64_1003 k ((l64 k).1) ((l64 k).2) q i fine outs t15 t16 t17) _)
  unfold F64_1003
  repeat' first | with_reducible exact Lim.ret _ | with_reducible exact Rs_dyPower _ | with_reducible exact Rls_faAt_1003 _ _ _ _ _ _ _ | with_reducible exact Rls_faAt_1008 _ _ _ _ _ | with_reducible refine Lim.cond ?_ ?_ | with_reducible refine Lim.bind ?_ fun _ => ?_
theorem Es_faAt_1008 (i : Int) (outs : List Int) (t33 : List Int) (t34 : Int) (t35 : Int) : s_faAt_1008 i outs t33 t34 t35 =
  bif decide (t35 < t34) then
    bif boundA t35 (List.length t33) then
      bif boundA t35 (List.length outs) then
        bif Nat.blt (Int.toNat t35) (List.length outs) then
          bif boundA t35 (List.length outs) then
            bif Nat.blt (Int.toNat t35) (List.length outs) then
              s_faAt_1008 i (List.set outs (Int.toNat t35) (IntKind.wrap IntKind.i64 (List.getD outs (Int.toNat t35) 0 + IntKind.wrap IntKind.i64 (List.getD t33 (Int.toNat t35) 0 * i)))) t33 t34 (IntKind.wrap IntKind.i64 (t35 + 1))
            else
              none
          else
            none
        else
          none
      else
        none
    else
      none
  else
    some outs := by
  refine Lim.uniq (Lim.shift (Rls_faAt_1008 i outs t33 t34 t35)) (?_ : Lim (fun k => F64_1008 k ((l64 k).1) ((l64 k).2) i outs t33 t34 t35) _)
  unfold F64_1008
  repeat' first | with_reducible exact Lim.ret _ | with_reducible exact Rls_faAt_1003 _ _ _ _ _ _ _ | with_reducible exact Rls_faAt_1008 _ _ _ _ _ | with_reducible refine Lim.cond ?_ ?_ | with_reducible refine Lim.bind ?_ fun _ => ?_
noncomputable def s_faAt (p : List (Int)) (q : List (Int)) (i : Int) (fine : Int) : Option (List (Int)) :=
  s_faAt_1003 q i fine (List.replicate (Int.toNat 6) (dflt (Ty.int IntKind.i64))) p ((↑(List.length p) : Int)) (0)
theorem Ms_faAt (k : Nat) (p : List (Int)) (q : List (Int)) (i : Int) (fine : Int) : Le (f64 k p q i fine) (f64 (k + 1) p q i fine) := by
  have h := Mls_faAt k
  unfold f64 F64
  repeat' first | with_reducible exact Le.rfl _ | with_reducible exact h.1 _ _ _ _ _ _ _ | with_reducible exact h.2 _ _ _ _ _ | with_reducible refine Le.cond ?_ ?_ | with_reducible refine Le.bind ?_ fun _ => ?_
theorem Rs_faAt (p : List (Int)) (q : List (Int)) (i : Int) (fine : Int) : Lim (fun k => f64 k p q i fine) (s_faAt p q i fine) := by
  unfold f64 F64 s_faAt
  repeat' first | with_reducible exact Lim.ret _ | with_reducible exact Rls_faAt_1003 _ _ _ _ _ _ _ | with_reducible exact Rls_faAt_1008 _ _ _ _ _ | with_reducible refine Lim.cond ?_ ?_ | with_reducible refine Lim.bind ?_ fun _ => ?_

-- spec.sgSign
theorem MFs_sgSign_1003 (k : Nat) {r1003 q1003 : Int → Int → Int → Int → List Int → Int → Int → Option (Int)} (h1003 : ∀ (n : Int) (k_ : Int) (sum : Int) (up : Int) (t11 : List Int) (t12 : Int) (t13 : Int), Le (r1003 n k_ sum up t11 t12 t13) (q1003 n k_ sum up t11 t12 t13)) (n : Int) (k_ : Int) (sum : Int) (up : Int) (t11 : List Int) (t12 : Int) (t13 : Int) : Le (F150_1003 k r1003 n k_ sum up t11 t12 t13) (F150_1003 (k + 1) q1003 n k_ sum up t11 t12 t13) := by
  unfold F150_1003
  repeat' first | with_reducible exact Le.rfl _ | with_reducible exact Ms_dyPower _ _ | with_reducible exact Ms_l1Sign _ _ | with_reducible exact h1003 _ _ _ _ _ _ _ | with_reducible refine Le.cond ?_ ?_ | with_reducible refine Le.bind ?_ fun _ => ?_
theorem Mls_sgSign : ∀ k : Nat, ∀ (n : Int) (k_ : Int) (sum : Int) (up : Int) (t11 : List Int) (t12 : Int) (t13 : Int), Le ((l150 k) n k_ sum up t11 t12 t13) ((l150 (k + 1)) n k_ sum up t11 t12 t13)
  | 0 => fun n k_ sum up t11 t12 t13 => Le.no _
  | k + 1 => by
    have h := Mls_sgSign k
    exact fun n k_ sum up t11 t12 t13 => MFs_sgSign_1003 k h n k_ sum up t11 t12 t13
noncomputable def s_sgSign_1003 (n : Int) (k_ : Int) (sum : Int) (up : Int) (t11 : List Int) (t12 : Int) (t13 : Int) : Option (Int) := lim fun k => (l150 k) n k_ sum up t11 t12 t13
theorem Rls_sgSign_1003 (n : Int) (k_ : Int) (sum : Int) (up : Int) (t11 : List Int) (t12 : Int) (t13 : Int) : Lim (fun k => (l150 k) n k_ sum up t11 t12 t13) (s_sgSign_1003 n k_ sum up t11 t12 t13) := Lim.of_mono fun k => Mls_sgSign k n k_ sum up t11 t12 t13
theorem Es_sgSign_1003 (n : Int) (k_ : Int) (sum : Int) (up : Int) (t11 : List Int) (t12 : Int) (t13 : Int) : s_sgSign_1003 n k_ sum up t11 t12 t13 =
  bif decide (t13 < t12) then
    bif boundA t13 (List.length t11) then
      (s_dyPower k_).bind fun r0 =>
      s_sgSign_1003 n k_ (IntKind.wrap IntKind.i64 (IntKind.wrap IntKind.i64 (sum * r0) + IntKind.wrap IntKind.i64 (List.getD t11 (Int.toNat t13) 0 * up))) (IntKind.wrap IntKind.i64 (up * n)) t11 t12 (IntKind.wrap IntKind.i64 (t13 + 1))
    else
      none
  else
    (s_l1Sign sum).bind fun r1 =>
    some r1 := by
  refine Lim.uniq (Lim.shift (Rls_sgSign_1003 n k_ sum up t11 t12 t13)) (?_ : Lim (fun k => F150_1003 k ((l150 k)) n k_ sum up t11 t12 t13) _)
  unfold F150_1003
  repeat' first | with_reducible exact Lim.ret _ | with_reducible exact Rs_dyPower _ | with_reducible exact Rs_l1Sign _ | with_reducible exact Rls_sgSign_1003 _ _ _ _ _ _ _ | with_reducible refine Lim.cond ?_ ?_ | with_reducible refine Lim.bind ?_ fun _ => ?_
noncomputable def s_sgSign (p : List (Int)) (n : Int) (k_ : Int) : Option (Int) :=
  s_sgSign_1003 n k_ (0) (1) p ((↑(List.length p) : Int)) (0)
theorem Ms_sgSign (k : Nat) (p : List (Int)) (n : Int) (k_ : Int) : Le (f150 k p n k_) (f150 (k + 1) p n k_) := by
  have h := Mls_sgSign k
  unfold f150 F150
  repeat' first | with_reducible exact Le.rfl _ | with_reducible exact h _ _ _ _ _ _ _ | with_reducible refine Le.cond ?_ ?_ | with_reducible refine Le.bind ?_ fun _ => ?_
theorem Rs_sgSign (p : List (Int)) (n : Int) (k_ : Int) : Lim (fun k => f150 k p n k_) (s_sgSign p n k_) := by
  unfold f150 F150 s_sgSign
  repeat' first | with_reducible exact Lim.ret _ | with_reducible exact Rls_sgSign_1003 _ _ _ _ _ _ _ | with_reducible refine Lim.cond ?_ ?_ | with_reducible refine Lim.bind ?_ fun _ => ?_

-- spec.faSign
noncomputable def s_faSign (p : List (Int)) (q : List (Int)) (x_N : Int) (x_K : Int) (i : Int) (fine : Int) : Option (Int) :=
  (s_faAt p q i fine).bind fun r0 =>
  (s_sgSign r0 x_N x_K).bind fun r1 =>
  some r1
theorem Ms_faSign (k : Nat) (p : List (Int)) (q : List (Int)) (x_N : Int) (x_K : Int) (i : Int) (fine : Int) : Le (f119 k p q x_N x_K i fine) (f119 (k + 1) p q x_N x_K i fine) := by
  unfold f119
  repeat' first | with_reducible exact Le.rfl _ | with_reducible exact Ms_sgSign _ _ _ _ | with_reducible exact Ms_faAt _ _ _ _ _ | with_reducible refine Le.cond ?_ ?_ | with_reducible refine Le.bind ?_ fun _ => ?_
theorem Rs_faSign (p : List (Int)) (q : List (Int)) (x_N : Int) (x_K : Int) (i : Int) (fine : Int) : Lim (fun k => f119 k p q x_N x_K i fine) (s_faSign p q x_N x_K i fine) := by
  unfold f119 s_faSign
  repeat' first | with_reducible exact Lim.ret _ | with_reducible exact Rs_sgSign _ _ _ | with_reducible exact Rs_faAt _ _ _ _ | with_reducible refine Lim.cond ?_ ?_ | with_reducible refine Lim.bind ?_ fun _ => ?_

-- spec.faBoth
noncomputable def s_faBoth (p : List (Int)) (q : List (Int)) (x_N : Int) (x_K : Int) (i : Int) (k_ : Int) (fine : Int) : Option (Int) :=
  (s_faSign p q x_N x_K i fine).bind fun r0 =>
  (s_faSign p q x_N x_K k_ fine).bind fun r1 =>
  bif !decide (r1 = r0) then
    some (0)
  else
    some r0
theorem Ms_faBoth (k : Nat) (p : List (Int)) (q : List (Int)) (x_N : Int) (x_K : Int) (i : Int) (k_ : Int) (fine : Int) : Le (f87 k p q x_N x_K i k_ fine) (f87 (k + 1) p q x_N x_K i k_ fine) := by
  unfold f87
  repeat' first | with_reducible exact Le.rfl _ | with_reducible exact Ms_faSign _ _ _ _ _ _ _ | with_reducible refine Le.cond ?_ ?_ | with_reducible refine Le.bind ?_ fun _ => ?_
theorem Rs_faBoth (p : List (Int)) (q : List (Int)) (x_N : Int) (x_K : Int) (i : Int) (k_ : Int) (fine : Int) : Lim (fun k => f87 k p q x_N x_K i k_ fine) (s_faBoth p q x_N x_K i k_ fine) := by
  unfold f87 s_faBoth
  repeat' first | with_reducible exact Lim.ret _ | with_reducible exact Rs_faSign _ _ _ _ _ _ | with_reducible refine Lim.cond ?_ ?_ | with_reducible refine Lim.bind ?_ fun _ => ?_

-- spec.FamilySign
noncomputable def s_FamilySign (p : List (Int)) (q : List (Int)) (x_N : Int) (x_K : Int) (i : Int) (k_ : Int) (fine : Int) : Option (Int × Bool) :=
  (s_faMoment p q i fine).bind fun r0 =>
  bif !r0 then
    some ((0, false))
  else
    (s_faMoment p q k_ fine).bind fun r1 =>
    bif !r1 then
      some ((0, false))
    else
      (s_faX x_N x_K).bind fun r2 =>
      bif !r2 then
        some ((0, false))
      else
        (s_faBoth p q x_N x_K i k_ fine).bind fun r3 =>
        some ((r3, true))
theorem Ms_FamilySign (k : Nat) (p : List (Int)) (q : List (Int)) (x_N : Int) (x_K : Int) (i : Int) (k_ : Int) (fine : Int) : Le (f42 k p q x_N x_K i k_ fine) (f42 (k + 1) p q x_N x_K i k_ fine) := by
  unfold f42
  repeat' first | with_reducible exact Le.rfl _ | with_reducible exact Ms_faMoment _ _ _ _ _ | with_reducible exact Ms_faX _ _ _ | with_reducible exact Ms_faBoth _ _ _ _ _ _ _ _ | with_reducible refine Le.cond ?_ ?_ | with_reducible refine Le.bind ?_ fun _ => ?_
theorem Rs_FamilySign (p : List (Int)) (q : List (Int)) (x_N : Int) (x_K : Int) (i : Int) (k_ : Int) (fine : Int) : Lim (fun k => f42 k p q x_N x_K i k_ fine) (s_FamilySign p q x_N x_K i k_ fine) := by
  unfold f42 s_FamilySign
  repeat' first | with_reducible exact Lim.ret _ | with_reducible exact Rs_faMoment _ _ _ _ | with_reducible exact Rs_faX _ _ | with_reducible exact Rs_faBoth _ _ _ _ _ _ _ | with_reducible refine Lim.cond ?_ ?_ | with_reducible refine Lim.bind ?_ fun _ => ?_

-- laws.toDyadic
noncomputable def w_toDyadic (a_N : Int) (a_K : Int) : Option (Int × Int) :=
  some ((a_N, a_K))
theorem Mw_toDyadic (k : Nat) (a_N : Int) (a_K : Int) : Le (f43 k a_N a_K) (f43 (k + 1) a_N a_K) := by
  unfold f43
  repeat' first | with_reducible exact Le.rfl _ | with_reducible refine Le.cond ?_ ?_ | with_reducible refine Le.bind ?_ fun _ => ?_
theorem Rw_toDyadic (a_N : Int) (a_K : Int) : Lim (fun k => f43 k a_N a_K) (w_toDyadic a_N a_K) := by
  unfold f43 w_toDyadic
  repeat' first | with_reducible exact Lim.ret _ | with_reducible refine Lim.cond ?_ ?_ | with_reducible refine Lim.bind ?_ fun _ => ?_

-- impl.inside
noncomputable def i_inside (n : Int) (low : Int) (high : Int) : Option (Bool) :=
  bif decide (low ≤ n) then
    some (decide (n ≤ high))
  else
    some false
theorem Mi_inside (k : Nat) (n : Int) (low : Int) (high : Int) : Le (f74 k n low high) (f74 (k + 1) n low high) := by
  unfold f74
  repeat' first | with_reducible exact Le.rfl _ | with_reducible refine Le.cond ?_ ?_ | with_reducible refine Le.bind ?_ fun _ => ?_
theorem Ri_inside (n : Int) (low : Int) (high : Int) : Lim (fun k => f74 k n low high) (i_inside n low high) := by
  unfold f74 i_inside
  repeat' first | with_reducible exact Lim.ret _ | with_reducible refine Lim.cond ?_ ?_ | with_reducible refine Lim.bind ?_ fun _ => ?_

-- impl.isSingle
theorem MFi_isSingle_1002 (k : Nat) {r1002 q1002 : List Int → List Int → Int → Int → Option (Bool)} (h1002 : ∀ (p : List Int) (t5 : List Int) (t6 : Int) (t7 : Int), Le (r1002 p t5 t6 t7) (q1002 p t5 t6 t7)) (p : List Int) (t5 : List Int) (t6 : Int) (t7 : Int) : Le (F143_1002 k r1002 p t5 t6 t7) (F143_1002 (k + 1) q1002 p t5 t6 t7) := by
  unfold F143_1002
  repeat' first | with_reducible exact Le.rfl _ | with_reducible exact Mi_inside _ _ _ _ | with_reducible exact h1002 _ _ _ _ | with_reducible refine Le.cond ?_ ?_ | with_reducible refine Le.bind ?_ fun _ => ?_
theorem Mli_isSingle : ∀ k : Nat, ∀ (p : List Int) (t5 : List Int) (t6 : Int) (t7 : Int), Le ((l143 k) p t5 t6 t7) ((l143 (k + 1)) p t5 t6 t7)
  | 0 => fun p t5 t6 t7 => Le.no _
  | k + 1 => by
    have h := Mli_isSingle k
    exact fun p t5 t6 t7 => MFi_isSingle_1002 k h p t5 t6 t7
noncomputable def i_isSingle_1002 (p : List Int) (t5 : List Int) (t6 : Int) (t7 : Int) : Option (Bool) := lim fun k => (l143 k) p t5 t6 t7
theorem Rli_isSingle_1002 (p : List Int) (t5 : List Int) (t6 : Int) (t7 : Int) : Lim (fun k => (l143 k) p t5 t6 t7) (i_isSingle_1002 p t5 t6 t7) := Lim.of_mono fun k => Mli_isSingle k p t5 t6 t7
theorem Ei_isSingle_1002 (p : List Int) (t5 : List Int) (t6 : Int) (t7 : Int) : i_isSingle_1002 p t5 t6 t7 =
  bif decide (t7 < t6) then
    bif boundA t7 (List.length t5) then
      (i_inside (List.getD t5 (Int.toNat t7) 0) (-1000000) 1000000).bind fun r0 =>
      bif !r0 then
        some false
      else
        i_isSingle_1002 p t5 t6 (IntKind.wrap IntKind.i64 (t7 + 1))
    else
      none
  else
    bif decide ((↑(List.length p) : Int) = 0) then
      some true
    else
      bif decide ((↑(List.length p) : Int) ≤ 9) then
        bif boundA (IntKind.wrap IntKind.i64 ((↑(List.length p) : Int) - 1)) (List.length p) then
          some (!decide (List.getD p (Int.toNat (IntKind.wrap IntKind.i64 ((↑(List.length p) : Int) - 1))) 0 = 0))
        else
          none
      else
        some false := by
  refine Lim.uniq (Lim.shift (Rli_isSingle_1002 p t5 t6 t7)) (?_ : Lim (fun k => F143_1002 k ((l143 k)) p t5 t6 t7) _)
  unfold F143_1002
  repeat' first | with_reducible exact Lim.ret _ | with_reducible exact Ri_inside _ _ _ | with_reducible exact Rli_isSingle_1002 _ _ _ _ | with_reducible refine Lim.cond ?_ ?_ | with_reducible refine Lim.bind ?_ fun _ => ?_
noncomputable def i_isSingle (p : List (Int)) : Option (Bool) :=
  i_isSingle_1002 p p ((↑(List.length p) : Int)) (0)
theorem Mi_isSingle (k : Nat) (p : List (Int)) : Le (f143 k p) (f143 (k + 1) p) := by
  have h := Mli_isSingle k
  unfold f143 F143
  repeat' first | with_reducible exact Le.rfl _ | with_reducible exact h _ _ _ _ | with_reducible refine Le.cond ?_ ?_ | with_reducible refine Le.bind ?_ fun _ => ?_
theorem Ri_isSingle (p : List (Int)) : Lim (fun k => f143 k p) (i_isSingle p) := by
  unfold f143 F143 i_isSingle
  repeat' first | with_reducible exact Lim.ret _ | with_reducible exact Rli_isSingle_1002 _ _ _ _ | with_reducible refine Lim.cond ?_ ?_ | with_reducible refine Lim.bind ?_ fun _ => ?_

-- impl.isSmall$1
noncomputable def i_isSmall_1 (c : Int) : Option (Bool) :=
  (i_inside c (-1000) 1000).bind fun r0 =>
  some (!r0)
theorem Mi_isSmall_1 (k : Nat) (c : Int) : Le (f145 k c) (f145 (k + 1) c) := by
  unfold f145
  repeat' first | with_reducible exact Le.rfl _ | with_reducible exact Mi_inside _ _ _ _ | with_reducible refine Le.cond ?_ ?_ | with_reducible refine Le.bind ?_ fun _ => ?_
theorem Ri_isSmall_1 (c : Int) : Lim (fun k => f145 k c) (i_isSmall_1 c) := by
  unfold f145 i_isSmall_1
  repeat' first | with_reducible exact Lim.ret _ | with_reducible exact Ri_inside _ _ _ | with_reducible refine Lim.cond ?_ ?_ | with_reducible refine Lim.bind ?_ fun _ => ?_

-- slices.IndexFunc[[]int,int]
theorem MFslices_IndexFunc_int_int_i_isSmall_1_1002 (k : Nat) {r1002 q1002 : List Int → Int → Int → Option (Int)} (h1002 : ∀ (s : List Int) (t7 : Int) (t8 : Int), Le (r1002 s t7 t8) (q1002 s t7 t8)) (s : List Int) (t7 : Int) (t8 : Int) : Le (F174_145_1002 k r1002 s t7 t8) (F174_145_1002 (k + 1) q1002 s t7 t8) := by
  unfold F174_145_1002
  repeat' first | with_reducible exact Le.rfl _ | with_reducible exact Mi_isSmall_1 _ _ | with_reducible exact h1002 _ _ _ | with_reducible refine Le.cond ?_ ?_ | with_reducible refine Le.bind ?_ fun _ => ?_
theorem Mlslices_IndexFunc_int_int_i_isSmall_1 : ∀ k : Nat, ∀ (s : List Int) (t7 : Int) (t8 : Int), Le ((l174_145 k) s t7 t8) ((l174_145 (k + 1)) s t7 t8)
  | 0 => fun s t7 t8 => Le.no _
  | k + 1 => by
    have h := Mlslices_IndexFunc_int_int_i_isSmall_1 k
    exact fun s t7 t8 => MFslices_IndexFunc_int_int_i_isSmall_1_1002 k h s t7 t8
noncomputable def slices_IndexFunc_int_int_i_isSmall_1_1002 (s : List Int) (t7 : Int) (t8 : Int) : Option (Int) := lim fun k => (l174_145 k) s t7 t8
theorem Rlslices_IndexFunc_int_int_i_isSmall_1_1002 (s : List Int) (t7 : Int) (t8 : Int) : Lim (fun k => (l174_145 k) s t7 t8) (slices_IndexFunc_int_int_i_isSmall_1_1002 s t7 t8) := Lim.of_mono fun k => Mlslices_IndexFunc_int_int_i_isSmall_1 k s t7 t8
theorem Eslices_IndexFunc_int_int_i_isSmall_1_1002 (s : List Int) (t7 : Int) (t8 : Int) : slices_IndexFunc_int_int_i_isSmall_1_1002 s t7 t8 =
  bif decide (t8 < t7) then
    bif boundA t8 (List.length s) then
      (i_isSmall_1 (List.getD s (Int.toNat t8) 0)).bind fun r0 =>
      bif r0 then
        some t8
      else
        slices_IndexFunc_int_int_i_isSmall_1_1002 s t7 (IntKind.wrap IntKind.i64 (t8 + 1))
    else
      none
  else
    some (-1) := by
  refine Lim.uniq (Lim.shift (Rlslices_IndexFunc_int_int_i_isSmall_1_1002 s t7 t8)) (?_ : Lim (fun k => F174_145_1002 k ((l174_145 k)) s t7 t8) _)
  unfold F174_145_1002
  repeat' first | with_reducible exact Lim.ret _ | with_reducible exact Ri_isSmall_1 _ | with_reducible exact Rlslices_IndexFunc_int_int_i_isSmall_1_1002 _ _ _ | with_reducible refine Lim.cond ?_ ?_ | with_reducible refine Lim.bind ?_ fun _ => ?_
noncomputable def slices_IndexFunc_int_int_i_isSmall_1 (s : List (Int)) : Option (Int) :=
  slices_IndexFunc_int_int_i_isSmall_1_1002 s ((↑(List.length s) : Int)) (0)
theorem Mslices_IndexFunc_int_int_i_isSmall_1 (k : Nat) (s : List (Int)) : Le (f174_145 k s) (f174_145 (k + 1) s) := by
  have h := Mlslices_IndexFunc_int_int_i_isSmall_1 k
  unfold f174_145 F174_145
  repeat' first | with_reducible exact Le.rfl _ | with_reducible exact h _ _ _ | with_reducible refine Le.cond ?_ ?_ | with_reducible refine Le.bind ?_ fun _ => ?_
theorem Rslices_IndexFunc_int_int_i_isSmall_1 (s : List (Int)) : Lim (fun k => f174_145 k s) (slices_IndexFunc_int_int_i_isSmall_1 s) := by
  unfold f174_145 F174_145 slices_IndexFunc_int_int_i_isSmall_1
  repeat' first | with_reducible exact Lim.ret _ | with_reducible exact Rlslices_IndexFunc_int_int_i_isSmall_1_1002 _ _ _ | with_reducible refine Lim.cond ?_ ?_ | with_reducible refine Lim.bind ?_ fun _ => ?_

-- slices.ContainsFunc[[]int,int]
noncomputable def slices_ContainsFunc_int_int_i_isSmall_1 (s : List (Int)) : Option (Bool) :=
  (slices_IndexFunc_int_int_i_isSmall_1 s).bind fun r0 =>
  some (decide (0 ≤ r0))
theorem Mslices_ContainsFunc_int_int_i_isSmall_1 (k : Nat) (s : List (Int)) : Le (f144_145 k s) (f144_145 (k + 1) s) := by
  unfold f144_145
  repeat' first | with_reducible exact Le.rfl _ | with_reducible exact Mslices_IndexFunc_int_int_i_isSmall_1 _ _ | with_reducible refine Le.cond ?_ ?_ | with_reducible refine Le.bind ?_ fun _ => ?_
theorem Rslices_ContainsFunc_int_int_i_isSmall_1 (s : List (Int)) : Lim (fun k => f144_145 k s) (slices_ContainsFunc_int_int_i_isSmall_1 s) := by
  unfold f144_145 slices_ContainsFunc_int_int_i_isSmall_1
  repeat' first | with_reducible exact Lim.ret _ | with_reducible exact Rslices_IndexFunc_int_int_i_isSmall_1 _ | with_reducible refine Lim.cond ?_ ?_ | with_reducible refine Lim.bind ?_ fun _ => ?_

-- impl.isSmall
noncomputable def i_isSmall (p : List (Int)) : Option (Bool) :=
  (i_isSingle p).bind fun r0 =>
  bif r0 then
    (i_inside (↑(List.length p) : Int) 1 6).bind fun r1 =>
    bif r1 then
      (slices_ContainsFunc_int_int_i_isSmall_1 p).bind fun r2 =>
      some (!r2)
    else
      some false
  else
    some false
theorem Mi_isSmall (k : Nat) (p : List (Int)) : Le (f109 k p) (f109 (k + 1) p) := by
  unfold f109
  repeat' first | with_reducible exact Le.rfl _ | with_reducible exact Mi_isSingle _ _ | with_reducible exact Mslices_ContainsFunc_int_int_i_isSmall_1 _ _ | with_reducible exact Mi_inside _ _ _ _ | with_reducible refine Le.cond ?_ ?_ | with_reducible refine Le.bind ?_ fun _ => ?_
theorem Ri_isSmall (p : List (Int)) : Lim (fun k => f109 k p) (i_isSmall p) := by
  unfold f109 i_isSmall
  repeat' first | with_reducible exact Lim.ret _ | with_reducible exact Ri_isSingle _ | with_reducible exact Rslices_ContainsFunc_int_int_i_isSmall_1 _ | with_reducible exact Ri_inside _ _ _ | with_reducible refine Lim.cond ?_ ?_ | with_reducible refine Lim.bind ?_ fun _ => ?_

-- impl.isFamily
noncomputable def i_isFamily (p : List (Int)) (q : List (Int)) (fine : Int) : Option (Bool) :=
  (i_isSmall p).bind fun r0 =>
  bif r0 then
    (i_isSmall q).bind fun r1 =>
    bif r1 then
      (i_inside fine 0 4).bind fun r2 =>
      some r2
    else
      some false
  else
    some false
theorem Mi_isFamily (k : Nat) (p : List (Int)) (q : List (Int)) (fine : Int) : Le (f66 k p q fine) (f66 (k + 1) p q fine) := by
  unfold f66
  repeat' first | with_reducible exact Le.rfl _ | with_reducible exact Mi_isSmall _ _ | with_reducible exact Mi_inside _ _ _ _ | with_reducible refine Le.cond ?_ ?_ | with_reducible refine Le.bind ?_ fun _ => ?_
theorem Ri_isFamily (p : List (Int)) (q : List (Int)) (fine : Int) : Lim (fun k => f66 k p q fine) (i_isFamily p q fine) := by
  unfold f66 i_isFamily
  repeat' first | with_reducible exact Lim.ret _ | with_reducible exact Ri_isSmall _ | with_reducible exact Ri_inside _ _ _ | with_reducible refine Lim.cond ?_ ?_ | with_reducible refine Lim.bind ?_ fun _ => ?_

-- impl.isMoment
noncomputable def i_isMoment (i : Int) (fine : Int) : Option (Bool) :=
  bif !decide (fine < 0) then
    (i_inside i 0 (IntKind.wrap IntKind.i64 (1 * 2 ^ min (Int.toNat fine) (IntKind.bits IntKind.i64)))).bind fun r0 =>
    some r0
  else
    none
theorem Mi_isMoment (k : Nat) (i : Int) (fine : Int) : Le (f67 k i fine) (f67 (k + 1) i fine) := by
  unfold f67
  repeat' first | with_reducible exact Le.rfl _ | with_reducible exact Mi_inside _ _ _ _ | with_reducible refine Le.cond ?_ ?_ | with_reducible refine Le.bind ?_ fun _ => ?_
theorem Ri_isMoment (i : Int) (fine : Int) : Lim (fun k => f67 k i fine) (i_isMoment i fine) := by
  unfold f67 i_isMoment
  repeat' first | with_reducible exact Lim.ret _ | with_reducible exact Ri_inside _ _ _ | with_reducible refine Lim.cond ?_ ?_ | with_reducible refine Lim.bind ?_ fun _ => ?_

-- impl.isPlaces
noncomputable def i_isPlaces (places : Int) : Option (Bool) :=
  (i_inside places 0 24).bind fun r0 =>
  some r0
theorem Mi_isPlaces (k : Nat) (places : Int) : Le (f151 k places) (f151 (k + 1) places) := by
  unfold f151
  repeat' first | with_reducible exact Le.rfl _ | with_reducible exact Mi_inside _ _ _ _ | with_reducible refine Le.cond ?_ ?_ | with_reducible refine Le.bind ?_ fun _ => ?_
theorem Ri_isPlaces (places : Int) : Lim (fun k => f151 k places) (i_isPlaces places) := by
  unfold f151 i_isPlaces
  repeat' first | with_reducible exact Lim.ret _ | with_reducible exact Ri_inside _ _ _ | with_reducible refine Lim.cond ?_ ?_ | with_reducible refine Lim.bind ?_ fun _ => ?_

-- impl.isDyadic
noncomputable def i_isDyadic (a_N : Int) (a_K : Int) : Option (Bool) :=
  (i_isPlaces a_K).bind fun r0 =>
  bif r0 then
    (i_inside a_N (-1099511627776) 1099511627776).bind fun r1 =>
    bif r1 then
      bif decide (a_K = 0) then
        some true
      else
        some (!decide (Int.tmod a_N 2 = 0))
    else
      some false
  else
    some false
theorem Mi_isDyadic (k : Nat) (a_N : Int) (a_K : Int) : Le (f120 k a_N a_K) (f120 (k + 1) a_N a_K) := by
  unfold f120
  repeat' first | with_reducible exact Le.rfl _ | with_reducible exact Mi_isPlaces _ _ | with_reducible exact Mi_inside _ _ _ _ | with_reducible refine Le.cond ?_ ?_ | with_reducible refine Le.bind ?_ fun _ => ?_
theorem Ri_isDyadic (a_N : Int) (a_K : Int) : Lim (fun k => f120 k a_N a_K) (i_isDyadic a_N a_K) := by
  unfold f120 i_isDyadic
  repeat' first | with_reducible exact Lim.ret _ | with_reducible exact Ri_isPlaces _ | with_reducible exact Ri_inside _ _ _ | with_reducible refine Lim.cond ?_ ?_ | with_reducible refine Lim.bind ?_ fun _ => ?_

-- impl.wide).isZero
noncomputable def i_wide_isZero (w_negative : Bool) (w_high : Int) (w_low : Int) : Option (Bool) :=
  bif decide (w_high = 0) then
    some (decide (w_low = 0))
  else
    some false
theorem Mi_wide_isZero (k : Nat) (w_negative : Bool) (w_high : Int) (w_low : Int) : Le (f192 k w_negative w_high w_low) (f192 (k + 1) w_negative w_high w_low) := by
  unfold f192
  repeat' first | with_reducible exact Le.rfl _ | with_reducible refine Le.cond ?_ ?_ | with_reducible refine Le.bind ?_ fun _ => ?_
theorem Ri_wide_isZero (w_negative : Bool) (w_high : Int) (w_low : Int) : Lim (fun k => f192 k w_negative w_high w_low) (i_wide_isZero w_negative w_high w_low) := by
  unfold f192 i_wide_isZero
  repeat' first | with_reducible exact Lim.ret _ | with_reducible refine Lim.cond ?_ ?_ | with_reducible refine Lim.bind ?_ fun _ => ?_

-- cmp.Or[int]
theorem MFcmp_Or_int_1003 (k : Nat) {r1003 q1003 : Int → List Int → Int → Int → Option (Int)} (h1003 : ∀ (zero : Int) (t6 : List Int) (t7 : Int) (t8 : Int), Le (r1003 zero t6 t7 t8) (q1003 zero t6 t7 t8)) (zero : Int) (t6 : List Int) (t7 : Int) (t8 : Int) : Le (F203_1003 k r1003 zero t6 t7 t8) (F203_1003 (k + 1) q1003 zero t6 t7 t8) := by
  unfold F203_1003
  repeat' first | with_reducible exact Le.rfl _ | with_reducible exact h1003 _ _ _ _ | with_reducible refine Le.cond ?_ ?_ | with_reducible refine Le.bind ?_ fun _ => ?_
theorem Mlcmp_Or_int : ∀ k : Nat, ∀ (zero : Int) (t6 : List Int) (t7 : Int) (t8 : Int), Le ((l203 k) zero t6 t7 t8) ((l203 (k + 1)) zero t6 t7 t8)
  | 0 => fun zero t6 t7 t8 => Le.no _
  | k + 1 => by
    have h := Mlcmp_Or_int k
    exact fun zero t6 t7 t8 => MFcmp_Or_int_1003 k h zero t6 t7 t8
noncomputable def cmp_Or_int_1003 (zero : Int) (t6 : List Int) (t7 : Int) (t8 : Int) : Option (Int) := lim fun k => (l203 k) zero t6 t7 t8
theorem Rlcmp_Or_int_1003 (zero : Int) (t6 : List Int) (t7 : Int) (t8 : Int) : Lim (fun k => (l203 k) zero t6 t7 t8) (cmp_Or_int_1003 zero t6 t7 t8) := Lim.of_mono fun k => Mlcmp_Or_int k zero t6 t7 t8
theorem Ecmp_Or_int_1003 (zero : Int) (t6 : List Int) (t7 : Int) (t8 : Int) : cmp_Or_int_1003 zero t6 t7 t8 =
  bif decide (t8 < t7) then
    bif boundA t8 (List.length t6) then
      bif !decide (List.getD t6 (Int.toNat t8) 0 = zero) then
        some (List.getD t6 (Int.toNat t8) 0)
      else
        cmp_Or_int_1003 zero t6 t7 (IntKind.wrap IntKind.i64 (t8 + 1))
    else
      none
  else
    some zero := by
  refine Lim.uniq (Lim.shift (Rlcmp_Or_int_1003 zero t6 t7 t8)) (?_ : Lim (fun k => F203_1003 k ((l203 k)) zero t6 t7 t8) _)
  unfold F203_1003
  repeat' first | with_reducible exact Lim.ret _ | with_reducible exact Rlcmp_Or_int_1003 _ _ _ _ | with_reducible refine Lim.cond ?_ ?_ | with_reducible refine Lim.bind ?_ fun _ => ?_
noncomputable def cmp_Or_int (vals : List (Int)) : Option (Int) :=
  cmp_Or_int_1003 (0) vals ((↑(List.length vals) : Int)) (0)
theorem Mcmp_Or_int (k : Nat) (vals : List (Int)) : Le (f203 k vals) (f203 (k + 1) vals) := by
  have h := Mlcmp_Or_int k
  unfold f203 F203
  repeat' first | with_reducible exact Le.rfl _ | with_reducible exact h _ _ _ _ | with_reducible refine Le.cond ?_ ?_ | with_reducible refine Le.bind ?_ fun _ => ?_
theorem Rcmp_Or_int (vals : List (Int)) : Lim (fun k => f203 k vals) (cmp_Or_int vals) := by
  unfold f203 F203 cmp_Or_int
  repeat' first | with_reducible exact Lim.ret _ | with_reducible exact Rlcmp_Or_int_1003 _ _ _ _ | with_reducible refine Lim.cond ?_ ?_ | with_reducible refine Lim.bind ?_ fun _ => ?_

-- cmp.isNaN[uint64]
noncomputable def cmp_isNaN_uint64 (x : Int) : Option (Bool) :=
  some (!decide (x = x))
theorem Mcmp_isNaN_uint64 (k : Nat) (x : Int) : Le (f208 k x) (f208 (k + 1) x) := by
  unfold f208
  repeat' first | with_reducible exact Le.rfl _ | with_reducible refine Le.cond ?_ ?_ | with_reducible refine Le.bind ?_ fun _ => ?_
theorem Rcmp_isNaN_uint64 (x : Int) : Lim (fun k => f208 k x) (cmp_isNaN_uint64 x) := by
  unfold f208 cmp_isNaN_uint64
  repeat' first | with_reducible exact Lim.ret _ | with_reducible refine Lim.cond ?_ ?_ | with_reducible refine Lim.bind ?_ fun _ => ?_

-- cmp.Compare[uint64]
noncomputable def cmp_Compare_uint64 (x : Int) (y : Int) : Option (Int) :=
  bif !decide (x = x) then
    bif !decide (y = y) then
      some (0)
    else
      some (-1)
  else
    bif !decide (y = y) then
      some (1)
    else
      bif decide (x < y) then
        some (-1)
      else
        bif decide (y < x) then
          some (1)
        else
          some (0)
theorem Mcmp_Compare_uint64 (k : Nat) (x : Int) (y : Int) : Le (f204 k x y) (f204 (k + 1) x y) := by
  unfold f204
  repeat' first | with_reducible exact Le.rfl _ | with_reducible refine Le.cond ?_ ?_ | with_reducible refine Le.bind ?_ fun _ => ?_
theorem Rcmp_Compare_uint64 (x : Int) (y : Int) : Lim (fun k => f204 k x y) (cmp_Compare_uint64 x y) := by
  unfold f204 cmp_Compare_uint64
  repeat' first | with_reducible exact Lim.ret _ | with_reducible refine Lim.cond ?_ ?_ | with_reducible refine Lim.bind ?_ fun _ => ?_

-- impl.compareSizes
noncomputable def i_compareSizes (a_negative : Bool) (a_high : Int) (a_low : Int) (b_negative : Bool) (b_high : Int) (b_low : Int) : Option (Int) :=
  (cmp_Compare_uint64 a_high b_high).bind fun r0 =>
  (cmp_Compare_uint64 a_low b_low).bind fun r1 =>
  (cmp_Or_int [r0, r1]).bind fun r2 =>
  some r2
theorem Mi_compareSizes (k : Nat) (a_negative : Bool) (a_high : Int) (a_low : Int) (b_negative : Bool) (b_high : Int) (b_low : Int) : Le (f193 k a_negative a_high a_low b_negative b_high b_low) (f193 (k + 1) a_negative a_high a_low b_negative b_high b_low) := by
  unfold f193
  repeat' first | with_reducible exact Le.rfl _ | with_reducible exact Mcmp_Or_int _ _ | with_reducible exact Mcmp_Compare_uint64 _ _ _ | with_reducible refine Le.cond ?_ ?_ | with_reducible refine Le.bind ?_ fun _ => ?_
theorem Ri_compareSizes (a_negative : Bool) (a_high : Int) (a_low : Int) (b_negative : Bool) (b_high : Int) (b_low : Int) : Lim (fun k => f193 k a_negative a_high a_low b_negative b_high b_low) (i_compareSizes a_negative a_high a_low b_negative b_high b_low) := by
  unfold f193 i_compareSizes
  repeat' first | with_reducible exact Lim.ret _ | with_reducible exact Rcmp_Or_int _ | with_reducible exact Rcmp_Compare_uint64 _ _ | with_reducible refine Lim.cond ?_ ?_ | with_reducible refine Lim.bind ?_ fun _ => ?_

-- impl.compareWide
noncomputable def i_compareWide (a_negative : Bool) (a_high : Int) (a_low : Int) (b_negative : Bool) (b_high : Int) (b_low : Int) : Option (Int) :=
  (i_wide_isZero a_negative a_high a_low).bind fun r0 =>
  bif r0 then
    (i_wide_isZero b_negative b_high b_low).bind fun r1 =>
    bif r1 then
      some (0)
    else
      bif !a_negative == b_negative then
        bif a_negative then
          some (-1)
        else
          some (1)
      else
        bif a_negative then
          (i_compareSizes b_negative b_high b_low a_negative a_high a_low).bind fun r2 =>
          some r2
        else
          (i_compareSizes a_negative a_high a_low b_negative b_high b_low).bind fun r3 =>
          some r3
  else
    bif !a_negative == b_negative then
      bif a_negative then
        some (-1)
      else
        some (1)
    else
      bif a_negative then
        (i_compareSizes b_negative b_high b_low a_negative a_high a_low).bind fun r4 =>
        some r4
      else
        (i_compareSizes a_negative a_high a_low b_negative b_high b_low).bind fun r5 =>
        some r5
theorem Mi_compareWide (k : Nat) (a_negative : Bool) (a_high : Int) (a_low : Int) (b_negative : Bool) (b_high : Int) (b_low : Int) : Le (f176 k a_negative a_high a_low b_negative b_high b_low) (f176 (k + 1) a_negative a_high a_low b_negative b_high b_low) := by
  unfold f176
  repeat' first | with_reducible exact Le.rfl _ | with_reducible exact Mi_wide_isZero _ _ _ _ | with_reducible exact Mi_compareSizes _ _ _ _ _ _ _ | with_reducible refine Le.cond ?_ ?_ | with_reducible refine Le.bind ?_ fun _ => ?_
theorem Ri_compareWide (a_negative : Bool) (a_high : Int) (a_low : Int) (b_negative : Bool) (b_high : Int) (b_low : Int) : Lim (fun k => f176 k a_negative a_high a_low b_negative b_high b_low) (i_compareWide a_negative a_high a_low b_negative b_high b_low) := by
  unfold f176 i_compareWide
  repeat' first | with_reducible exact Lim.ret _ | with_reducible exact Ri_wide_isZero _ _ _ | with_reducible exact Ri_compareSizes _ _ _ _ _ _ | with_reducible refine Lim.cond ?_ ?_ | with_reducible refine Lim.bind ?_ fun _ => ?_

-- impl.size
noncomputable def i_size (n : Int) : Option (Int) :=
  bif decide (n < 0) then
    some (IntKind.wrap IntKind.u64 (IntKind.wrap IntKind.i64 (0 - n)))
  else
    some (IntKind.wrap IntKind.u64 n)
theorem Mi_size (k : Nat) (n : Int) : Le (f179 k n) (f179 (k + 1) n) := by
  unfold f179
  repeat' first | with_reducible exact Le.rfl _ | with_reducible refine Le.cond ?_ ?_ | with_reducible refine Le.bind ?_ fun _ => ?_
theorem Ri_size (n : Int) : Lim (fun k => f179 k n) (i_size n) := by
  unfold f179 i_size
  repeat' first | with_reducible exact Lim.ret _ | with_reducible refine Lim.cond ?_ ?_ | with_reducible refine Lim.bind ?_ fun _ => ?_

-- impl.wideOf
noncomputable def i_wideOf (n : Int) : Option (Bool × Int × Int) :=
  (i_size n).bind fun r0 =>
  some ((decide (n < 0), 0, r0))
theorem Mi_wideOf (k : Nat) (n : Int) : Le (f177 k n) (f177 (k + 1) n) := by
  unfold f177
  repeat' first | with_reducible exact Le.rfl _ | with_reducible exact Mi_size _ _ | with_reducible refine Le.cond ?_ ?_ | with_reducible refine Le.bind ?_ fun _ => ?_
theorem Ri_wideOf (n : Int) : Lim (fun k => f177 k n) (i_wideOf n) := by
  unfold f177 i_wideOf
  repeat' first | with_reducible exact Lim.ret _ | with_reducible exact Ri_size _ | with_reducible refine Lim.cond ?_ ?_ | with_reducible refine Lim.bind ?_ fun _ => ?_

-- impl.wide).shift
noncomputable def i_wide_shift (w_negative : Bool) (w_high : Int) (w_low : Int) (k_ : Int) : Option (Bool × Int × Int) :=
  bif decide (0 ≤ k_) then
    bif decide (64 ≤ k_) then
      bif !decide (IntKind.wrap IntKind.i64 (k_ - 64) < 0) then
        some ((w_negative, IntKind.wrap IntKind.u64 (w_low * 2 ^ min (Int.toNat (IntKind.wrap IntKind.i64 (k_ - 64))) (IntKind.bits IntKind.u64)), 0))
      else
        none
    else
      bif !decide (k_ < 0) then
        bif !decide (IntKind.wrap IntKind.i64 (64 - k_) < 0) then
          bif !decide (k_ < 0) then
            some ((w_negative, IntKind.wrap IntKind.u64 (↑(BitVec.toNat (BitVec.ofInt (IntKind.bits IntKind.u64) (IntKind.wrap IntKind.u64 (w_high * 2 ^ min (Int.toNat k_) (IntKind.bits IntKind.u64))) ||| BitVec.ofInt (IntKind.bits IntKind.u64) (Int.fdiv w_low (2 ^ min (Int.toNat (IntKind.wrap IntKind.i64 (64 - k_))) (IntKind.bits IntKind.u64))))) : Int), IntKind.wrap IntKind.u64 (w_low * 2 ^ min (Int.toNat k_) (IntKind.bits IntKind.u64))))
          else
            none
        else
          none
      else
        none
  else
    bif decide (64 ≤ IntKind.wrap IntKind.i64 (0 - k_)) then
      bif !decide (IntKind.wrap IntKind.i64 (IntKind.wrap IntKind.i64 (0 - k_) - 64) < 0) then
        some ((w_negative, 0, Int.fdiv w_high (2 ^ min (Int.toNat (IntKind.wrap IntKind.i64 (IntKind.wrap IntKind.i64 (0 - k_) - 64))) (IntKind.bits IntKind.u64))))
      else
        none
    else
      bif !decide (IntKind.wrap IntKind.i64 (0 - k_) < 0) then
        bif !decide (IntKind.wrap IntKind.i64 (0 - k_) < 0) then
          bif !decide (IntKind.wrap IntKind.i64 (64 - IntKind.wrap IntKind.i64 (0 - k_)) < 0) then
            some ((w_negative, Int.fdiv w_high (2 ^ min (Int.toNat (IntKind.wrap IntKind.i64 (0 - k_))) (IntKind.bits IntKind.u64)), IntKind.wrap IntKind.u64 (↑(BitVec.toNat (BitVec.ofInt (IntKind.bits IntKind.u64) (Int.fdiv w_low (2 ^ min (Int.toNat (IntKind.wrap IntKind.i64 (0 - k_))) (IntKind.bits IntKind.u64))) ||| BitVec.ofInt (IntKind.bits IntKind.u64) (IntKind.wrap IntKind.u64 (w_high * 2 ^ min (Int.toNat (IntKind.wrap IntKind.i64 (64 - IntKind.wrap IntKind.i64 (0 - k_)))) (IntKind.bits IntKind.u64))))) : Int)))
          else
            none
        else
          none
      else
        none
theorem Mi_wide_shift (k : Nat) (w_negative : Bool) (w_high : Int) (w_low : Int) (k_ : Int) : Le (f178 k w_negative w_high w_low k_) (f178 (k + 1) w_negative w_high w_low k_) := by
  unfold f178
  repeat' first | with_reducible exact Le.rfl _ | with_reducible refine Le.cond ?_ ?_ | with_reducible refine Le.bind ?_ fun _ => ?_
theorem Ri_wide_shift (w_negative : Bool) (w_high : Int) (w_low : Int) (k_ : Int) : Lim (fun k => f178 k w_negative w_high w_low k_) (i_wide_shift w_negative w_high w_low k_) := by
  unfold f178 i_wide_shift
  repeat' first | with_reducible exact Lim.ret _ | with_reducible refine Lim.cond ?_ ?_ | with_reducible refine Lim.bind ?_ fun _ => ?_

-- impl.compareD
noncomputable def i_compareD (a_N : Int) (a_K : Int) (b_N : Int) (b_K : Int) : Option (Int) :=
  (i_wideOf a_N).bind fun r0 =>
  (i_wide_shift r0.fst r0.snd.fst r0.snd.snd (IntKind.wrap IntKind.i64 ((bif decide (a_K < b_K) then b_K else a_K) - a_K))).bind fun r1 =>
  (i_wideOf b_N).bind fun r2 =>
  (i_wide_shift r2.fst r2.snd.fst r2.snd.snd (IntKind.wrap IntKind.i64 ((bif decide (a_K < b_K) then b_K else a_K) - b_K))).bind fun r3 =>
  (i_compareWide r1.fst r1.snd.fst r1.snd.snd r3.fst r3.snd.fst r3.snd.snd).bind fun r4 =>
  some r4
theorem Mi_compareD (k : Nat) (a_N : Int) (a_K : Int) (b_N : Int) (b_K : Int) : Le (f152 k a_N a_K b_N b_K) (f152 (k + 1) a_N a_K b_N b_K) := by
  unfold f152
  repeat' first | with_reducible exact Le.rfl _ | with_reducible exact Mi_compareWide _ _ _ _ _ _ _ | with_reducible exact Mi_wideOf _ _ | with_reducible exact Mi_wide_shift _ _ _ _ _ | with_reducible refine Le.cond ?_ ?_ | with_reducible refine Le.bind ?_ fun _ => ?_
theorem Ri_compareD (a_N : Int) (a_K : Int) (b_N : Int) (b_K : Int) : Lim (fun k => f152 k a_N a_K b_N b_K) (i_compareD a_N a_K b_N b_K) := by
  unfold f152 i_compareD
  repeat' first | with_reducible exact Lim.ret _ | with_reducible exact Ri_compareWide _ _ _ _ _ _ | with_reducible exact Ri_wideOf _ | with_reducible exact Ri_wide_shift _ _ _ _ | with_reducible refine Lim.cond ?_ ?_ | with_reducible refine Lim.bind ?_ fun _ => ?_

-- impl.integer
noncomputable def i_integer (n : Int) : Option (Int × Int) :=
  some ((n, 0))
theorem Mi_integer (k : Nat) (n : Int) : Le (f153 k n) (f153 (k + 1) n) := by
  unfold f153
  repeat' first | with_reducible exact Le.rfl _ | with_reducible refine Le.cond ?_ ?_ | with_reducible refine Le.bind ?_ fun _ => ?_
theorem Ri_integer (n : Int) : Lim (fun k => f153 k n) (i_integer n) := by
  unfold f153 i_integer
  repeat' first | with_reducible exact Lim.ret _ | with_reducible refine Lim.cond ?_ ?_ | with_reducible refine Lim.bind ?_ fun _ => ?_

-- impl.inRange
noncomputable def i_inRange (a_N : Int) (a_K : Int) : Option (Bool) :=
  (i_compareD (-8) 0 a_N a_K).bind fun r0 =>
  bif decide (r0 ≤ 0) then
    (i_compareD a_N a_K 8 0).bind fun r1 =>
    some (decide (r1 ≤ 0))
  else
    some false
theorem Mi_inRange (k : Nat) (a_N : Int) (a_K : Int) : Le (f121 k a_N a_K) (f121 (k + 1) a_N a_K) := by
  unfold f121
  repeat' first | with_reducible exact Le.rfl _ | with_reducible exact Mi_compareD _ _ _ _ _ | with_reducible refine Le.cond ?_ ?_ | with_reducible refine Le.bind ?_ fun _ => ?_
theorem Ri_inRange (a_N : Int) (a_K : Int) : Lim (fun k => f121 k a_N a_K) (i_inRange a_N a_K) := by
  unfold f121 i_inRange
  repeat' first | with_reducible exact Lim.ret _ | with_reducible exact Ri_compareD _ _ _ _ | with_reducible refine Lim.cond ?_ ?_ | with_reducible refine Lim.bind ?_ fun _ => ?_

-- impl.isFamilyNumber
noncomputable def i_isFamilyNumber (x_N : Int) (x_K : Int) : Option (Bool) :=
  (i_isDyadic x_N x_K).bind fun r0 =>
  bif r0 then
    bif decide (x_K ≤ 5) then
      (i_inRange x_N x_K).bind fun r1 =>
      some r1
    else
      some false
  else
    some false
theorem Mi_isFamilyNumber (k : Nat) (x_N : Int) (x_K : Int) : Le (f88 k x_N x_K) (f88 (k + 1) x_N x_K) := by
  unfold f88
  repeat' first | with_reducible exact Le.rfl _ | with_reducible exact Mi_isDyadic _ _ _ | with_reducible exact Mi_inRange _ _ _ | with_reducible refine Le.cond ?_ ?_ | with_reducible refine Le.bind ?_ fun _ => ?_
theorem Ri_isFamilyNumber (x_N : Int) (x_K : Int) : Lim (fun k => f88 k x_N x_K) (i_isFamilyNumber x_N x_K) := by
  unfold f88 i_isFamilyNumber
  repeat' first | with_reducible exact Lim.ret _ | with_reducible exact Ri_isDyadic _ _ | with_reducible exact Ri_inRange _ _ | with_reducible refine Lim.cond ?_ ?_ | with_reducible refine Lim.bind ?_ fun _ => ?_

-- slices.Clone[[]int,int]
noncomputable def slices_Clone_int_int (s : List (Int)) : Option (List (Int)) :=
  bif decide ((0 + List.length s) * 8 ≤ 140737488355328) then
    some s
  else
    none
theorem Mslices_Clone_int_int (k : Nat) (s : List (Int)) : Le (f170 k s) (f170 (k + 1) s) := by
  unfold f170
  repeat' first | with_reducible exact Le.rfl _ | with_reducible refine Le.cond ?_ ?_ | with_reducible refine Le.bind ?_ fun _ => ?_
theorem Rslices_Clone_int_int (s : List (Int)) : Lim (fun k => f170 k s) (slices_Clone_int_int s) := by
  unfold f170 slices_Clone_int_int
  repeat' first | with_reducible exact Lim.ret _ | with_reducible refine Lim.cond ?_ ?_ | with_reducible refine Lim.bind ?_ fun _ => ?_

-- impl.stripped
theorem MFi_stripped_1001 (k : Nat) {r1001 q1001 : List Int → Option (List (Int))} (h1001 : ∀ (p : List Int), Le (r1001 p) (q1001 p)) (p : List Int) : Le (F146_1001 k r1001 p) (F146_1001 (k + 1) q1001 p) := by
  unfold F146_1001
  repeat' first | with_reducible exact Le.rfl _ | with_reducible exact Mslices_Clone_int_int _ _ | with_reducible exact h1001 _ | with_reducible refine Le.cond ?_ ?_ | with_reducible refine Le.bind ?_ fun _ => ?_
theorem Mli_stripped : ∀ k : Nat, ∀ (p : List Int), Le ((l146 k) p) ((l146 (k + 1)) p)
  | 0 => fun p => Le.no _
  | k + 1 => by
    have h := Mli_stripped k
    exact fun p => MFi_stripped_1001 k h p
noncomputable def i_stripped_1001 (p : List Int) : Option (List (Int)) := lim fun k => (l146 k) p
theorem Rli_stripped_1001 (p : List Int) : Lim (fun k => (l146 k) p) (i_stripped_1001 p) := Lim.of_mono fun k => Mli_stripped k p
theorem Ei_stripped_1001 (p : List Int) : i_stripped_1001 p =
  bif decide (0 < (↑(List.length p) : Int)) then
    bif boundA (IntKind.wrap IntKind.i64 ((↑(List.length p) : Int) - 1)) (List.length p) then
      bif decide (List.getD p (Int.toNat (IntKind.wrap IntKind.i64 ((↑(List.length p) : Int) - 1))) 0 = 0) then
        bif boundE (IntKind.wrap IntKind.i64 ((↑(List.length p) : Int) - 1)) (List.length p) then
          bif decide (0 ≤ 0) && decide (0 ≤ IntKind.wrap IntKind.i64 ((↑(List.length p) : Int) - 1)) then
            i_stripped_1001 (List.drop (Int.toNat 0) (List.take (Int.toNat (IntKind.wrap IntKind.i64 ((↑(List.length p) : Int) - 1))) p))
          else
            none
        else
          none
      else
        (slices_Clone_int_int p).bind fun r0 =>
        some r0
    else
      none
  else
    (slices_Clone_int_int p).bind fun r1 =>
    some r1 := by
  refine Lim.uniq (Lim.shift (Rli_stripped_1001 p)) (?_ : Lim (fun k => F146_1001 k ((l146 k)) p) _)
  unfold F146_1001
  repeat' first | with_reducible exact Lim.ret _ | with_reducible exact Rslices_Clone_int_int _ | with_reducible exact Rli_stripped_1001 _ | with_reducible refine Lim.cond ?_ ?_ | with_reducible refine Lim.bind ?_ fun _ => ?_
noncomputable def i_stripped (p : List (Int)) : Option (List (Int)) :=
  i_stripped_1001 p
theorem Mi_stripped (k : Nat) (p : List (Int)) : Le (f146 k p) (f146 (k + 1) p) := by
  have h := Mli_stripped k
  unfold f146 F146
  repeat' first | with_reducible exact Le.rfl _ | with_reducible exact h _ | with_reducible refine Le.cond ?_ ?_ | with_reducible refine Le.bind ?_ fun _ => ?_
theorem Ri_stripped (p : List (Int)) : Lim (fun k => f146 k p) (i_stripped p) := by
  unfold f146 F146 i_stripped
  repeat' first | with_reducible exact Lim.ret _ | with_reducible exact Rli_stripped_1001 _ | with_reducible refine Lim.cond ?_ ?_ | with_reducible refine Lim.bind ?_ fun _ => ?_

-- impl.addSingle
theorem MFi_addSingle_1003 (k : Nat) {r1003 q1003 : List Int → List Int → List Int → Int → Int → Option (List (Int))} (h1003 : ∀ (p : List Int) (q : List Int) (outs : List Int) (t14 : Int) (t15 : Int), Le (r1003 p q outs t14 t15) (q1003 p q outs t14 t15)) (p : List Int) (q : List Int) (outs : List Int) (t14 : Int) (t15 : Int) : Le (F110_1003 k r1003 p q outs t14 t15) (F110_1003 (k + 1) q1003 p q outs t14 t15) := by
  unfold F110_1003
  repeat' first | with_reducible exact Le.rfl _ | with_reducible exact Mi_stripped _ _ | with_reducible exact h1003 _ _ _ _ _ | with_reducible refine Le.cond ?_ ?_ | with_reducible refine Le.bind ?_ fun _ => ?_
theorem Mli_addSingle : ∀ k : Nat, ∀ (p : List Int) (q : List Int) (outs : List Int) (t14 : Int) (t15 : Int), Le ((l110 k) p q outs t14 t15) ((l110 (k + 1)) p q outs t14 t15)
  | 0 => fun p q outs t14 t15 => Le.no _
  | k + 1 => by
    have h := Mli_addSingle k
    exact fun p q outs t14 t15 => MFi_addSingle_1003 k h p q outs t14 t15
noncomputable def i_addSingle_1003 (p : List Int) (q : List Int) (outs : List Int) (t14 : Int) (t15 : Int) : Option (List (Int)) := lim fun k => (l110 k) p q outs t14 t15
theorem Rli_addSingle_1003 (p : List Int) (q : List Int) (outs : List Int) (t14 : Int) (t15 : Int) : Lim (fun k => (l110 k) p q outs t14 t15) (i_addSingle_1003 p q outs t14 t15) := Lim.of_mono fun k => Mli_addSingle k p q outs t14 t15
theorem Ei_addSingle_1003 (p : List Int) (q : List Int) (outs : List Int) (t14 : Int) (t15 : Int) : i_addSingle_1003 p q outs t14 t15 =
  bif decide (t15 < t14) then
    bif decide (t15 < (↑(List.length p) : Int)) then
      bif boundA t15 (List.length outs) then
        bif Nat.blt (Int.toNat t15) (List.length outs) then
          bif boundA t15 (List.length p) then
            bif boundA t15 (List.length outs) then
              bif Nat.blt (Int.toNat t15) (List.length outs) then
                bif decide (t15 < (↑(List.length q) : Int)) then
                  bif boundA t15 (List.length (List.set outs (Int.toNat t15) (IntKind.wrap IntKind.i64 (List.getD outs (Int.toNat t15) 0 + List.getD p (Int.toNat t15) 0)))) then
                    bif Nat.blt (Int.toNat t15) (List.length (List.set outs (Int.toNat t15) (IntKind.wrap IntKind.i64 (List.getD outs (Int.toNat t15) 0 + List.getD p (Int.toNat t15) 0)))) then
                      bif boundA t15 (List.length q) then
                        bif boundA t15 (List.length (List.set outs (Int.toNat t15) (IntKind.wrap IntKind.i64 (List.getD outs (Int.toNat t15) 0 + List.getD p (Int.toNat t15) 0)))) then
                          bif Nat.blt (Int.toNat t15) (List.length (List.set outs (Int.toNat t15) (IntKind.wrap IntKind.i64 (List.getD outs (Int.toNat t15) 0 + List.getD p (Int.toNat t15) 0)))) then
                            i_addSingle_1003 p q (List.set (List.set outs (Int.toNat t15) (IntKind.wrap IntKind.i64 (List.getD outs (Int.toNat t15) 0 + List.getD p (Int.toNat t15) 0))) (Int.toNat t15) (IntKind.wrap IntKind.i64 (List.getD (List.set outs (Int.toNat t15) (IntKind.wrap IntKind.i64 (List.getD outs (Int.toNat t15) 0 + List.getD p (Int.toNat t15) 0))) (Int.toNat t15) 0 + List.getD q (Int.toNat t15) 0))) t14 (IntKind.wrap IntKind.i64 (t15 + 1))
                          else
                            none
                        else
                          none
                      else
                        none
                    else
                      none
                  else
                    none
                else
                  i_addSingle_1003 p q (List.set outs (Int.toNat t15) (IntKind.wrap IntKind.i64 (List.getD outs (Int.toNat t15) 0 + List.getD p (Int.toNat t15) 0))) t14 (IntKind.wrap IntKind.i64 (t15 + 1))
              else
                none
            else
              none
          else
            none
        else
          none
      else
        none
    else
      bif decide (t15 < (↑(List.length q) : Int)) then
        bif boundA t15 (List.length outs) then
          bif Nat.blt (Int.toNat t15) (List.length outs) then
            bif boundA t15 (List.length q) then
              bif boundA t15 (List.length outs) then
                bif Nat.blt (Int.toNat t15) (List.length outs) then
                  i_addSingle_1003 p q (List.set outs (Int.toNat t15) (IntKind.wrap IntKind.i64 (List.getD outs (Int.toNat t15) 0 + List.getD q (Int.toNat t15) 0))) t14 (IntKind.wrap IntKind.i64 (t15 + 1))
                else
                  none
              else
                none
            else
              none
          else
            none
        else
          none
      else
        i_addSingle_1003 p q outs t14 (IntKind.wrap IntKind.i64 (t15 + 1))
  else
    (i_stripped outs).bind fun r0 =>
    some r0 := by
  refine Lim.uniq (Lim.shift (Rli_addSingle_1003 p q outs t14 t15)) (?_ : Lim (fun k => F110_1003 k ((l110 k)) p q outs t14 t15) _)
  unfold F110_1003
  repeat' first | with_reducible exact Lim.ret _ | with_reducible exact Ri_stripped _ | with_reducible exact Rli_addSingle_1003 _ _ _ _ _ | with_reducible refine Lim.cond ?_ ?_ | with_reducible refine Lim.bind ?_ fun _ => ?_
noncomputable def i_addSingle (p : List (Int)) (q : List (Int)) : Option (List (Int)) :=
  bif decide (0 ≤ bif decide ((↑(List.length p) : Int) < (↑(List.length q) : Int)) then (↑(List.length q) : Int) else (↑(List.length p) : Int)) then
    bif decide ((bif decide ((↑(List.length p) : Int) < (↑(List.length q) : Int)) then (↑(List.length q) : Int) else (↑(List.length p) : Int)) ≤ bif decide ((↑(List.length p) : Int) < (↑(List.length q) : Int)) then (↑(List.length q) : Int) else (↑(List.length p) : Int)) then
      bif decide ((bif decide ((↑(List.length p) : Int) < (↑(List.length q) : Int)) then (↑(List.length q) : Int) else (↑(List.length p) : Int)) * (↑8 : Int) ≤ 140737488355328) then
        i_addSingle_1003 p q (List.replicate (Int.toNat (bif decide ((↑(List.length p) : Int) < (↑(List.length q) : Int)) then (↑(List.length q) : Int) else (↑(List.length p) : Int))) (dflt (Ty.int IntKind.i64))) ((↑(List.length (List.replicate (Int.toNat (bif decide ((↑(List.length p) : Int) < (↑(List.length q) : Int)) then (↑(List.length q) : Int) else (↑(List.length p) : Int))) (dflt (Ty.int IntKind.i64)))) : Int)) (0)
      else
        none
    else
      none
  else
    none
theorem Mi_addSingle (k : Nat) (p : List (Int)) (q : List (Int)) : Le (f110 k p q) (f110 (k + 1) p q) := by
  have h := Mli_addSingle k
  unfold f110 F110
  repeat' first | with_reducible exact Le.rfl _ | with_reducible exact h _ _ _ _ _ | with_reducible refine Le.cond ?_ ?_ | with_reducible refine Le.bind ?_ fun _ => ?_
theorem Ri_addSingle (p : List (Int)) (q : List (Int)) : Lim (fun k => f110 k p q) (i_addSingle p q) := by
  unfold f110 F110 i_addSingle
  repeat' first | with_reducible exact Lim.ret _ | with_reducible exact Rli_addSingle_1003 _ _ _ _ _ | with_reducible refine Lim.cond ?_ ?_ | with_reducible refine Lim.bind ?_ fun _ => ?_

-- impl.multiplySingle
theorem MFi_multiplySingle_1003 (k : Nat) {r1003 q1003 : List Int → List Int → List Int → Int → Int → Option (List (Int))} (h1003 : ∀ (q : List Int) (outs : List Int) (t16 : List Int) (t17 : Int) (t18 : Int), Le (r1003 q outs t16 t17 t18) (q1003 q outs t16 t17 t18)) {r1006 q1006 : List Int → List Int → Int → Int → List Int → Int → Int → List Int → Int → Int → Option (List (Int))} (h1006 : ∀ (q : List Int) (outs : List Int) (i : Int) (a : Int) (t16 : List Int) (t17 : Int) (t18 : Int) (t23 : List Int) (t24 : Int) (t25 : Int), Le (r1006 q outs i a t16 t17 t18 t23 t24 t25) (q1006 q outs i a t16 t17 t18 t23 t24 t25)) (q : List Int) (outs : List Int) (t16 : List Int) (t17 : Int) (t18 : Int) : Le (F111_1003 k r1003 r1006 q outs t16 t17 t18) (F111_1003 (k + 1) q1003 q1006 q outs t16 t17 t18) := by
  unfold F111_1003
  repeat' first | with_reducible exact Le.rfl _ | with_reducible exact Mi_stripped _ _ | with_reducible exact h1003 _ _ _ _ _ | with_reducible exact h1006 _ _ _ _ _ _ _ _ _ _ | with_reducible refine Le.cond ?_ ?_ | with_reducible refine Le.bind ?_ fun _ => ?_
theorem MFi_multiplySingle_1006 (k : Nat) {r1003 q1003 : List Int → List Int → List Int → Int → Int → Option (List (Int))} (h1003 : ∀ (q : List Int) (outs : List Int) (t16 : List Int) (t17 : Int) (t18 : Int), Le (r1003 q outs t16 t17 t18) (q1003 q outs t16 t17 t18)) {r1006 q1006 : List Int → List Int → Int → Int → List Int → Int → Int → List Int → Int → Int → Option (List (Int))} (h1006 : ∀ (q : List Int) (outs : List Int) (i : Int) (a : Int) (t16 : List Int) (t17 : Int) (t18 : Int) (t23 : List Int) (t24 : Int) (t25 : Int), Le (r1006 q outs i a t16 t17 t18 t23 t24 t25) (q1006 q outs i a t16 t17 t18 t23 t24 t25)) (q : List Int) (outs : List Int) (i : Int) (a : Int) (t16 : List Int) (t17 : Int) (t18 : Int) (t23 : List Int) (t24 : Int) (t25 : Int) : Le (F111_1006 k r1003 r1006 q outs i a t16 t17 t18 t23 t24 t25) (F111_1006 (k + 1) q1003 q1006 q outs i a t16 t17 t18 t23 t24 t25) := by
  unfold F111_1006
  repeat' first | with_reducible exact Le.rfl _ | with_reducible exact h1003 _ _ _ _ _ | with_reducible exact h1006 _ _ _ _ _ _ _ _ _ _ | with_reducible refine Le.cond ?_ ?_ | with_reducible refine Le.bind ?_ fun _ => ?_
theorem Mli_multiplySingle : ∀ k : Nat, (∀ (q : List Int) (outs : List Int) (t16 : List Int) (t17 : Int) (t18 : Int), Le ((l111 k).1 q outs t16 t17 t18) ((l111 (k + 1)).1 q outs t16 t17 t18)) ∧ (∀ (q : List Int) (outs : List Int) (i : Int) (a : Int) (t16 : List Int) (t17 : Int) (t18 : Int) (t23 : List Int) (t24 : Int) (t25 : Int), Le ((l111 k).2 q outs i a t16 t17 t18 t23 t24 t25) ((l111 (k + 1)).2 q outs i a t16 t17 t18 t23 t24 t25))
  | 0 => ⟨fun q outs t16 t17 t18 => Le.no _, fun q outs i a t16 t17 t18 t23 t24 t25 => Le.no _⟩
  | k + 1 => by
    have h := Mli_multiplySingle k
    exact ⟨fun q outs t16 t17 t18 => MFi_multiplySingle_1003 k h.1 h.2 q outs t16 t17 t18, fun q outs i a t16 t17 t18 t23 t24 t25 => MFi_multiplySingle_1006 k h.1 h.2 q outs i a t16 t17 t18 t23 t24 t25⟩
noncomputable def i_multiplySingle_1003 (q : List Int) (outs : List Int) (t16 : List Int) (t17 : Int) (t18 : Int) : Option (List (Int)) := lim fun k => (l111 k).1 q outs t16 t17 t18
theorem Rli_multiplySingle_1003 (q : List Int) (outs : List Int) (t16 : List Int) (t17 : Int) (t18 : Int) : Lim (fun k => (l111 k).1 q outs t16 t17 t18) (i_multiplySingle_1003 q outs t16 t17 t18) := Lim.of_mono fun k => (Mli_multiplySingle k).1 q outs t16 t17 t18
noncomputable def i_multiplySingle_1006 (q : List Int) (outs : List Int) (i : Int) (a : Int) (t16 : List Int) (t17 : Int) (t18 : Int) (t23 : List Int) (t24 : Int) (t25 : Int) : Option (List (Int)) := lim fun k => (l111 k).2 q outs i a t16 t17 t18 t23 t24 t25
theorem Rli_multiplySingle_1006 (q : List Int) (outs : List Int) (i : Int) (a : Int) (t16 : List Int) (t17 : Int) (t18 : Int) (t23 : List Int) (t24 : Int) (t25 : Int) : Lim (fun k => (l111 k).2 q outs i a t16 t17 t18 t23 t24 t25) (i_multiplySingle_1006 q outs i a t16 t17 t18 t23 t24 t25) := Lim.of_mono fun k => (Mli_multiplySingle k).2 q outs i a t16 t17 t18 t23 t24 t25
theorem Ei_multiplySingle_1003 (q : List Int) (outs : List Int) (t16 : List Int) (t17 : Int) (t18 : Int) : i_multiplySingle_1003 q outs t16 t17 t18 =
  bif decide (t18 < t17) then
    bif boundA t18 (List.length t16) then
      i_multiplySingle_1006 q outs t18 (List.getD t16 (Int.toNat t18) 0) t16 t17 t18 q ((↑(List.length q) : Int)) (0)
    else
      none
  else
    (i_stripped outs).bind fun r0 =>
    some r0 := by
  refine Lim.uniq (Lim.shift (Rli_multiplySingle_1003 q outs t16 t17 t18)) (?_ : Lim (fun k => F111_1003 k ((l111 k).1) ((l111 k).2) q outs t16 t17 t18) _)
  unfold F111_1003
  repeat' first | with_reducible exact Lim.ret _ | with_reducible exact Ri_stripped _ | with_reducible exact Rli_multiplySingle_1003 _ _ _ _ _ | with_reducible exact Rli_multiplySingle_1006 _ _ _ _ _ _ _ _ _ _ | with_reducible refine Lim.cond ?_ ?_ | with_reducible refine Lim.bind ?_ fun _ => ?_
theorem Ei_multiplySingle_1006 (q : List Int) (outs : List Int) (i : Int) (a : Int) (t16 : List Int) (t17 : Int) (t18 : Int) (t23 : List Int) (t24 : Int) (t25 : Int) : i_multiplySingle_1006 q outs i a t16 t17 t18 t23 t24 t25 =
  bif decide (t25 < t24) then
    bif boundA t25 (List.length t23) then
      bif boundA (IntKind.wrap IntKind.i64 (i + t25)) (List.length outs) then
        bif Nat.blt (Int.toNat (IntKind.wrap IntKind.i64 (i + t25))) (List.length outs) then
          bif boundA (IntKind.wrap IntKind.i64 (i + t25)) (List.length outs) then
            bif Nat.blt (Int.toNat (IntKind.wrap IntKind.i64 (i + t25))) (List.length outs) then
              i_multiplySingle_1006 q (List.set outs (Int.toNat (IntKind.wrap IntKind.i64 (i + t25))) (IntKind.wrap IntKind.i64 (List.getD outs (Int.toNat (IntKind.wrap IntKind.i64 (i + t25))) 0 + IntKind.wrap IntKind.i64 (a * List.getD t23 (Int.toNat t25) 0)))) i a t16 t17 t18 t23 t24 (IntKind.wrap IntKind.i64 (t25 + 1))
            else
              none
          else
            none
        else
          none
      else
        none
    else
      none
  else
    i_multiplySingle_1003 q outs t16 t17 (IntKind.wrap IntKind.i64 (t18 + 1)) := by
  refine Lim.uniq (Lim.shift (Rli_multiplySingle_1006 q outs i a t16 t17 t18 t23 t24 t25)) (?_ : Lim (fun k => F111_1006 k ((l111 k).1) ((l111 k).2) q outs i a t16 t17 t18 t23 t24 t25) _)
  unfold F111_1006
  repeat' first | with_reducible exact Lim.ret _ | with_reducible exact Rli_multiplySingle_1003 _ _ _ _ _ | with_reducible exact Rli_multiplySingle_1006 _ _ _ _ _ _ _ _ _ _ | with_reducible refine Lim.cond ?_ ?_ | with_reducible refine Lim.bind ?_ fun _ => ?_
noncomputable def i_multiplySingle (p : List (Int)) (q : List (Int)) : Option (List (Int)) :=
  bif decide (0 ≤ IntKind.wrap IntKind.i64 ((↑(List.length p) : Int) + (↑(List.length q) : Int))) then
    bif decide (IntKind.wrap IntKind.i64 ((↑(List.length p) : Int) + (↑(List.length q) : Int)) ≤ IntKind.wrap IntKind.i64 ((↑(List.length p) : Int) + (↑(List.length q) : Int))) then
      bif decide (IntKind.wrap IntKind.i64 ((↑(List.length p) : Int) + (↑(List.length q) : Int)) * (↑8 : Int) ≤ 140737488355328) then
        i_multiplySingle_1003 q (List.replicate (Int.toNat (IntKind.wrap IntKind.i64 ((↑(List.length p) : Int) + (↑(List.length q) : Int)))) (dflt (Ty.int IntKind.i64))) p ((↑(List.length p) : Int)) (0)
      else
        none
    else
      none
  else
    none
theorem Mi_multiplySingle (k : Nat) (p : List (Int)) (q : List (Int)) : Le (f111 k p q) (f111 (k + 1) p q) := by
  have h := Mli_multiplySingle k
  unfold f111 F111
  repeat' first | with_reducible exact Le.rfl _ | with_reducible exact h.1 _ _ _ _ _ | with_reducible exact h.2 _ _ _ _ _ _ _ _ _ _ | with_reducible refine Le.cond ?_ ?_ | with_reducible refine Le.bind ?_ fun _ => ?_
theorem Ri_multiplySingle (p : List (Int)) (q : List (Int)) : Lim (fun k => f111 k p q) (i_multiplySingle p q) := by
  unfold f111 F111 i_multiplySingle
  repeat' first | with_reducible exact Lim.ret _ | with_reducible exact Rli_multiplySingle_1003 _ _ _ _ _ | with_reducible exact Rli_multiplySingle_1006 _ _ _ _ _ _ _ _ _ _ | with_reducible refine Lim.cond ?_ ?_ | with_reducible refine Lim.bind ?_ fun _ => ?_

-- impl.familyAt
noncomputable def i_familyAt (p : List (Int)) (q : List (Int)) (i : Int) (fine : Int) : Option (List (Int)) :=
  bif !decide (fine < 0) then
    (i_multiplySingle p [IntKind.wrap IntKind.i64 (1 * 2 ^ min (Int.toNat fine) (IntKind.bits IntKind.i64))]).bind fun r0 =>
    (i_multiplySingle q [i]).bind fun r1 =>
    (i_addSingle r0 r1).bind fun r2 =>
    some r2
  else
    none
theorem Mi_familyAt (k : Nat) (p : List (Int)) (q : List (Int)) (i : Int) (fine : Int) : Le (f68 k p q i fine) (f68 (k + 1) p q i fine) := by
  unfold f68
  repeat' first | with_reducible exact Le.rfl _ | with_reducible exact Mi_addSingle _ _ _ | with_reducible exact Mi_multiplySingle _ _ _ | with_reducible refine Le.cond ?_ ?_ | with_reducible refine Le.bind ?_ fun _ => ?_
theorem Ri_familyAt (p : List (Int)) (q : List (Int)) (i : Int) (fine : Int) : Lim (fun k => f68 k p q i fine) (i_familyAt p q i fine) := by
  unfold f68 i_familyAt
  repeat' first | with_reducible exact Lim.ret _ | with_reducible exact Ri_addSingle _ _ | with_reducible exact Ri_multiplySingle _ _ | with_reducible refine Lim.cond ?_ ?_ | with_reducible refine Lim.bind ?_ fun _ => ?_

-- impl.long).times
theorem MFi_long_times_1004 (k : Nat) {r1004 q1004 : Int → Bool → Bool → List Int → Int → List Int → Int → Int → Option (Bool × List (Int))} (h1004 : ∀ (n : Int) (t4s_0 : Bool) (outs_0 : Bool) (outs : List Int) (carry : Int) (t16 : List Int) (t17 : Int) (t18 : Int), Le (r1004 n t4s_0 outs_0 outs carry t16 t17 t18) (q1004 n t4s_0 outs_0 outs carry t16 t17 t18)) (n : Int) (t4s_0 : Bool) (outs_0 : Bool) (outs : List Int) (carry : Int) (t16 : List Int) (t17 : Int) (t18 : Int) : Le (F154_1004 k r1004 n t4s_0 outs_0 outs carry t16 t17 t18) (F154_1004 (k + 1) q1004 n t4s_0 outs_0 outs carry t16 t17 t18) := by
  unfold F154_1004
  repeat' first | with_reducible exact Le.rfl _ | with_reducible exact Mi_size _ _ | with_reducible exact h1004 _ _ _ _ _ _ _ _ | with_reducible refine Le.cond ?_ ?_ | with_reducible refine Le.bind ?_ fun _ => ?_
theorem Mli_long_times : ∀ k : Nat, ∀ (n : Int) (t4s_0 : Bool) (outs_0 : Bool) (outs : List Int) (carry : Int) (t16 : List Int) (t17 : Int) (t18 : Int), Le ((l154 k) n t4s_0 outs_0 outs carry t16 t17 t18) ((l154 (k + 1)) n t4s_0 outs_0 outs carry t16 t17 t18)
  | 0 => fun n t4s_0 outs_0 outs carry t16 t17 t18 => Le.no _
  | k + 1 => by
    have h := Mli_long_times k
    exact fun n t4s_0 outs_0 outs carry t16 t17 t18 => MFi_long_times_1004 k h n t4s_0 outs_0 outs carry t16 t17 t18
noncomputable def i_long_times_1004 (n : Int) (t4s_0 : Bool) (outs_0 : Bool) (outs : List Int) (carry : Int) (t16 : List Int) (t17 : Int) (t18 : Int) : Option (Bool × List (Int)) := lim fun k => (l154 k) n t4s_0 outs_0 outs carry t16 t17 t18
theorem Rli_long_times_1004 (n : Int) (t4s_0 : Bool) (outs_0 : Bool) (outs : List Int) (carry : Int) (t16 : List Int) (t17 : Int) (t18 : Int) : Lim (fun k => (l154 k) n t4s_0 outs_0 outs carry t16 t17 t18) (i_long_times_1004 n t4s_0 outs_0 outs carry t16 t17 t18) := Lim.of_mono fun k => Mli_long_times k n t4s_0 outs_0 outs carry t16 t17 t18
theorem Ei_long_times_1004 (n : Int) (t4s_0 : Bool) (outs_0 : Bool) (outs : List Int) (carry : Int) (t16 : List Int) (t17 : Int) (t18 : Int) : i_long_times_1004 n t4s_0 outs_0 outs carry t16 t17 t18 =
  bif decide (t18 < t17) then
    bif boundA t18 (List.length t16) then
      (i_size n).bind fun r0 =>
      bif decide ((List.length outs + List.length [IntKind.wrap IntKind.u32 (IntKind.wrap IntKind.u64 (carry + IntKind.wrap IntKind.u64 (IntKind.wrap IntKind.u64 (List.getD t16 (Int.toNat t18) 0) * r0)))]) * 4 ≤ 140737488355328) then
        i_long_times_1004 n t4s_0 outs_0 (outs ++ [IntKind.wrap IntKind.u32 (IntKind.wrap IntKind.u64 (carry + IntKind.wrap IntKind.u64 (IntKind.wrap IntKind.u64 (List.getD t16 (Int.toNat t18) 0) * r0)))]) (Int.fdiv (IntKind.wrap IntKind.u64 (carry + IntKind.wrap IntKind.u64 (IntKind.wrap IntKind.u64 (List.getD t16 (Int.toNat t18) 0) * r0))) (2 ^ min (Int.toNat 32) (IntKind.bits IntKind.u64))) t16 t17 (IntKind.wrap IntKind.i64 (t18 + 1))
      else
        none
    else
      none
  else
    bif decide ((List.length outs + List.length [IntKind.wrap IntKind.u32 carry]) * 4 ≤ 140737488355328) then
      some ((outs_0, outs ++ [IntKind.wrap IntKind.u32 carry]))
    else
      none := by
  refine Lim.uniq (Lim.shift (Rli_long_times_1004 n t4s_0 outs_0 outs carry t16 t17 t18)) (?_ : Lim (fun k => F154_1004 k ((l154 k)) n t4s_0 outs_0 outs carry t16 t17 t18) _)
  unfold F154_1004
  repeat' first | with_reducible exact Lim.ret _ | with_reducible exact Ri_size _ | with_reducible exact Rli_long_times_1004 _ _ _ _ _ _ _ _ | with_reducible refine Lim.cond ?_ ?_ | with_reducible refine Lim.bind ?_ fun _ => ?_
noncomputable def i_long_times (a_negative : Bool) (a_digits : List (Int)) (n : Int) : Option (Bool × List (Int)) :=
  i_long_times_1004 n false (!a_negative == decide (n < 0)) ([]) (0) a_digits ((↑(List.length a_digits) : Int)) (0)
theorem Mi_long_times (k : Nat) (a_negative : Bool) (a_digits : List (Int)) (n : Int) : Le (f154 k a_negative a_digits n) (f154 (k + 1) a_negative a_digits n) := by
  have h := Mli_long_times k
  unfold f154 F154
  repeat' first | with_reducible exact Le.rfl _ | with_reducible exact h _ _ _ _ _ _ _ _ | with_reducible refine Le.cond ?_ ?_ | with_reducible refine Le.bind ?_ fun _ => ?_
theorem Ri_long_times (a_negative : Bool) (a_digits : List (Int)) (n : Int) : Lim (fun k => f154 k a_negative a_digits n) (i_long_times a_negative a_digits n) := by
  unfold f154 F154 i_long_times
  repeat' first | with_reducible exact Lim.ret _ | with_reducible exact Rli_long_times_1004 _ _ _ _ _ _ _ _ | with_reducible refine Lim.cond ?_ ?_ | with_reducible refine Lim.bind ?_ fun _ => ?_

-- impl.long).digit
noncomputable def i_long_digit (a_negative : Bool) (a_digits : List (Int)) (i : Int) : Option (Int) :=
  bif decide (i < (↑(List.length a_digits) : Int)) then
    bif boundA i (List.length a_digits) then
      some (List.getD a_digits (Int.toNat i) 0)
    else
      none
  else
    some (0)
theorem Mi_long_digit (k : Nat) (a_negative : Bool) (a_digits : List (Int)) (i : Int) : Le (f181 k a_negative a_digits i) (f181 (k + 1) a_negative a_digits i) := by
  unfold f181
  repeat' first | with_reducible exact Le.rfl _ | with_reducible refine Le.cond ?_ ?_ | with_reducible refine Le.bind ?_ fun _ => ?_
theorem Ri_long_digit (a_negative : Bool) (a_digits : List (Int)) (i : Int) : Lim (fun k => f181 k a_negative a_digits i) (i_long_digit a_negative a_digits i) := by
  unfold f181 i_long_digit
  repeat' first | with_reducible exact Lim.ret _ | with_reducible refine Lim.cond ?_ ?_ | with_reducible refine Lim.bind ?_ fun _ => ?_

-- cmp.isNaN[uint32]
noncomputable def cmp_isNaN_uint32 (x : Int) : Option (Bool) :=
  some (!decide (x = x))
theorem Mcmp_isNaN_uint32 (k : Nat) (x : Int) : Le (f205 k x) (f205 (k + 1) x) := by
  unfold f205
  repeat' first | with_reducible exact Le.rfl _ | with_reducible refine Le.cond ?_ ?_ | with_reducible refine Le.bind ?_ fun _ => ?_
theorem Rcmp_isNaN_uint32 (x : Int) : Lim (fun k => f205 k x) (cmp_isNaN_uint32 x) := by
  unfold f205 cmp_isNaN_uint32
  repeat' first | with_reducible exact Lim.ret _ | with_reducible refine Lim.cond ?_ ?_ | with_reducible refine Lim.bind ?_ fun _ => ?_

-- cmp.Compare[uint32]
noncomputable def cmp_Compare_uint32 (x : Int) (y : Int) : Option (Int) :=
  bif !decide (x = x) then
    bif !decide (y = y) then
      some (0)
    else
      some (-1)
  else
    bif !decide (y = y) then
      some (1)
    else
      bif decide (x < y) then
        some (-1)
      else
        bif decide (y < x) then
          some (1)
        else
          some (0)
theorem Mcmp_Compare_uint32 (k : Nat) (x : Int) (y : Int) : Le (f194 k x y) (f194 (k + 1) x y) := by
  unfold f194
  repeat' first | with_reducible exact Le.rfl _ | with_reducible refine Le.cond ?_ ?_ | with_reducible refine Le.bind ?_ fun _ => ?_
theorem Rcmp_Compare_uint32 (x : Int) (y : Int) : Lim (fun k => f194 k x y) (cmp_Compare_uint32 x y) := by
  unfold f194 cmp_Compare_uint32
  repeat' first | with_reducible exact Lim.ret _ | with_reducible refine Lim.cond ?_ ?_ | with_reducible refine Lim.bind ?_ fun _ => ?_

-- impl.compareDigits
theorem MFi_compareDigits_1002 (k : Nat) {r1002 q1002 : Bool → List Int → Bool → List Int → Int → Option (Int)} (h1002 : ∀ (as_0 : Bool) (as_1 : List Int) (bs_0 : Bool) (bs_1 : List Int) (i : Int), Le (r1002 as_0 as_1 bs_0 bs_1 i) (q1002 as_0 as_1 bs_0 bs_1 i)) (as_0 : Bool) (as_1 : List Int) (bs_0 : Bool) (bs_1 : List Int) (i : Int) : Le (F180_1002 k r1002 as_0 as_1 bs_0 bs_1 i) (F180_1002 (k + 1) q1002 as_0 as_1 bs_0 bs_1 i) := by
  unfold F180_1002
  repeat' first | with_reducible exact Le.rfl _ | with_reducible exact Mi_long_digit _ _ _ _ | with_reducible exact Mcmp_Compare_uint32 _ _ _ | with_reducible exact h1002 _ _ _ _ _ | with_reducible refine Le.cond ?_ ?_ | with_reducible refine Le.bind ?_ fun _ => ?_
theorem Mli_compareDigits : ∀ k : Nat, ∀ (as_0 : Bool) (as_1 : List Int) (bs_0 : Bool) (bs_1 : List Int) (i : Int), Le ((l180 k) as_0 as_1 bs_0 bs_1 i) ((l180 (k + 1)) as_0 as_1 bs_0 bs_1 i)
  | 0 => fun as_0 as_1 bs_0 bs_1 i => Le.no _
  | k + 1 => by
    have h := Mli_compareDigits k
    exact fun as_0 as_1 bs_0 bs_1 i => MFi_compareDigits_1002 k h as_0 as_1 bs_0 bs_1 i
noncomputable def i_compareDigits_1002 (as_0 : Bool) (as_1 : List Int) (bs_0 : Bool) (bs_1 : List Int) (i : Int) : Option (Int) := lim fun k => (l180 k) as_0 as_1 bs_0 bs_1 i
theorem Rli_compareDigits_1002 (as_0 : Bool) (as_1 : List Int) (bs_0 : Bool) (bs_1 : List Int) (i : Int) : Lim (fun k => (l180 k) as_0 as_1 bs_0 bs_1 i) (i_compareDigits_1002 as_0 as_1 bs_0 bs_1 i) := Lim.of_mono fun k => Mli_compareDigits k as_0 as_1 bs_0 bs_1 i
theorem Ei_compareDigits_1002 (as_0 : Bool) (as_1 : List Int) (bs_0 : Bool) (bs_1 : List Int) (i : Int) : i_compareDigits_1002 as_0 as_1 bs_0 bs_1 i =
  bif decide (0 ≤ i) then
    (i_long_digit as_0 as_1 i).bind fun r0 =>
    (i_long_digit bs_0 bs_1 i).bind fun r1 =>
    (cmp_Compare_uint32 r0 r1).bind fun r2 =>
    bif !decide (r2 = 0) then
      some r2
    else
      i_compareDigits_1002 as_0 as_1 bs_0 bs_1 (IntKind.wrap IntKind.i64 (i - 1))
  else
    some (0) := by
  refine Lim.uniq (Lim.shift (Rli_compareDigits_1002 as_0 as_1 bs_0 bs_1 i)) (?_ : Lim (fun k => F180_1002 k ((l180 k)) as_0 as_1 bs_0 bs_1 i) _)
  unfold F180_1002
  repeat' first | with_reducible exact Lim.ret _ | with_reducible exact Ri_long_digit _ _ _ | with_reducible exact Rcmp_Compare_uint32 _ _ | with_reducible exact Rli_compareDigits_1002 _ _ _ _ _ | with_reducible refine Lim.cond ?_ ?_ | with_reducible refine Lim.bind ?_ fun _ => ?_
noncomputable def i_compareDigits (a_negative : Bool) (a_digits : List (Int)) (b_negative : Bool) (b_digits : List (Int)) : Option (Int) :=
  i_compareDigits_1002 a_negative a_digits b_negative b_digits (IntKind.wrap IntKind.i64 ((bif decide ((↑(List.length a_digits) : Int) < (↑(List.length b_digits) : Int)) then (↑(List.length b_digits) : Int) else (↑(List.length a_digits) : Int)) - 1))
theorem Mi_compareDigits (k : Nat) (a_negative : Bool) (a_digits : List (Int)) (b_negative : Bool) (b_digits : List (Int)) : Le (f180 k a_negative a_digits b_negative b_digits) (f180 (k + 1) a_negative a_digits b_negative b_digits) := by
  have h := Mli_compareDigits k
  unfold f180 F180
  repeat' first | with_reducible exact Le.rfl _ | with_reducible exact h _ _ _ _ _ | with_reducible refine Le.cond ?_ ?_ | with_reducible refine Le.bind ?_ fun _ => ?_
theorem Ri_compareDigits (a_negative : Bool) (a_digits : List (Int)) (b_negative : Bool) (b_digits : List (Int)) : Lim (fun k => f180 k a_negative a_digits b_negative b_digits) (i_compareDigits a_negative a_digits b_negative b_digits) := by
  unfold f180 F180 i_compareDigits
  repeat' first | with_reducible exact Lim.ret _ | with_reducible exact Rli_compareDigits_1002 _ _ _ _ _ | with_reducible refine Lim.cond ?_ ?_ | with_reducible refine Lim.bind ?_ fun _ => ?_

-- impl.long).plus
theorem MFi_long_plus_1006 (k : Nat) {r1006 q1006 : Bool → List Int → Bool → List Int → Bool → Bool → List Int → Int → Int → Int → Option (Bool × List (Int))} (h1006 : ∀ (as_0 : Bool) (as_1 : List Int) (bs_0 : Bool) (bs_1 : List Int) (t4s_0 : Bool) (outs_0 : Bool) (outs : List Int) (carry : Int) (t21 : Int) (t22 : Int), Le (r1006 as_0 as_1 bs_0 bs_1 t4s_0 outs_0 outs carry t21 t22) (q1006 as_0 as_1 bs_0 bs_1 t4s_0 outs_0 outs carry t21 t22)) {r3 q3 : Bool → List Int → Bool → List Int → Bool → Option (Bool × List (Int))} (h3 : ∀ (as_0 : Bool) (as_1 : List Int) (bs_0 : Bool) (bs_1 : List Int) (t4s_0 : Bool), Le (r3 as_0 as_1 bs_0 bs_1 t4s_0) (q3 as_0 as_1 bs_0 bs_1 t4s_0)) (as_0 : Bool) (as_1 : List Int) (bs_0 : Bool) (bs_1 : List Int) (t4s_0 : Bool) (outs_0 : Bool) (outs : List Int) (carry : Int) (t21 : Int) (t22 : Int) : Le (F155_1006 k r1006 r3 as_0 as_1 bs_0 bs_1 t4s_0 outs_0 outs carry t21 t22) (F155_1006 (k + 1) q1006 q3 as_0 as_1 bs_0 bs_1 t4s_0 outs_0 outs carry t21 t22) := by
  unfold F155_1006
  repeat' first | with_reducible exact Le.rfl _ | with_reducible exact Mi_long_digit _ _ _ _ | with_reducible exact h1006 _ _ _ _ _ _ _ _ _ _ | with_reducible exact h3 _ _ _ _ _ | with_reducible refine Le.cond ?_ ?_ | with_reducible refine Le.bind ?_ fun _ => ?_
theorem MFi_long_plus_3 (k : Nat) {r1006 q1006 : Bool → List Int → Bool → List Int → Bool → Bool → List Int → Int → Int → Int → Option (Bool × List (Int))} (h1006 : ∀ (as_0 : Bool) (as_1 : List Int) (bs_0 : Bool) (bs_1 : List Int) (t4s_0 : Bool) (outs_0 : Bool) (outs : List Int) (carry : Int) (t21 : Int) (t22 : Int), Le (r1006 as_0 as_1 bs_0 bs_1 t4s_0 outs_0 outs carry t21 t22) (q1006 as_0 as_1 bs_0 bs_1 t4s_0 outs_0 outs carry t21 t22)) {r3 q3 : Bool → List Int → Bool → List Int → Bool → Option (Bool × List (Int))} (h3 : ∀ (as_0 : Bool) (as_1 : List Int) (bs_0 : Bool) (bs_1 : List Int) (t4s_0 : Bool), Le (r3 as_0 as_1 bs_0 bs_1 t4s_0) (q3 as_0 as_1 bs_0 bs_1 t4s_0)) (as_0 : Bool) (as_1 : List Int) (bs_0 : Bool) (bs_1 : List Int) (t4s_0 : Bool) : Le (F155_3 k r1006 r3 as_0 as_1 bs_0 bs_1 t4s_0) (F155_3 (k + 1) q1006 q3 as_0 as_1 bs_0 bs_1 t4s_0) := by
  unfold F155_3
  repeat' first | with_reducible exact Le.rfl _ | with_reducible exact h1006 _ _ _ _ _ _ _ _ _ _ | with_reducible exact h3 _ _ _ _ _ | with_reducible refine Le.cond ?_ ?_ | with_reducible refine Le.bind ?_ fun _ => ?_
theorem Mli_long_plus : ∀ k : Nat, (∀ (as_0 : Bool) (as_1 : List Int) (bs_0 : Bool) (bs_1 : List Int) (t4s_0 : Bool) (outs_0 : Bool) (outs : List Int) (carry : Int) (t21 : Int) (t22 : Int), Le ((l155 k).1 as_0 as_1 bs_0 bs_1 t4s_0 outs_0 outs carry t21 t22) ((l155 (k + 1)).1 as_0 as_1 bs_0 bs_1 t4s_0 outs_0 outs carry t21 t22)) ∧ (∀ (as_0 : Bool) (as_1 : List Int) (bs_0 : Bool) (bs_1 : List Int) (t4s_0 : Bool), Le ((l155 k).2 as_0 as_1 bs_0 bs_1 t4s_0) ((l155 (k + 1)).2 as_0 as_1 bs_0 bs_1 t4s_0))
  | 0 => ⟨fun as_0 as_1 bs_0 bs_1 t4s_0 outs_0 outs carry t21 t22 => Le.no _, fun as_0 as_1 bs_0 bs_1 t4s_0 => Le.no _⟩
  | k + 1 => by
    have h := Mli_long_plus k
    exact ⟨fun as_0 as_1 bs_0 bs_1 t4s_0 outs_0 outs carry t21 t22 => MFi_long_plus_1006 k h.1 h.2 as_0 as_1 bs_0 bs_1 t4s_0 outs_0 outs carry t21 t22, fun as_0 as_1 bs_0 bs_1 t4s_0 => MFi_long_plus_3 k h.1 h.2 as_0 as_1 bs_0 bs_1 t4s_0⟩
noncomputable def i_long_plus_1006 (as_0 : Bool) (as_1 : List Int) (bs_0 : Bool) (bs_1 : List Int) (t4s_0 : Bool) (outs_0 : Bool) (outs : List Int) (carry : Int) (t21 : Int) (t22 : Int) : Option (Bool × List (Int)) := lim fun k => (l155 k).1 as_0 as_1 bs_0 bs_1 t4s_0 outs_0 outs carry t21 t22
theorem Rli_long_plus_1006 (as_0 : Bool) (as_1 : List Int) (bs_0 : Bool) (bs_1 : List Int) (t4s_0 : Bool) (outs_0 : Bool) (outs : List Int) (carry : Int) (t21 : Int) (t22 : Int) : Lim (fun k => (l155 k).1 as_0 as_1 bs_0 bs_1 t4s_0 outs_0 outs carry t21 t22) (i_long_plus_1006 as_0 as_1 bs_0 bs_1 t4s_0 outs_0 outs carry t21 t22) := Lim.of_mono fun k => (Mli_long_plus k).1 as_0 as_1 bs_0 bs_1 t4s_0 outs_0 outs carry t21 t22
noncomputable def i_long_plus_3 (as_0 : Bool) (as_1 : List Int) (bs_0 : Bool) (bs_1 : List Int) (t4s_0 : Bool) : Option (Bool × List (Int)) := lim fun k => (l155 k).2 as_0 as_1 bs_0 bs_1 t4s_0
theorem Rli_long_plus_3 (as_0 : Bool) (as_1 : List Int) (bs_0 : Bool) (bs_1 : List Int) (t4s_0 : Bool) : Lim (fun k => (l155 k).2 as_0 as_1 bs_0 bs_1 t4s_0) (i_long_plus_3 as_0 as_1 bs_0 bs_1 t4s_0) := Lim.of_mono fun k => (Mli_long_plus k).2 as_0 as_1 bs_0 bs_1 t4s_0
theorem Ei_long_plus_1006 (as_0 : Bool) (as_1 : List Int) (bs_0 : Bool) (bs_1 : List Int) (t4s_0 : Bool) (outs_0 : Bool) (outs : List Int) (carry : Int) (t21 : Int) (t22 : Int) : i_long_plus_1006 as_0 as_1 bs_0 bs_1 t4s_0 outs_0 outs carry t21 t22 =
  bif decide (t22 < t21) then
    (i_long_digit as_0 as_1 t22).bind fun r0 =>
    bif as_0 == bs_0 then
      (i_long_digit bs_0 bs_1 t22).bind fun r1 =>
      bif decide ((List.length outs + List.length [IntKind.wrap IntKind.u32 (IntKind.wrap IntKind.i64 (IntKind.wrap IntKind.i64 (carry + IntKind.wrap IntKind.i64 r0) + IntKind.wrap IntKind.i64 r1))]) * 4 ≤ 140737488355328) then
        i_long_plus_1006 as_0 as_1 bs_0 bs_1 t4s_0 outs_0 (outs ++ [IntKind.wrap IntKind.u32 (IntKind.wrap IntKind.i64 (IntKind.wrap IntKind.i64 (carry + IntKind.wrap IntKind.i64 r0) + IntKind.wrap IntKind.i64 r1))]) (Int.fdiv (IntKind.wrap IntKind.i64 (IntKind.wrap IntKind.i64 (carry + IntKind.wrap IntKind.i64 r0) + IntKind.wrap IntKind.i64 r1)) (2 ^ min (Int.toNat 32) (IntKind.bits IntKind.i64))) t21 (IntKind.wrap IntKind.i64 (t22 + 1))
      else
        none
    else
      (i_long_digit bs_0 bs_1 t22).bind fun r2 =>
      bif decide ((List.length outs + List.length [IntKind.wrap IntKind.u32 (IntKind.wrap IntKind.i64 (IntKind.wrap IntKind.i64 (carry + IntKind.wrap IntKind.i64 r0) - IntKind.wrap IntKind.i64 r2))]) * 4 ≤ 140737488355328) then
        i_long_plus_1006 as_0 as_1 bs_0 bs_1 t4s_0 outs_0 (outs ++ [IntKind.wrap IntKind.u32 (IntKind.wrap IntKind.i64 (IntKind.wrap IntKind.i64 (carry + IntKind.wrap IntKind.i64 r0) - IntKind.wrap IntKind.i64 r2))]) (Int.fdiv (IntKind.wrap IntKind.i64 (IntKind.wrap IntKind.i64 (carry + IntKind.wrap IntKind.i64 r0) - IntKind.wrap IntKind.i64 r2)) (2 ^ min (Int.toNat 32) (IntKind.bits IntKind.i64))) t21 (IntKind.wrap IntKind.i64 (t22 + 1))
      else
        none
  else
    some ((outs_0, outs)) := by
  refine Lim.uniq (Lim.shift (Rli_long_plus_1006 as_0 as_1 bs_0 bs_1 t4s_0 outs_0 outs carry t21 t22)) (?_ : Lim (fun k => F155_1006 k ((l155 k).1) ((l155 k).2) as_0 as_1 bs_0 bs_1 t4s_0 outs_0 outs carry t21 t22) _)
  unfold F155_1006
  repeat' first | with_reducible exact Lim.ret _ | with_reducible exact Ri_long_digit _ _ _ | with_reducible exact Rli_long_plus_1006 _ _ _ _ _ _ _ _ _ _ | with_reducible exact Rli_long_plus_3 _ _ _ _ _ | with_reducible refine Lim.cond ?_ ?_ | with_reducible refine Lim.bind ?_ fun _ => ?_
theorem Ei_long_plus_3 (as_0 : Bool) (as_1 : List Int) (bs_0 : Bool) (bs_1 : List Int) (t4s_0 : Bool) : i_long_plus_3 as_0 as_1 bs_0 bs_1 t4s_0 =
  i_long_plus_1006 as_0 as_1 bs_0 bs_1 t4s_0 as_0 ([]) (0) (IntKind.wrap IntKind.i64 ((↑(List.length as_1) : Int) + 1)) (0) := by
  refine Lim.uniq (Lim.shift (Rli_long_plus_3 as_0 as_1 bs_0 bs_1 t4s_0)) (?_ : Lim (fun k => F155_3 k ((l155 k).1) ((l155 k).2) as_0 as_1 bs_0 bs_1 t4s_0) _)
  unfold F155_3
  repeat' first | with_reducible exact Lim.ret _ | with_reducible exact Rli_long_plus_1006 _ _ _ _ _ _ _ _ _ _ | with_reducible exact Rli_long_plus_3 _ _ _ _ _ | with_reducible refine Lim.cond ?_ ?_ | with_reducible refine Lim.bind ?_ fun _ => ?_
noncomputable def i_long_plus (a_negative : Bool) (a_digits : List (Int)) (b_negative : Bool) (b_digits : List (Int)) : Option (Bool × List (Int)) :=
  (i_compareDigits a_negative a_digits b_negative b_digits).bind fun r0 =>
  bif decide (r0 < 0) then
    i_long_plus_3 b_negative b_digits a_negative a_digits false
  else
    i_long_plus_3 a_negative a_digits b_negative b_digits false
theorem Mi_long_plus (k : Nat) (a_negative : Bool) (a_digits : List (Int)) (b_negative : Bool) (b_digits : List (Int)) : Le (f155 k a_negative a_digits b_negative b_digits) (f155 (k + 1) a_negative a_digits b_negative b_digits) := by
  have h := Mli_long_plus k
  unfold f155 F155
  repeat' first | with_reducible exact Le.rfl _ | with_reducible exact Mi_compareDigits _ _ _ _ _ | with_reducible exact h.1 _ _ _ _ _ _ _ _ _ _ | with_reducible exact h.2 _ _ _ _ _ | with_reducible refine Le.cond ?_ ?_ | with_reducible refine Le.bind ?_ fun _ => ?_
theorem Ri_long_plus (a_negative : Bool) (a_digits : List (Int)) (b_negative : Bool) (b_digits : List (Int)) : Lim (fun k => f155 k a_negative a_digits b_negative b_digits) (i_long_plus a_negative a_digits b_negative b_digits) := by
  unfold f155 F155 i_long_plus
  repeat' first | with_reducible exact Lim.ret _ | with_reducible exact Ri_compareDigits _ _ _ _ | with_reducible exact Rli_long_plus_1006 _ _ _ _ _ _ _ _ _ _ | with_reducible exact Rli_long_plus_3 _ _ _ _ _ | with_reducible refine Lim.cond ?_ ?_ | with_reducible refine Lim.bind ?_ fun _ => ?_

-- impl.longOf
noncomputable def i_longOf (n : Int) (k_ : Int) : Option (Bool × List (Int)) :=
  (i_size n).bind fun r0 =>
  bif !decide (Int.tmod k_ 32 < 0) then
    bif decide (0 < Int.tmod k_ 32) then
      (i_size n).bind fun r1 =>
      bif !decide (IntKind.wrap IntKind.i64 (64 - Int.tmod k_ 32) < 0) then
        bif decide (0 ≤ IntKind.wrap IntKind.i64 (Int.tdiv k_ 32)) then
          bif decide (IntKind.wrap IntKind.i64 (Int.tdiv k_ 32) ≤ IntKind.wrap IntKind.i64 (Int.tdiv k_ 32)) then
            bif decide (IntKind.wrap IntKind.i64 (Int.tdiv k_ 32) * (↑4 : Int) ≤ 140737488355328) then
              bif decide
  ((List.length
          (match none with
          | none => List.replicate (Int.toNat (IntKind.wrap IntKind.i64 (Int.tdiv k_ 32))) (dflt (Ty.int IntKind.u32))
          | some m => List.take m (List.replicate (Int.toNat (IntKind.wrap IntKind.i64 (Int.tdiv k_ 32))) (dflt (Ty.int IntKind.u32)))) +
        List.length [IntKind.wrap IntKind.u32 (IntKind.wrap IntKind.u64 (r0 * 2 ^ min (Int.toNat (Int.tmod k_ 32)) (IntKind.bits IntKind.u64))), IntKind.wrap IntKind.u32 (Int.fdiv (IntKind.wrap IntKind.u64 (r0 * 2 ^ min (Int.toNat (Int.tmod k_ 32)) (IntKind.bits IntKind.u64))) (2 ^ min (Int.toNat 32) (IntKind.bits IntKind.u64))), IntKind.wrap IntKind.u32 (Int.fdiv r1 (2 ^ min (Int.toNat (IntKind.wrap IntKind.i64 (64 - Int.tmod k_ 32))) (IntKind.bits IntKind.u64)))]) *
      4 ≤
    140737488355328) then
                some ((decide (n < 0),
  (match none with
    | none => List.replicate (Int.toNat (IntKind.wrap IntKind.i64 (Int.tdiv k_ 32))) (dflt (Ty.int IntKind.u32))
    | some m => List.take m (List.replicate (Int.toNat (IntKind.wrap IntKind.i64 (Int.tdiv k_ 32))) (dflt (Ty.int IntKind.u32)))) ++
    [IntKind.wrap IntKind.u32 (IntKind.wrap IntKind.u64 (r0 * 2 ^ min (Int.toNat (Int.tmod k_ 32)) (IntKind.bits IntKind.u64))), IntKind.wrap IntKind.u32 (Int.fdiv (IntKind.wrap IntKind.u64 (r0 * 2 ^ min (Int.toNat (Int.tmod k_ 32)) (IntKind.bits IntKind.u64))) (2 ^ min (Int.toNat 32) (IntKind.bits IntKind.u64))), IntKind.wrap IntKind.u32 (Int.fdiv r1 (2 ^ min (Int.toNat (IntKind.wrap IntKind.i64 (64 - Int.tmod k_ 32))) (IntKind.bits IntKind.u64)))]))
              else
                none
            else
              none
          else
            none
        else
          none
      else
        none
    else
      bif decide (0 ≤ IntKind.wrap IntKind.i64 (Int.tdiv k_ 32)) then
        bif decide (IntKind.wrap IntKind.i64 (Int.tdiv k_ 32) ≤ IntKind.wrap IntKind.i64 (Int.tdiv k_ 32)) then
          bif decide (IntKind.wrap IntKind.i64 (Int.tdiv k_ 32) * (↑4 : Int) ≤ 140737488355328) then
            bif decide
  ((List.length
          (match none with
          | none => List.replicate (Int.toNat (IntKind.wrap IntKind.i64 (Int.tdiv k_ 32))) (dflt (Ty.int IntKind.u32))
          | some m => List.take m (List.replicate (Int.toNat (IntKind.wrap IntKind.i64 (Int.tdiv k_ 32))) (dflt (Ty.int IntKind.u32)))) +
        List.length [IntKind.wrap IntKind.u32 (IntKind.wrap IntKind.u64 (r0 * 2 ^ min (Int.toNat (Int.tmod k_ 32)) (IntKind.bits IntKind.u64))), IntKind.wrap IntKind.u32 (Int.fdiv (IntKind.wrap IntKind.u64 (r0 * 2 ^ min (Int.toNat (Int.tmod k_ 32)) (IntKind.bits IntKind.u64))) (2 ^ min (Int.toNat 32) (IntKind.bits IntKind.u64))), IntKind.wrap IntKind.u32 0]) *
      4 ≤
    140737488355328) then
              some ((decide (n < 0),
  (match none with
    | none => List.replicate (Int.toNat (IntKind.wrap IntKind.i64 (Int.tdiv k_ 32))) (dflt (Ty.int IntKind.u32))
    | some m => List.take m (List.replicate (Int.toNat (IntKind.wrap IntKind.i64 (Int.tdiv k_ 32))) (dflt (Ty.int IntKind.u32)))) ++
    [IntKind.wrap IntKind.u32 (IntKind.wrap IntKind.u64 (r0 * 2 ^ min (Int.toNat (Int.tmod k_ 32)) (IntKind.bits IntKind.u64))), IntKind.wrap IntKind.u32 (Int.fdiv (IntKind.wrap IntKind.u64 (r0 * 2 ^ min (Int.toNat (Int.tmod k_ 32)) (IntKind.bits IntKind.u64))) (2 ^ min (Int.toNat 32) (IntKind.bits IntKind.u64))), IntKind.wrap IntKind.u32 0]))
            else
              none
          else
            none
        else
          none
      else
        none
  else
    none
theorem Mi_longOf (k : Nat) (n : Int) (k_ : Int) : Le (f156 k n k_) (f156 (k + 1) n k_) := by
  unfold f156
  repeat' first | with_reducible exact Le.rfl _ | with_reducible exact Mi_size _ _ | with_reducible refine Le.cond ?_ ?_ | with_reducible refine Le.bind ?_ fun _ => ?_
theorem Ri_longOf (n : Int) (k_ : Int) : Lim (fun k => f156 k n k_) (i_longOf n k_) := by
  unfold f156 i_longOf
  repeat' first | with_reducible exact Lim.ret _ | with_reducible exact Ri_size _ | with_reducible refine Lim.cond ?_ ?_ | with_reducible refine Lim.bind ?_ fun _ => ?_

-- impl.long).sign$1
noncomputable def i_long_sign_1 (d : Int) : Option (Bool) :=
  some (!decide (d = 0))
theorem Mi_long_sign_1 (k : Nat) (d : Int) : Le (f183 k d) (f183 (k + 1) d) := by
  unfold f183
  repeat' first | with_reducible exact Le.rfl _ | with_reducible refine Le.cond ?_ ?_ | with_reducible refine Le.bind ?_ fun _ => ?_
theorem Ri_long_sign_1 (d : Int) : Lim (fun k => f183 k d) (i_long_sign_1 d) := by
  unfold f183 i_long_sign_1
  repeat' first | with_reducible exact Lim.ret _ | with_reducible refine Lim.cond ?_ ?_ | with_reducible refine Lim.bind ?_ fun _ => ?_

-- slices.IndexFunc[[]uint32,uint32]
theorem MFslices_IndexFunc_uint32_uint32_i_long_sign_1_1002 (k : Nat) {r1002 q1002 : List Int → Int → Int → Option (Int)} (h1002 : ∀ (s : List Int) (t7 : Int) (t8 : Int), Le (r1002 s t7 t8) (q1002 s t7 t8)) (s : List Int) (t7 : Int) (t8 : Int) : Le (F195_183_1002 k r1002 s t7 t8) (F195_183_1002 (k + 1) q1002 s t7 t8) := by
  unfold F195_183_1002
  repeat' first | with_reducible exact Le.rfl _ | with_reducible exact h1002 _ _ _ | with_reducible refine Le.cond ?_ ?_ | with_reducible refine Le.bind ?_ fun _ => ?_
theorem Mlslices_IndexFunc_uint32_uint32_i_long_sign_1 : ∀ k : Nat, ∀ (s : List Int) (t7 : Int) (t8 : Int), Le ((l195_183 k) s t7 t8) ((l195_183 (k + 1)) s t7 t8)
  | 0 => fun s t7 t8 => Le.no _
  | k + 1 => by
    have h := Mlslices_IndexFunc_uint32_uint32_i_long_sign_1 k
    exact fun s t7 t8 => MFslices_IndexFunc_uint32_uint32_i_long_sign_1_1002 k h s t7 t8
noncomputable def slices_IndexFunc_uint32_uint32_i_long_sign_1_1002 (s : List Int) (t7 : Int) (t8 : Int) : Option (Int) := lim fun k => (l195_183 k) s t7 t8
theorem Rlslices_IndexFunc_uint32_uint32_i_long_sign_1_1002 (s : List Int) (t7 : Int) (t8 : Int) : Lim (fun k => (l195_183 k) s t7 t8) (slices_IndexFunc_uint32_uint32_i_long_sign_1_1002 s t7 t8) := Lim.of_mono fun k => Mlslices_IndexFunc_uint32_uint32_i_long_sign_1 k s t7 t8
theorem Eslices_IndexFunc_uint32_uint32_i_long_sign_1_1002 (s : List Int) (t7 : Int) (t8 : Int) : slices_IndexFunc_uint32_uint32_i_long_sign_1_1002 s t7 t8 =
  bif decide (t8 < t7) then
    bif boundA t8 (List.length s) then
      bif !decide (List.getD s (Int.toNat t8) 0 = 0) then
        some t8
      else
        slices_IndexFunc_uint32_uint32_i_long_sign_1_1002 s t7 (IntKind.wrap IntKind.i64 (t8 + 1))
    else
      none
  else
    some (-1) := by
  refine Lim.uniq (Lim.shift (Rlslices_IndexFunc_uint32_uint32_i_long_sign_1_1002 s t7 t8)) (?_ : Lim (fun k => F195_183_1002 k ((l195_183 k)) s t7 t8) _)
  unfold F195_183_1002
  repeat' first | with_reducible exact Lim.ret _ | with_reducible exact Rlslices_IndexFunc_uint32_uint32_i_long_sign_1_1002 _ _ _ | with_reducible refine Lim.cond ?_ ?_ | with_reducible refine Lim.bind ?_ fun _ => ?_
noncomputable def slices_IndexFunc_uint32_uint32_i_long_sign_1 (s : List (Int)) : Option (Int) :=
  slices_IndexFunc_uint32_uint32_i_long_sign_1_1002 s ((↑(List.length s) : Int)) (0)
theorem Mslices_IndexFunc_uint32_uint32_i_long_sign_1 (k : Nat) (s : List (Int)) : Le (f195_183 k s) (f195_183 (k + 1) s) := by
  have h := Mlslices_IndexFunc_uint32_uint32_i_long_sign_1 k
  unfold f195_183 F195_183
  repeat' first | with_reducible exact Le.rfl _ | with_reducible exact h _ _ _ | with_reducible refine Le.cond ?_ ?_ | with_reducible refine Le.bind ?_ fun _ => ?_
theorem Rslices_IndexFunc_uint32_uint32_i_long_sign_1 (s : List (Int)) : Lim (fun k => f195_183 k s) (slices_IndexFunc_uint32_uint32_i_long_sign_1 s) := by
  unfold f195_183 F195_183 slices_IndexFunc_uint32_uint32_i_long_sign_1
  repeat' first | with_reducible exact Lim.ret _ | with_reducible exact Rlslices_IndexFunc_uint32_uint32_i_long_sign_1_1002 _ _ _ | with_reducible refine Lim.cond ?_ ?_ | with_reducible refine Lim.bind ?_ fun _ => ?_

-- slices.ContainsFunc[[]uint32,uint32]
noncomputable def slices_ContainsFunc_uint32_uint32_i_long_sign_1 (s : List (Int)) : Option (Bool) :=
  (slices_IndexFunc_uint32_uint32_i_long_sign_1 s).bind fun r0 =>
  some (decide (0 ≤ r0))
theorem Mslices_ContainsFunc_uint32_uint32_i_long_sign_1 (k : Nat) (s : List (Int)) : Le (f182_183 k s) (f182_183 (k + 1) s) := by
  unfold f182_183
  repeat' first | with_reducible exact Le.rfl _ | with_reducible exact Mslices_IndexFunc_uint32_uint32_i_long_sign_1 _ _ | with_reducible refine Le.cond ?_ ?_ | with_reducible refine Le.bind ?_ fun _ => ?_
theorem Rslices_ContainsFunc_uint32_uint32_i_long_sign_1 (s : List (Int)) : Lim (fun k => f182_183 k s) (slices_ContainsFunc_uint32_uint32_i_long_sign_1 s) := by
  unfold f182_183 slices_ContainsFunc_uint32_uint32_i_long_sign_1
  repeat' first | with_reducible exact Lim.ret _ | with_reducible exact Rslices_IndexFunc_uint32_uint32_i_long_sign_1 _ | with_reducible refine Lim.cond ?_ ?_ | with_reducible refine Lim.bind ?_ fun _ => ?_

-- impl.long).sign
noncomputable def i_long_sign (a_negative : Bool) (a_digits : List (Int)) : Option (Int) :=
  (slices_ContainsFunc_uint32_uint32_i_long_sign_1 a_digits).bind fun r0 =>
  bif !r0 then
    some (0)
  else
    bif a_negative then
      some (-1)
    else
      some (1)
theorem Mi_long_sign (k : Nat) (a_negative : Bool) (a_digits : List (Int)) : Le (f157 k a_negative a_digits) (f157 (k + 1) a_negative a_digits) := by
  unfold f157
  repeat' first | with_reducible exact Le.rfl _ | with_reducible exact Mslices_ContainsFunc_uint32_uint32_i_long_sign_1 _ _ | with_reducible refine Le.cond ?_ ?_ | with_reducible refine Le.bind ?_ fun _ => ?_
theorem Ri_long_sign (a_negative : Bool) (a_digits : List (Int)) : Lim (fun k => f157 k a_negative a_digits) (i_long_sign a_negative a_digits) := by
  unfold f157 i_long_sign
  repeat' first | with_reducible exact Lim.ret _ | with_reducible exact Rslices_ContainsFunc_uint32_uint32_i_long_sign_1 _ | with_reducible refine Lim.cond ?_ ?_ | with_reducible refine Lim.bind ?_ fun _ => ?_

-- impl.signAt
theorem MFi_signAt_1003 (k : Nat) {r1003 q1003 : List Int → Int → Int → Bool → List Int → Int → Option (Int)} (h1003 : ∀ (p : List Int) (xs_0 : Int) (xs_1 : Int) (sums_0 : Bool) (sums : List Int) (i : Int), Le (r1003 p xs_0 xs_1 sums_0 sums i) (q1003 p xs_0 xs_1 sums_0 sums i)) (p : List Int) (xs_0 : Int) (xs_1 : Int) (sums_0 : Bool) (sums : List Int) (i : Int) : Le (F122_1003 k r1003 p xs_0 xs_1 sums_0 sums i) (F122_1003 (k + 1) q1003 p xs_0 xs_1 sums_0 sums i) := by
  unfold F122_1003
  repeat' first | with_reducible exact Le.rfl _ | with_reducible exact Mi_long_times _ _ _ _ | with_reducible exact Mi_long_plus _ _ _ _ _ | with_reducible exact Mi_longOf _ _ _ | with_reducible exact Mi_long_sign _ _ _ | with_reducible exact h1003 _ _ _ _ _ _ | with_reducible refine Le.cond ?_ ?_ | with_reducible refine Le.bind ?_ fun _ => ?_
theorem Mli_signAt : ∀ k : Nat, ∀ (p : List Int) (xs_0 : Int) (xs_1 : Int) (sums_0 : Bool) (sums : List Int) (i : Int), Le ((l122 k) p xs_0 xs_1 sums_0 sums i) ((l122 (k + 1)) p xs_0 xs_1 sums_0 sums i)
  | 0 => fun p xs_0 xs_1 sums_0 sums i => Le.no _
  | k + 1 => by
    have h := Mli_signAt k
    exact fun p xs_0 xs_1 sums_0 sums i => MFi_signAt_1003 k h p xs_0 xs_1 sums_0 sums i
noncomputable def i_signAt_1003 (p : List Int) (xs_0 : Int) (xs_1 : Int) (sums_0 : Bool) (sums : List Int) (i : Int) : Option (Int) := lim fun k => (l122 k) p xs_0 xs_1 sums_0 sums i
theorem Rli_signAt_1003 (p : List Int) (xs_0 : Int) (xs_1 : Int) (sums_0 : Bool) (sums : List Int) (i : Int) : Lim (fun k => (l122 k) p xs_0 xs_1 sums_0 sums i) (i_signAt_1003 p xs_0 xs_1 sums_0 sums i) := Lim.of_mono fun k => Mli_signAt k p xs_0 xs_1 sums_0 sums i
theorem Ei_signAt_1003 (p : List Int) (xs_0 : Int) (xs_1 : Int) (sums_0 : Bool) (sums : List Int) (i : Int) : i_signAt_1003 p xs_0 xs_1 sums_0 sums i =
  bif decide (0 ≤ i) then
    (i_long_times sums_0 sums xs_0).bind fun r0 =>
    bif boundA i (List.length p) then
      (i_longOf (List.getD p (Int.toNat i) 0) (IntKind.wrap IntKind.i64 (xs_1 * IntKind.wrap IntKind.i64 (IntKind.wrap IntKind.i64 ((↑(List.length p) : Int) - 1) - i)))).bind fun r1 =>
      (i_long_plus r0.fst r0.snd r1.fst r1.snd).bind fun r2 =>
      i_signAt_1003 p xs_0 xs_1 (r2.fst) (r2.snd) (IntKind.wrap IntKind.i64 (i - 1))
    else
      none
  else
    (i_long_sign sums_0 sums).bind fun r3 =>
    some r3 := by
  refine Lim.uniq (Lim.shift (Rli_signAt_1003 p xs_0 xs_1 sums_0 sums i)) (?_ : Lim (fun k => F122_1003 k ((l122 k)) p xs_0 xs_1 sums_0 sums i) _)
  unfold F122_1003
  repeat' first | with_reducible exact Lim.ret _ | with_reducible exact Ri_long_times _ _ _ | with_reducible exact Ri_long_plus _ _ _ _ | with_reducible exact Ri_longOf _ _ | with_reducible exact Ri_long_sign _ _ | with_reducible exact Rli_signAt_1003 _ _ _ _ _ _ | with_reducible refine Lim.cond ?_ ?_ | with_reducible refine Lim.bind ?_ fun _ => ?_
noncomputable def i_signAt (p : List (Int)) (x_N : Int) (x_K : Int) : Option (Int) :=
  i_signAt_1003 p x_N x_K false ([]) (IntKind.wrap IntKind.i64 ((↑(List.length p) : Int) - 1))
theorem Mi_signAt (k : Nat) (p : List (Int)) (x_N : Int) (x_K : Int) : Le (f122 k p x_N x_K) (f122 (k + 1) p x_N x_K) := by
  have h := Mli_signAt k
  unfold f122 F122
  repeat' first | with_reducible exact Le.rfl _ | with_reducible exact h _ _ _ _ _ _ | with_reducible refine Le.cond ?_ ?_ | with_reducible refine Le.bind ?_ fun _ => ?_
theorem Ri_signAt (p : List (Int)) (x_N : Int) (x_K : Int) : Lim (fun k => f122 k p x_N x_K) (i_signAt p x_N x_K) := by
  unfold f122 F122 i_signAt
  repeat' first | with_reducible exact Lim.ret _ | with_reducible exact Rli_signAt_1003 _ _ _ _ _ _ | with_reducible refine Lim.cond ?_ ?_ | with_reducible refine Lim.bind ?_ fun _ => ?_

-- impl.familySign
noncomputable def i_familySign (p : List (Int)) (q : List (Int)) (x_N : Int) (x_K : Int) (i : Int) (k_ : Int) (fine : Int) : Option (Int) :=
  (i_familyAt p q i fine).bind fun r0 =>
  (i_signAt r0 x_N x_K).bind fun r1 =>
  (i_familyAt p q k_ fine).bind fun r2 =>
  (i_signAt r2 x_N x_K).bind fun r3 =>
  bif !decide (r3 = r1) then
    some (0)
  else
    some r1
theorem Mi_familySign (k : Nat) (p : List (Int)) (q : List (Int)) (x_N : Int) (x_K : Int) (i : Int) (k_ : Int) (fine : Int) : Le (f89 k p q x_N x_K i k_ fine) (f89 (k + 1) p q x_N x_K i k_ fine) := by
  unfold f89
  repeat' first | with_reducible exact Le.rfl _ | with_reducible exact Mi_signAt _ _ _ _ | with_reducible exact Mi_familyAt _ _ _ _ _ | with_reducible refine Le.cond ?_ ?_ | with_reducible refine Le.bind ?_ fun _ => ?_
theorem Ri_familySign (p : List (Int)) (q : List (Int)) (x_N : Int) (x_K : Int) (i : Int) (k_ : Int) (fine : Int) : Lim (fun k => f89 k p q x_N x_K i k_ fine) (i_familySign p q x_N x_K i k_ fine) := by
  unfold f89 i_familySign
  repeat' first | with_reducible exact Lim.ret _ | with_reducible exact Ri_signAt _ _ _ | with_reducible exact Ri_familyAt _ _ _ _ | with_reducible refine Lim.cond ?_ ?_ | with_reducible refine Lim.bind ?_ fun _ => ?_

-- impl.FamilySign
noncomputable def i_FamilySign (p : List (Int)) (q : List (Int)) (x_N : Int) (x_K : Int) (i : Int) (k_ : Int) (fine : Int) : Option (Int × Bool) :=
  (i_isFamily p q fine).bind fun r0 =>
  bif !r0 then
    some ((0, false))
  else
    (i_isFamilyNumber x_N x_K).bind fun r1 =>
    bif !r1 then
      some ((0, false))
    else
      (i_isMoment i fine).bind fun r2 =>
      bif !r2 then
        some ((0, false))
      else
        (i_isMoment k_ fine).bind fun r3 =>
        bif !r3 then
          some ((0, false))
        else
          (i_familySign p q x_N x_K i k_ fine).bind fun r4 =>
          some ((r4, true))
theorem Mi_FamilySign (k : Nat) (p : List (Int)) (q : List (Int)) (x_N : Int) (x_K : Int) (i : Int) (k_ : Int) (fine : Int) : Le (f44 k p q x_N x_K i k_ fine) (f44 (k + 1) p q x_N x_K i k_ fine) := by
  unfold f44
  repeat' first | with_reducible exact Le.rfl _ | with_reducible exact Mi_isFamily _ _ _ _ | with_reducible exact Mi_isMoment _ _ _ | with_reducible exact Mi_isFamilyNumber _ _ _ | with_reducible exact Mi_familySign _ _ _ _ _ _ _ _ | with_reducible refine Le.cond ?_ ?_ | with_reducible refine Le.bind ?_ fun _ => ?_
theorem Ri_FamilySign (p : List (Int)) (q : List (Int)) (x_N : Int) (x_K : Int) (i : Int) (k_ : Int) (fine : Int) : Lim (fun k => f44 k p q x_N x_K i k_ fine) (i_FamilySign p q x_N x_K i k_ fine) := by
  unfold f44 i_FamilySign
  repeat' first | with_reducible exact Lim.ret _ | with_reducible exact Ri_isFamily _ _ _ | with_reducible exact Ri_isMoment _ _ | with_reducible exact Ri_isFamilyNumber _ _ | with_reducible exact Ri_familySign _ _ _ _ _ _ _ | with_reducible refine Lim.cond ?_ ?_ | with_reducible refine Lim.bind ?_ fun _ => ?_

-- laws.FnExactFamilySign
noncomputable def w_FnExactFamilySign (L : List (Int)) (i : List (Int)) (s_N : Int) (s_K : Int) (t : Int) (t4 : Int) (t_5 : Int) : Option (Bool) :=
  bif decide (1000000 < IntKind.wrap IntKind.i64 ((↑(List.length L) : Int) + (↑(List.length i) : Int))) then
    some true
  else
    (w_toIntS L false).bind fun r0 =>
    (w_toIntS i false).bind fun r1 =>
    (s_FamilySign (List.take r0.snd r0.fst) (List.take r1.snd r1.fst) s_N s_K t t4 t_5).bind fun r2 =>
    (w_toIntS L false).bind fun r3 =>
    (w_toIntS i false).bind fun r4 =>
    (i_FamilySign (List.take r3.snd r3.fst) (List.take r4.snd r4.fst) s_N s_K t t4 t_5).bind fun r5 =>
    bif !decide (r5.fst = r2.fst) then
      some false
    else
      bif !r5.snd == r2.snd then
        some false
      else
        (w_toIntS L false).bind fun r6 =>
        (w_intactIntS r3.fst r3.snd r6.fst r6.snd).bind fun r7 =>
        bif !r7 then
          some false
        else
          (w_toIntS i false).bind fun r8 =>
          (w_intactIntS r4.fst r4.snd r8.fst r8.snd).bind fun r9 =>
          bif !r9 then
            some false
          else
            (w_toIntS L true).bind fun r10 =>
            (w_toIntS i true).bind fun r11 =>
            (i_FamilySign (List.take r10.snd r10.fst) (List.take r11.snd r11.fst) s_N s_K t t4 t_5).bind fun r12 =>
            bif !decide (r12.fst = r2.fst) then
              some false
            else
              bif !r12.snd == r2.snd then
                some false
              else
                some true
theorem Mw_FnExactFamilySign (k : Nat) (L : List (Int)) (i : List (Int)) (s_N : Int) (s_K : Int) (t : Int) (t4 : Int) (t_5 : Int) : Le (f10 k L i s_N s_K t t4 t_5) (f10 (k + 1) L i s_N s_K t t4 t_5) := by
  unfold f10
  repeat' first | with_reducible exact Le.rfl _ | with_reducible exact Mw_toIntS _ _ _ | with_reducible exact Mw_intactIntS _ _ _ _ _ | with_reducible exact Ms_FamilySign _ _ _ _ _ _ _ _ | with_reducible exact Mi_FamilySign _ _ _ _ _ _ _ _ | with_reducible refine Le.cond ?_ ?_ | with_reducible refine Le.bind ?_ fun _ => ?_
theorem Rw_FnExactFamilySign (L : List (Int)) (i : List (Int)) (s_N : Int) (s_K : Int) (t : Int) (t4 : Int) (t_5 : Int) : Lim (fun k => f10 k L i s_N s_K t t4 t_5) (w_FnExactFamilySign L i s_N s_K t t4 t_5) := by
  unfold f10 w_FnExactFamilySign
  repeat' first | with_reducible exact Lim.ret _ | with_reducible exact Rw_toIntS _ _ | with_reducible exact Rw_intactIntS _ _ _ _ | with_reducible exact Rs_FamilySign _ _ _ _ _ _ _ | with_reducible exact Ri_FamilySign _ _ _ _ _ _ _ | with_reducible refine Lim.cond ?_ ?_ | with_reducible refine Lim.bind ?_ fun _ => ?_

end Go.Proofs.YtnndolcjljhhcaaE
