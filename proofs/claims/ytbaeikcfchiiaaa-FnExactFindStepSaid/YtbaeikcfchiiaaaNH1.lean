/- Functions without a count of rounds; printed. -/
import Derived.Test.YtbaeikcfchiiaaaE24
import Derived.Test.YtbaeikcfchiiaaaNF10
set_option maxRecDepth 100000
set_option maxHeartbeats 4000000
set_option linter.unusedVariables false
namespace Go.Proofs.YtbaeikcfchiiaaaE
-- spec.l1In
noncomputable def s_l1In (n : Int) (lo : Int) (hi : Int) : Option (Bool) :=
  bif decide (lo ≤ n) then
    some (decide (n ≤ hi))
  else
    some false
theorem Ms_l1In (k : Nat) (n : Int) (lo : Int) (hi : Int) : Le (f121 k n lo hi) (f121 (k + 1) n lo hi) := by
  unfold f121
  repeat' first | with_reducible exact Le.rfl _ | with_reducible refine Le.cond ?_ ?_ | with_reducible refine Le.bind ?_ fun _ => ?_
theorem Rs_l1In (n : Int) (lo : Int) (hi : Int) : Lim (fun k => f121 k n lo hi) (s_l1In n lo hi) := by
  unfold f121 s_l1In
  repeat' first | with_reducible exact Lim.ret _ | with_reducible refine Lim.cond ?_ ?_ | with_reducible refine Lim.bind ?_ fun _ => ?_

-- spec.l1All
theorem MFs_l1All_1002 (k : Nat) {r1002 q1002 : Int → Int → List Int → Int → Int → Option (Bool)} (h1002 : ∀ (lo : Int) (hi : Int) (t9 : List Int) (t10 : Int) (t11 : Int), Le (r1002 lo hi t9 t10 t11) (q1002 lo hi t9 t10 t11)) (lo : Int) (hi : Int) (t9 : List Int) (t10 : Int) (t11 : Int) : Le (F213_1002 k r1002 lo hi t9 t10 t11) (F213_1002 (k + 1) q1002 lo hi t9 t10 t11) := by
  unfold F213_1002
  repeat' first | with_reducible exact Le.rfl _ | with_reducible exact Ms_l1In _ _ _ _ | with_reducible exact h1002 _ _ _ _ _ | with_reducible refine Le.cond ?_ ?_ | with_reducible refine Le.bind ?_ fun _ => ?_
theorem Mls_l1All : ∀ k : Nat, ∀ (lo : Int) (hi : Int) (t9 : List Int) (t10 : Int) (t11 : Int), Le ((l213 k) lo hi t9 t10 t11) ((l213 (k + 1)) lo hi t9 t10 t11)
  | 0 => fun lo hi t9 t10 t11 => Le.no _
  | k + 1 => by
    have h := Mls_l1All k
    exact fun lo hi t9 t10 t11 => MFs_l1All_1002 k h lo hi t9 t10 t11
noncomputable def s_l1All_1002 (lo : Int) (hi : Int) (t9 : List Int) (t10 : Int) (t11 : Int) : Option (Bool) := lim fun k => (l213 k) lo hi t9 t10 t11
theorem Rls_l1All_1002 (lo : Int) (hi : Int) (t9 : List Int) (t10 : Int) (t11 : Int) : Lim (fun k => (l213 k) lo hi t9 t10 t11) (s_l1All_1002 lo hi t9 t10 t11) := Lim.of_mono fun k => Mls_l1All k lo hi t9 t10 t11
theorem Es_l1All_1002 (lo : Int) (hi : Int) (t9 : List Int) (t10 : Int) (t11 : Int) : s_l1All_1002 lo hi t9 t10 t11 =
  bif decide (t11 < t10) then
    bif boundA t11 (List.length t9) then
      (s_l1In (List.getD t9 (Int.toNat t11) 0) lo hi).bind fun r0 =>
      bif !r0 then
        some false
      else
        s_l1All_1002 lo hi t9 t10 (IntKind.wrap IntKind.i64 (t11 + 1))
    else
      none
  else
    some true := by
  refine Lim.uniq (Lim.shift (Rls_l1All_1002 lo hi t9 t10 t11)) (?_ : Lim (fun k => F213_1002 k ((l213 k)) lo hi t9 t10 t11) _)
  unfold F213_1002
  repeat' first | with_reducible exact Lim.ret _ | with_reducible exact Rs_l1In _ _ _ | with_reducible exact Rls_l1All_1002 _ _ _ _ _ | with_reducible refine Lim.cond ?_ ?_ | with_reducible refine Lim.bind ?_ fun _ => ?_
noncomputable def s_l1All (l : List (Int)) (lo : Int) (hi : Int) : Option (Bool) :=
  s_l1All_1002 lo hi l ((↑(List.length l) : Int)) (0)
theorem Ms_l1All (k : Nat) (l : List (Int)) (lo : Int) (hi : Int) : Le (f213 k l lo hi) (f213 (k + 1) l lo hi) := by
  have h := Mls_l1All k
  unfold f213 F213
  repeat' first | with_reducible exact Le.rfl _ | with_reducible exact h _ _ _ _ _ | with_reducible refine Le.cond ?_ ?_ | with_reducible refine Le.bind ?_ fun _ => ?_
theorem Rs_l1All (l : List (Int)) (lo : Int) (hi : Int) : Lim (fun k => f213 k l lo hi) (s_l1All l lo hi) := by
  unfold f213 F213 s_l1All
  repeat' first | with_reducible exact Lim.ret _ | with_reducible exact Rls_l1All_1002 _ _ _ _ _ | with_reducible refine Lim.cond ?_ ?_ | with_reducible refine Lim.bind ?_ fun _ => ?_

-- spec.sgGood
noncomputable def s_sgGood (p : List (Int)) : Option (Bool) :=
  bif decide (9 < (↑(List.length p) : Int)) then
    some false
  else
    (s_l1All p (-1000000) 1000000).bind fun r0 =>
    bif !r0 then
      some false
    else
      bif decide ((↑(List.length p) : Int) = 0) then
        some true
      else
        bif boundA (IntKind.wrap IntKind.i64 ((↑(List.length p) : Int) - 1)) (List.length p) then
          some (!decide (List.getD p (Int.toNat (IntKind.wrap IntKind.i64 ((↑(List.length p) : Int) - 1))) 0 = 0))
        else
          none
theorem Ms_sgGood (k : Nat) (p : List (Int)) : Le (f212 k p) (f212 (k + 1) p) := by
  unfold f212
  repeat' first | with_reducible exact Le.rfl _ | with_reducible exact Ms_l1All _ _ _ _ | with_reducible refine Le.cond ?_ ?_ | with_reducible refine Le.bind ?_ fun _ => ?_
theorem Rs_sgGood (p : List (Int)) : Lim (fun k => f212 k p) (s_sgGood p) := by
  unfold f212 s_sgGood
  repeat' first | with_reducible exact Lim.ret _ | with_reducible exact Rs_l1All _ _ _ | with_reducible refine Lim.cond ?_ ?_ | with_reducible refine Lim.bind ?_ fun _ => ?_

-- spec.deGood
noncomputable def s_deGood (p : List (Int)) : Option (Bool) :=
  (s_sgGood p).bind fun r0 =>
  bif r0 then
    (s_l1In (↑(List.length p) : Int) 1 6).bind fun r1 =>
    bif r1 then
      (s_l1All p (-1000) 1000).bind fun r2 =>
      some r2
    else
      some false
  else
    some false
theorem Ms_deGood (k : Nat) (p : List (Int)) : Le (f147 k p) (f147 (k + 1) p) := by
  unfold f147
  repeat' first | with_reducible exact Le.rfl _ | with_reducible exact Ms_l1In _ _ _ _ | with_reducible exact Ms_sgGood _ _ | with_reducible exact Ms_l1All _ _ _ _ | with_reducible refine Le.cond ?_ ?_ | with_reducible refine Le.bind ?_ fun _ => ?_
theorem Rs_deGood (p : List (Int)) : Lim (fun k => f147 k p) (s_deGood p) := by
  unfold f147 s_deGood
  repeat' first | with_reducible exact Lim.ret _ | with_reducible exact Rs_l1In _ _ _ | with_reducible exact Rs_sgGood _ | with_reducible exact Rs_l1All _ _ _ | with_reducible refine Lim.cond ?_ ?_ | with_reducible refine Lim.bind ?_ fun _ => ?_

-- spec.faAsked
noncomputable def s_faAsked (p : List (Int)) (q : List (Int)) (fine : Int) : Option (Bool) :=
  (s_deGood p).bind fun r0 =>
  bif r0 then
    (s_deGood q).bind fun r1 =>
    bif r1 then
      (s_l1In fine 0 4).bind fun r2 =>
      some r2
    else
      some false
  else
    some false
theorem Ms_faAsked (k : Nat) (p : List (Int)) (q : List (Int)) (fine : Int) : Le (f89 k p q fine) (f89 (k + 1) p q fine) := by
  unfold f89
  repeat' first | with_reducible exact Le.rfl _ | with_reducible exact Ms_l1In _ _ _ _ | with_reducible exact Ms_deGood _ _ | with_reducible refine Le.cond ?_ ?_ | with_reducible refine Le.bind ?_ fun _ => ?_
theorem Rs_faAsked (p : List (Int)) (q : List (Int)) (fine : Int) : Lim (fun k => f89 k p q fine) (s_faAsked p q fine) := by
  unfold f89 s_faAsked
  repeat' first | with_reducible exact Lim.ret _ | with_reducible exact Rs_l1In _ _ _ | with_reducible exact Rs_deGood _ | with_reducible refine Lim.cond ?_ ?_ | with_reducible refine Lim.bind ?_ fun _ => ?_

-- spec.dyPower
noncomputable def s_dyPower (k_ : Int) : Option (Int) :=
  bif !decide (IntKind.wrap IntKind.u64 k_ < 0) then
    some (IntKind.wrap IntKind.i64 (1 * 2 ^ min (Int.toNat (IntKind.wrap IntKind.u64 k_)) (IntKind.bits IntKind.i64)))
  else
    none
theorem Ms_dyPower (k : Nat) (k_ : Int) : Le (f90 k k_) (f90 (k + 1) k_) := by
  unfold f90
  repeat' first | with_reducible exact Le.rfl _ | with_reducible refine Le.cond ?_ ?_ | with_reducible refine Le.bind ?_ fun _ => ?_
theorem Rs_dyPower (k_ : Int) : Lim (fun k => f90 k k_) (s_dyPower k_) := by
  unfold f90 s_dyPower
  repeat' first | with_reducible exact Lim.ret _ | with_reducible refine Lim.cond ?_ ?_ | with_reducible refine Lim.bind ?_ fun _ => ?_

-- spec.faMoment
noncomputable def s_faMoment (p : List (Int)) (q : List (Int)) (i : Int) (fine : Int) : Option (Bool) :=
  (s_faAsked p q fine).bind fun r0 =>
  bif r0 then
    (s_dyPower fine).bind fun r1 =>
    (s_l1In i 0 r1).bind fun r2 =>
    some r2
  else
    some false
theorem Ms_faMoment (k : Nat) (p : List (Int)) (q : List (Int)) (i : Int) (fine : Int) : Le (f67 k p q i fine) (f67 (k + 1) p q i fine) := by
  unfold f67
  repeat' first | with_reducible exact Le.rfl _ | with_reducible exact Ms_l1In _ _ _ _ | with_reducible exact Ms_faAsked _ _ _ _ | with_reducible exact Ms_dyPower _ _ | with_reducible refine Le.cond ?_ ?_ | with_reducible refine Le.bind ?_ fun _ => ?_
theorem Rs_faMoment (p : List (Int)) (q : List (Int)) (i : Int) (fine : Int) : Lim (fun k => f67 k p q i fine) (s_faMoment p q i fine) := by
  unfold f67 s_faMoment
  repeat' first | with_reducible exact Lim.ret _ | with_reducible exact Rs_l1In _ _ _ | with_reducible exact Rs_faAsked _ _ _ | with_reducible exact Rs_dyPower _ | with_reducible refine Lim.cond ?_ ?_ | with_reducible refine Lim.bind ?_ fun _ => ?_

-- spec.dyAt
theorem MFs_dyAt_1004 (k : Nat) {r1004 q1004 : Int → Int → Int → Int → Option (Int × Bool)} (h1004 : ∀ (k_ : Int) (as_0 : Int) (as_1 : Int) (i : Int), Le (r1004 k_ as_0 as_1 i) (q1004 k_ as_0 as_1 i)) (k_ : Int) (as_0 : Int) (as_1 : Int) (i : Int) : Le (F171_1004 k r1004 k_ as_0 as_1 i) (F171_1004 (k + 1) q1004 k_ as_0 as_1 i) := by
  unfold F171_1004
  repeat' first | with_reducible exact Le.rfl _ | with_reducible exact Ms_l1In _ _ _ _ | with_reducible exact h1004 _ _ _ _ | with_reducible refine Le.cond ?_ ?_ | with_reducible refine Le.bind ?_ fun _ => ?_
theorem Mls_dyAt : ∀ k : Nat, ∀ (k_ : Int) (as_0 : Int) (as_1 : Int) (i : Int), Le ((l171 k) k_ as_0 as_1 i) ((l171 (k + 1)) k_ as_0 as_1 i)
  | 0 => fun k_ as_0 as_1 i => Le.no _
  | k + 1 => by
    have h := Mls_dyAt k
    exact fun k_ as_0 as_1 i => MFs_dyAt_1004 k h k_ as_0 as_1 i
noncomputable def s_dyAt_1004 (k_ : Int) (as_0 : Int) (as_1 : Int) (i : Int) : Option (Int × Bool) := lim fun k => (l171 k) k_ as_0 as_1 i
theorem Rls_dyAt_1004 (k_ : Int) (as_0 : Int) (as_1 : Int) (i : Int) : Lim (fun k => (l171 k) k_ as_0 as_1 i) (s_dyAt_1004 k_ as_0 as_1 i) := Lim.of_mono fun k => Mls_dyAt k k_ as_0 as_1 i
theorem Es_dyAt_1004 (k_ : Int) (as_0 : Int) (as_1 : Int) (i : Int) : s_dyAt_1004 k_ as_0 as_1 i =
  bif decide (i < k_) then
    (s_l1In as_0 (IntKind.wrap IntKind.i64 (0 - IntKind.wrap IntKind.i64 (1 * 2 ^ min (Int.toNat (IntKind.wrap IntKind.u64 60)) (IntKind.bits IntKind.i64)))) (IntKind.wrap IntKind.i64 (1 * 2 ^ min (Int.toNat (IntKind.wrap IntKind.u64 60)) (IntKind.bits IntKind.i64)))).bind fun r0 =>
    bif !r0 then
      some ((0, false))
    else
      s_dyAt_1004 k_ (IntKind.wrap IntKind.i64 (as_0 * 2)) as_1 (IntKind.wrap IntKind.i64 (i + 1))
  else
    some ((as_0, true)) := by
  refine Lim.uniq (Lim.shift (Rls_dyAt_1004 k_ as_0 as_1 i)) (?_ : Lim (fun k => F171_1004 k ((l171 k)) k_ as_0 as_1 i) _)
  unfold F171_1004
  repeat' first | with_reducible exact Lim.ret _ | with_reducible exact Rs_l1In _ _ _ | with_reducible exact Rls_dyAt_1004 _ _ _ _ | with_reducible refine Lim.cond ?_ ?_ | with_reducible refine Lim.bind ?_ fun _ => ?_
noncomputable def s_dyAt (a_N : Int) (a_K : Int) (k_ : Int) : Option (Int × Bool) :=
  bif decide (a_N = 0) then
    some ((0, true))
  else
    s_dyAt_1004 k_ a_N a_K a_K
theorem Ms_dyAt (k : Nat) (a_N : Int) (a_K : Int) (k_ : Int) : Le (f171 k a_N a_K k_) (f171 (k + 1) a_N a_K k_) := by
  have h := Mls_dyAt k
  unfold f171 F171
  repeat' first | with_reducible exact Le.rfl _ | with_reducible exact h _ _ _ _ | with_reducible refine Le.cond ?_ ?_ | with_reducible refine Le.bind ?_ fun _ => ?_
theorem Rs_dyAt (a_N : Int) (a_K : Int) (k_ : Int) : Lim (fun k => f171 k a_N a_K k_) (s_dyAt a_N a_K k_) := by
  unfold f171 F171 s_dyAt
  repeat' first | with_reducible exact Lim.ret _ | with_reducible exact Rls_dyAt_1004 _ _ _ _ | with_reducible refine Lim.cond ?_ ?_ | with_reducible refine Lim.bind ?_ fun _ => ?_

-- spec.dyDown
noncomputable def s_dyDown (a : Int) (b : Int) : Option (Int) :=
  bif !decide (b = 0) then
    bif !decide (b = 0) then
      bif decide (Int.tmod a b < 0) then
        some (IntKind.wrap IntKind.i64 (IntKind.wrap IntKind.i64 (Int.tdiv a b) - 1))
      else
        some (IntKind.wrap IntKind.i64 (Int.tdiv a b))
    else
      none
  else
    none
theorem Ms_dyDown (k : Nat) (a : Int) (b : Int) : Le (f237 k a b) (f237 (k + 1) a b) := by
  unfold f237
  repeat' first | with_reducible exact Le.rfl _ | with_reducible refine Le.cond ?_ ?_ | with_reducible refine Le.bind ?_ fun _ => ?_
theorem Rs_dyDown (a : Int) (b : Int) : Lim (fun k => f237 k a b) (s_dyDown a b) := by
  unfold f237 s_dyDown
  repeat' first | with_reducible exact Lim.ret _ | with_reducible refine Lim.cond ?_ ?_ | with_reducible refine Lim.bind ?_ fun _ => ?_

-- spec.dyFloor
noncomputable def s_dyFloor (a_N : Int) (a_K : Int) : Option (Int) :=
  (s_dyPower a_K).bind fun r0 =>
  (s_dyDown a_N r0).bind fun r1 =>
  some r1
theorem Ms_dyFloor (k : Nat) (a_N : Int) (a_K : Int) : Le (f184 k a_N a_K) (f184 (k + 1) a_N a_K) := by
  unfold f184
  repeat' first | with_reducible exact Le.rfl _ | with_reducible exact Ms_dyDown _ _ _ | with_reducible exact Ms_dyPower _ _ | with_reducible refine Le.cond ?_ ?_ | with_reducible refine Le.bind ?_ fun _ => ?_
theorem Rs_dyFloor (a_N : Int) (a_K : Int) : Lim (fun k => f184 k a_N a_K) (s_dyFloor a_N a_K) := by
  unfold f184 s_dyFloor
  repeat' first | with_reducible exact Lim.ret _ | with_reducible exact Rs_dyDown _ _ | with_reducible exact Rs_dyPower _ | with_reducible refine Lim.cond ?_ ?_ | with_reducible refine Lim.bind ?_ fun _ => ?_

-- spec.l1Sign
noncomputable def s_l1Sign (n : Int) : Option (Int) :=
  bif decide (0 < n) then
    some (1)
  else
    bif decide (n < 0) then
      some (-1)
    else
      some (0)
theorem Ms_l1Sign (k : Nat) (n : Int) : Le (f185 k n) (f185 (k + 1) n) := by
  unfold f185
  repeat' first | with_reducible exact Le.rfl _ | with_reducible refine Le.cond ?_ ?_ | with_reducible refine Le.bind ?_ fun _ => ?_
theorem Rs_l1Sign (n : Int) : Lim (fun k => f185 k n) (s_l1Sign n) := by
  unfold f185 s_l1Sign
  repeat' first | with_reducible exact Lim.ret _ | with_reducible refine Lim.cond ?_ ?_ | with_reducible refine Lim.bind ?_ fun _ => ?_

-- spec.dyCmp
noncomputable def s_dyCmp (a_N : Int) (a_K : Int) (b_N : Int) (b_K : Int) : Option (Int) :=
  (s_dyFloor a_N a_K).bind fun r0 =>
  (s_dyFloor b_N b_K).bind fun r1 =>
  bif !decide (r0 = r1) then
    (s_l1Sign (IntKind.wrap IntKind.i64 (r0 - r1))).bind fun r2 =>
    some r2
  else
    (s_dyPower a_K).bind fun r3 =>
    (s_dyAt (IntKind.wrap IntKind.i64 (a_N - IntKind.wrap IntKind.i64 (r0 * r3))) a_K 24).bind fun r4 =>
    (s_dyPower b_K).bind fun r5 =>
    (s_dyAt (IntKind.wrap IntKind.i64 (b_N - IntKind.wrap IntKind.i64 (r1 * r5))) b_K 24).bind fun r6 =>
    (s_l1Sign (IntKind.wrap IntKind.i64 (r4.fst - r6.fst))).bind fun r7 =>
    some r7
theorem Ms_dyCmp (k : Nat) (a_N : Int) (a_K : Int) (b_N : Int) (b_K : Int) : Le (f123 k a_N a_K b_N b_K) (f123 (k + 1) a_N a_K b_N b_K) := by
  unfold f123
  repeat' first | with_reducible exact Le.rfl _ | with_reducible exact Ms_dyAt _ _ _ _ | with_reducible exact Ms_dyFloor _ _ _ | with_reducible exact Ms_l1Sign _ _ | with_reducible exact Ms_dyPower _ _ | with_reducible refine Le.cond ?_ ?_ | with_reducible refine Le.bind ?_ fun _ => ?_
theorem Rs_dyCmp (a_N : Int) (a_K : Int) (b_N : Int) (b_K : Int) : Lim (fun k => f123 k a_N a_K b_N b_K) (s_dyCmp a_N a_K b_N b_K) := by
  unfold f123 s_dyCmp
  repeat' first | with_reducible exact Lim.ret _ | with_reducible exact Rs_dyAt _ _ _ | with_reducible exact Rs_dyFloor _ _ | with_reducible exact Rs_l1Sign _ | with_reducible exact Rs_dyPower _ | with_reducible refine Lim.cond ?_ ?_ | with_reducible refine Lim.bind ?_ fun _ => ?_

-- spec.dyGood
noncomputable def s_dyGood (a_N : Int) (a_K : Int) : Option (Bool) :=
  (s_l1In a_K 0 24).bind fun r0 =>
  bif r0 then
    (s_l1In a_N (-1099511627776) 1099511627776).bind fun r1 =>
    bif r1 then
      bif decide (a_K = 0) then
        some true
      else
        some (!decide (Int.tmod a_N 2 = 0))
    else
      some false
  else
    some false
theorem Ms_dyGood (k : Nat) (a_N : Int) (a_K : Int) : Le (f183 k a_N a_K) (f183 (k + 1) a_N a_K) := by
  unfold f183
  repeat' first | with_reducible exact Le.rfl _ | with_reducible exact Ms_l1In _ _ _ _ | with_reducible refine Le.cond ?_ ?_ | with_reducible refine Le.bind ?_ fun _ => ?_
theorem Rs_dyGood (a_N : Int) (a_K : Int) : Lim (fun k => f183 k a_N a_K) (s_dyGood a_N a_K) := by
  unfold f183 s_dyGood
  repeat' first | with_reducible exact Lim.ret _ | with_reducible exact Rs_l1In _ _ _ | with_reducible refine Lim.cond ?_ ?_ | with_reducible refine Lim.bind ?_ fun _ => ?_

-- spec.ivGood
noncomputable def s_ivGood (i_Low_N : Int) (i_Low_K : Int) (i_High_N : Int) (i_High_K : Int) : Option (Bool) :=
  (s_dyGood i_Low_N i_Low_K).bind fun r0 =>
  bif r0 then
    (s_dyGood i_High_N i_High_K).bind fun r1 =>
    bif r1 then
      (s_dyCmp i_Low_N i_Low_K i_High_N i_High_K).bind fun r2 =>
      some (decide (r2 ≤ 0))
    else
      some false
  else
    some false
theorem Ms_ivGood (k : Nat) (i_Low_N : Int) (i_Low_K : Int) (i_High_N : Int) (i_High_K : Int) : Le (f122 k i_Low_N i_Low_K i_High_N i_High_K) (f122 (k + 1) i_Low_N i_Low_K i_High_N i_High_K) := by
  unfold f122
  repeat' first | with_reducible exact Le.rfl _ | with_reducible exact Ms_dyCmp _ _ _ _ _ | with_reducible exact Ms_dyGood _ _ _ | with_reducible refine Le.cond ?_ ?_ | with_reducible refine Le.bind ?_ fun _ => ?_
theorem Rs_ivGood (i_Low_N : Int) (i_Low_K : Int) (i_High_N : Int) (i_High_K : Int) : Lim (fun k => f122 k i_Low_N i_Low_K i_High_N i_High_K) (s_ivGood i_Low_N i_Low_K i_High_N i_High_K) := by
  unfold f122 s_ivGood
  repeat' first | with_reducible exact Lim.ret _ | with_reducible exact Rs_dyCmp _ _ _ _ | with_reducible exact Rs_dyGood _ _ | with_reducible refine Lim.cond ?_ ?_ | with_reducible refine Lim.bind ?_ fun _ => ?_

-- spec.dyInt
noncomputable def s_dyInt (n : Int) : Option (Int × Int) :=
  some ((n, 0))
theorem Ms_dyInt (k : Nat) (n : Int) : Le (f124 k n) (f124 (k + 1) n) := by
  unfold f124
  repeat' first | with_reducible exact Le.rfl _ | with_reducible refine Le.cond ?_ ?_ | with_reducible refine Le.bind ?_ fun _ => ?_
theorem Rs_dyInt (n : Int) : Lim (fun k => f124 k n) (s_dyInt n) := by
  unfold f124 s_dyInt
  repeat' first | with_reducible exact Lim.ret _ | with_reducible refine Lim.cond ?_ ?_ | with_reducible refine Lim.bind ?_ fun _ => ?_

-- spec.deFit
noncomputable def s_deFit (i_Low_N : Int) (i_Low_K : Int) (i_High_N : Int) (i_High_K : Int) : Option (Bool) :=
  (s_ivGood i_Low_N i_Low_K i_High_N i_High_K).bind fun r0 =>
  bif r0 then
    bif decide (i_Low_K ≤ 5) then
      bif decide (i_High_K ≤ 5) then
        (s_dyCmp i_Low_N i_Low_K i_High_N i_High_K).bind fun r1 =>
        bif decide (r1 < 0) then
          (s_dyCmp (-8) 0 i_Low_N i_Low_K).bind fun r2 =>
          bif decide (r2 ≤ 0) then
            (s_dyCmp i_High_N i_High_K 8 0).bind fun r3 =>
            some (decide (r3 ≤ 0))
          else
            some false
        else
          some false
      else
        some false
    else
      some false
  else
    some false
theorem Ms_deFit (k : Nat) (i_Low_N : Int) (i_Low_K : Int) (i_High_N : Int) (i_High_K : Int) : Le (f68 k i_Low_N i_Low_K i_High_N i_High_K) (f68 (k + 1) i_Low_N i_Low_K i_High_N i_High_K) := by
  unfold f68
  repeat' first | with_reducible exact Le.rfl _ | with_reducible exact Ms_ivGood _ _ _ _ _ | with_reducible exact Ms_dyCmp _ _ _ _ _ | with_reducible refine Le.cond ?_ ?_ | with_reducible refine Le.bind ?_ fun _ => ?_
theorem Rs_deFit (i_Low_N : Int) (i_Low_K : Int) (i_High_N : Int) (i_High_K : Int) : Lim (fun k => f68 k i_Low_N i_Low_K i_High_N i_High_K) (s_deFit i_Low_N i_Low_K i_High_N i_High_K) := by
  unfold f68 s_deFit
  repeat' first | with_reducible exact Lim.ret _ | with_reducible exact Rs_ivGood _ _ _ _ | with_reducible exact Rs_dyCmp _ _ _ _ | with_reducible refine Lim.cond ?_ ?_ | with_reducible refine Lim.bind ?_ fun _ => ?_

-- spec.faAt
theorem MFs_faAt_1003 (k : Nat) {r1003 q1003 : List Int → Int → Int → List Int → List Int → Int → Int → Option (List (Int))} (h1003 : ∀ (q : List Int) (i : Int) (fine : Int) (outs : List Int) (t15 : List Int) (t16 : Int) (t17 : Int), Le (r1003 q i fine outs t15 t16 t17) (q1003 q i fine outs t15 t16 t17)) {r1008 q1008 : Int → List Int → List Int → Int → Int → Option (List (Int))} (h1008 : ∀ (i : Int) (outs : List Int) (t33 : List Int) (t34 : Int) (t35 : Int), Le (r1008 i outs t33 t34 t35) (q1008 i outs t33 t34 t35)) (q : List Int) (i : Int) (fine : Int) (outs : List Int) (t15 : List Int) (t16 : Int) (t17 : Int) : Le (F93_1003 k r1003 r1008 q i fine outs t15 t16 t17) (F93_1003 (k + 1) q1003 q1008 q i fine outs t15 t16 t17) := by
  unfold F93_1003
  repeat' first | with_reducible exact Le.rfl _ | with_reducible exact Ms_dyPower _ _ | with_reducible exact h1003 _ _ _ _ _ _ _ | with_reducible exact h1008 _ _ _ _ _ | with_reducible refine Le.cond ?_ ?_ | with_reducible refine Le.bind ?_ fun _ => ?_
theorem MFs_faAt_1008 (k : Nat) {r1003 q1003 : List Int → Int → Int → List Int → List Int → Int → Int → Option (List (Int))} (h1003 : ∀ (q : List Int) (i : Int) (fine : Int) (outs : List Int) (t15 : List Int) (t16 : Int) (t17 : Int), Le (r1003 q i fine outs t15 t16 t17) (q1003 q i fine outs t15 t16 t17)) {r1008 q1008 : Int → List Int → List Int → Int → Int → Option (List (Int))} (h1008 : ∀ (i : Int) (outs : List Int) (t33 : List Int) (t34 : Int) (t35 : Int), Le (r1008 i outs t33 t34 t35) (q1008 i outs t33 t34 t35)) (i : Int) (outs : List Int) (t33 : List Int) (t34 : Int) (t35 : Int) : Le (F93_1008 k r1003 r1008 i outs t33 t34 t35) (F93_1008 (k + 1) q1003 q1008 i outs t33 t34 t35) := by
  unfold F93_1008
  repeat' first | with_reducible exact Le.rfl _ | with_reducible exact h1003 _ _ _ _ _ _ _ | with_reducible exact h1008 _ _ _ _ _ | with_reducible refine Le.cond ?_ ?_ | with_reducible refine Le.bind ?_ fun _ => ?_
theorem Mls_faAt : ∀ k : Nat, (∀ (q : List Int) (i : Int) (fine : Int) (outs : List Int) (t15 : List Int) (t16 : Int) (t17 : Int), Le ((l93 k).1 q i fine outs t15 t16 t17) ((l93 (k + 1)).1 q i fine outs t15 t16 t17)) ∧ (∀ (i : Int) (outs : List Int) (t33 : List Int) (t34 : Int) (t35 : Int), Le ((l93 k).2 i outs t33 t34 t35) ((l93 (k + 1)).2 i outs t33 t34 t35))
  | 0 => ⟨fun q i fine outs t15 t16 t17 => Le.no _, fun i outs t33 t34 t35 => Le.no _⟩
  | k + 1 => by
    have h := Mls_faAt k
    exact ⟨fun q i fine outs t15 t16 t17 => MFs_faAt_1003 k h.1 h.2 q i fine outs t15 t16 t17, fun i outs t33 t34 t35 => MFs_faAt_1008 k h.1 h.2 i outs t33 t34 t35⟩
noncomputable def s_faAt_1003 (q : List Int) (i : Int) (fine : Int) (outs : List Int) (t15 : List Int) (t16 : Int) (t17 : Int) : Option (List (Int)) := lim fun k => (l93 k).1 q i fine outs t15 t16 t17
theorem Rls_faAt_1003 (q : List Int) (i : Int) (fine : Int) (outs : List Int) (t15 : List Int) (t16 : Int) (t17 : Int) : Lim (fun k => (l93 k).1 q i fine outs t15 t16 t17) (s_faAt_1003 q i fine outs t15 t16 t17) := Lim.of_mono fun k => (Mls_faAt k).1 q i fine outs t15 t16 t17
noncomputable def s_faAt_1008 (i : Int) (outs : List Int) (t33 : List Int) (t34 : Int) (t35 : Int) : Option (List (Int)) := lim fun k => (l93 k).2 i outs t33 t34 t35
theorem Rls_faAt_1008 (i : Int) (outs : List Int) (t33 : List Int) (t34 : Int) (t35 : Int) : Lim (fun k => (l93 k).2 i outs t33 t34 t35) (s_faAt_1008 i outs t33 t34 t35) := Lim.of_mono fun k => (Mls_faAt k).2 i outs t33 t34 t35
theorem Es_faAt_1003 (q : List Int) (i : Int) (fine : Int) (outs : List Int) (t15 : List Int) (t16 : Int) (t17 : Int) : s_faAt_1003 q i fine outs t15 t16 t17 =
  bif decide (t17 < t16) then
    bif boundA t17 (List.length t15) then
      bif boundA t17 (List.length outs) then
        bif Nat.blt (Int.toNat t17) (List.length outs) then
          (s_dyPower fine).bind fun r0 =>
          bif boundA t17 (List.length outs) then
            bif Nat.blt (Int.toNat t17) (List.length outs) then
              s_faAt_1003 q i fine (List.set outs (Int.toNat t17) (IntKind.wrap IntKind.i64 (List.getD outs (Int.toNat t17) 0 + IntKind.wrap IntKind.i64 (List.getD t15 (Int.toNat t17) 0 * r0)))) t15 t16 (IntKind.wrap IntKind.i64 (t17 + 1))
            else
              none
          else
            none
        else
          none
      else
        none
    else
      none
  else
    s_faAt_1008 i outs q ((↑(List.length q) : Int)) (0) := by
  refine Lim.uniq (Lim.shift (Rls_faAt_1003 q i fine outs t15 t16 t17)) (?_ : Lim (fun k => F93_1003 k ((l93 k).1) ((l93 k).2) q i fine outs t15 t16 t17) _)
  unfold F93_1003
  repeat' first | with_reducible exact Lim.ret _ | with_reducible exact Rs_dyPower _ | with_reducible exact Rls_faAt_1003 _ _ _ _ _ _ _ | with_reducible exact Rls_faAt_1008 _ _ _ _ _ | with_reducible refine Lim.cond ?_ ?_ | with_reducible refine Lim.bind ?_ fun _ => ?_
theorem Es_faAt_1008 (i : Int) (outs : List Int) (t33 : List Int) (t34 : Int) (t35 : Int) : s_faAt_1008 i outs t33 t34 t35 =
  bif decide (t35 < t34) then
    bif boundA t35 (List.length t33) then
      bif boundA t35 (List.length outs) then
        bif Nat.blt (Int.toNat t35) (List.length outs) then
          bif boundA t35 (List.length outs) then
            bif Nat.blt (Int.toNat t35) (List.length outs) then
              s_faAt_1008 i (List.set outs (Int.toNat t35) (IntKind.wrap IntKind.i64 (List.getD outs (Int.toNat t35) 0 + IntKind.wrap IntKind.i64 (List.getD t33 (Int.toNat t35) 0 * i)))) t33 t34 (IntKind.wrap IntKind.i64 (t35 + 1))
            else
              none
          else
            none
        else
          none
      else
        none
    else
      none
  else
    some outs := by
  refine Lim.uniq (Lim.shift (Rls_faAt_1008 i outs t33 t34 t35)) (?_ : Lim (fun k => F93_1008 k ((l93 k).1) ((l93 k).2) i outs t33 t34 t35) _)
  unfold F93_1008
  repeat' first | with_reducible exact Lim.ret _ | with_reducible exact Rls_faAt_1003 _ _ _ _ _ _ _ | with_reducible exact Rls_faAt_1008 _ _ _ _ _ | with_reducible refine Lim.cond ?_ ?_ | with_reducible refine Lim.bind ?_ fun _ => ?_
noncomputable def s_faAt (p : List (Int)) (q : List (Int)) (i : Int) (fine : Int) : Option (List (Int)) :=
  s_faAt_1003 q i fine (List.replicate (Int.toNat 6) (dflt (Ty.int IntKind.i64))) p ((↑(List.length p) : Int)) (0)
theorem Ms_faAt (k : Nat) (p : List (Int)) (q : List (Int)) (i : Int) (fine : Int) : Le (f93 k p q i fine) (f93 (k + 1) p q i fine) := by
  have h := Mls_faAt k
  unfold f93 F93
  repeat' first | with_reducible exact Le.rfl _ | with_reducible exact h.1 _ _ _ _ _ _ _ | with_reducible exact h.2 _ _ _ _ _ | with_reducible refine Le.cond ?_ ?_ | with_reducible refine Le.bind ?_ fun _ => ?_
theorem Rs_faAt (p : List (Int)) (q : List (Int)) (i : Int) (fine : Int) : Lim (fun k => f93 k p q i fine) (s_faAt p q i fine) := by
  unfold f93 F93 s_faAt
  repeat' first | with_reducible exact Lim.ret _ | with_reducible exact Rls_faAt_1003 _ _ _ _ _ _ _ | with_reducible exact Rls_faAt_1008 _ _ _ _ _ | with_reducible refine Lim.cond ?_ ?_ | with_reducible refine Lim.bind ?_ fun _ => ?_

-- spec.sgSign
theorem MFs_sgSign_1003 (k : Nat) {r1003 q1003 : Int → Int → Int → Int → List Int → Int → Int → Option (Int)} (h1003 : ∀ (n : Int) (k_ : Int) (sum : Int) (up : Int) (t11 : List Int) (t12 : Int) (t13 : Int), Le (r1003 n k_ sum up t11 t12 t13) (q1003 n k_ sum up t11 t12 t13)) (n : Int) (k_ : Int) (sum : Int) (up : Int) (t11 : List Int) (t12 : Int) (t13 : Int) : Le (F186_1003 k r1003 n k_ sum up t11 t12 t13) (F186_1003 (k + 1) q1003 n k_ sum up t11 t12 t13) := by
  unfold F186_1003
  repeat' first | with_reducible exact Le.rfl _ | with_reducible exact Ms_l1Sign _ _ | with_reducible exact Ms_dyPower _ _ | with_reducible exact h1003 _ _ _ _ _ _ _ | with_reducible refine Le.cond ?_ ?_ | with_reducible refine Le.bind ?_ fun _ => ?_
theorem Mls_sgSign : ∀ k : Nat, ∀ (n : Int) (k_ : Int) (sum : Int) (up : Int) (t11 : List Int) (t12 : Int) (t13 : Int), Le ((l186 k) n k_ sum up t11 t12 t13) ((l186 (k + 1)) n k_ sum up t11 t12 t13)
  | 0 => fun n k_ sum up t11 t12 t13 => Le.no _
  | k + 1 => by
    have h := Mls_sgSign k
    exact fun n k_ sum up t11 t12 t13 => MFs_sgSign_1003 k h n k_ sum up t11 t12 t13
noncomputable def s_sgSign_1003 (n : Int) (k_ : Int) (sum : Int) (up : Int) (t11 : List Int) (t12 : Int) (t13 : Int) : Option (Int) := lim fun k => (l186 k) n k_ sum up t11 t12 t13
theorem Rls_sgSign_1003 (n : Int) (k_ : Int) (sum : Int) (up : Int) (t11 : List Int) (t12 : Int) (t13 : Int) : Lim (fun k => (l186 k) n k_ sum up t11 t12 t13) (s_sgSign_1003 n k_ sum up t11 t12 t13) := Lim.of_mono fun k => Mls_sgSign k n k_ sum up t11 t12 t13
theorem Es_sgSign_1003 (n : Int) (k_ : Int) (sum : Int) (up : Int) (t11 : List Int) (t12 : Int) (t13 : Int) : s_sgSign_1003 n k_ sum up t11 t12 t13 =
  bif decide (t13 < t12) then
    bif boundA t13 (List.length t11) then
      (s_dyPower k_).bind fun r0 =>
      s_sgSign_1003 n k_ (IntKind.wrap IntKind.i64 (IntKind.wrap IntKind.i64 (sum * r0) + IntKind.wrap IntKind.i64 (List.getD t11 (Int.toNat t13) 0 * up))) (IntKind.wrap IntKind.i64 (up * n)) t11 t12 (IntKind.wrap IntKind.i64 (t13 + 1))
    else
      none
  else
    (s_l1Sign sum).bind fun r1 =>
    some r1 := by
  refine Lim.uniq (Lim.shift (Rls_sgSign_1003 n k_ sum up t11 t12 t13)) (?_ : Lim (fun k => F186_1003 k ((l186 k)) n k_ sum up t11 t12 t13) _)
  unfold F186_1003
  repeat' first | with_reducible exact Lim.ret _ | with_reducible exact Rs_l1Sign _ | with_reducible exact Rs_dyPower _ | with_reducible exact Rls_sgSign_1003 _ _ _ _ _ _ _ | with_reducible refine Lim.cond ?_ ?_ | with_reducible refine Lim.bind ?_ fun _ => ?_
noncomputable def s_sgSign (p : List (Int)) (n : Int) (k_ : Int) : Option (Int) :=
  s_sgSign_1003 n k_ (0) (1) p ((↑(List.length p) : Int)) (0)
theorem Ms_sgSign (k : Nat) (p : List (Int)) (n : Int) (k_ : Int) : Le (f186 k p n k_) (f186 (k + 1) p n k_) := by
  have h := Mls_sgSign k
  unfold f186 F186
  repeat' first | with_reducible exact Le.rfl _ | with_reducible exact h _ _ _ _ _ _ _ | with_reducible refine Le.cond ?_ ?_ | with_reducible refine Le.bind ?_ fun _ => ?_
theorem Rs_sgSign (p : List (Int)) (n : Int) (k_ : Int) : Lim (fun k => f186 k p n k_) (s_sgSign p n k_) := by
  unfold f186 F186 s_sgSign
  repeat' first | with_reducible exact Lim.ret _ | with_reducible exact Rls_sgSign_1003 _ _ _ _ _ _ _ | with_reducible refine Lim.cond ?_ ?_ | with_reducible refine Lim.bind ?_ fun _ => ?_

-- spec.faSign
noncomputable def s_faSign (p : List (Int)) (q : List (Int)) (x_N : Int) (x_K : Int) (i : Int) (fine : Int) : Option (Int) :=
  (s_faAt p q i fine).bind fun r0 =>
  (s_sgSign r0 x_N x_K).bind fun r1 =>
  some r1
theorem Ms_faSign (k : Nat) (p : List (Int)) (q : List (Int)) (x_N : Int) (x_K : Int) (i : Int) (fine : Int) : Le (f125 k p q x_N x_K i fine) (f125 (k + 1) p q x_N x_K i fine) := by
  unfold f125
  repeat' first | with_reducible exact Le.rfl _ | with_reducible exact Ms_sgSign _ _ _ _ | with_reducible exact Ms_faAt _ _ _ _ _ | with_reducible refine Le.cond ?_ ?_ | with_reducible refine Le.bind ?_ fun _ => ?_
theorem Rs_faSign (p : List (Int)) (q : List (Int)) (x_N : Int) (x_K : Int) (i : Int) (fine : Int) : Lim (fun k => f125 k p q x_N x_K i fine) (s_faSign p q x_N x_K i fine) := by
  unfold f125 s_faSign
  repeat' first | with_reducible exact Lim.ret _ | with_reducible exact Rs_sgSign _ _ _ | with_reducible exact Rs_faAt _ _ _ _ | with_reducible refine Lim.cond ?_ ?_ | with_reducible refine Lim.bind ?_ fun _ => ?_

-- spec.faCross
noncomputable def s_faCross (p : List (Int)) (q : List (Int)) (x_Low_N : Int) (x_Low_K : Int) (x_High_N : Int) (x_High_K : Int) (i : Int) (fine : Int) : Option (Bool) :=
  (s_faSign p q x_Low_N x_Low_K i fine).bind fun r0 =>
  (s_faSign p q x_High_N x_High_K i fine).bind fun r1 =>
  some (decide (IntKind.wrap IntKind.i64 (r0 * r1) < 0))
theorem Ms_faCross (k : Nat) (p : List (Int)) (q : List (Int)) (x_Low_N : Int) (x_Low_K : Int) (x_High_N : Int) (x_High_K : Int) (i : Int) (fine : Int) : Le (f69 k p q x_Low_N x_Low_K x_High_N x_High_K i fine) (f69 (k + 1) p q x_Low_N x_Low_K x_High_N x_High_K i fine) := by
  unfold f69
  repeat' first | with_reducible exact Le.rfl _ | with_reducible exact Ms_faSign _ _ _ _ _ _ _ | with_reducible refine Le.cond ?_ ?_ | with_reducible refine Le.bind ?_ fun _ => ?_
theorem Rs_faCross (p : List (Int)) (q : List (Int)) (x_Low_N : Int) (x_Low_K : Int) (x_High_N : Int) (x_High_K : Int) (i : Int) (fine : Int) : Lim (fun k => f69 k p q x_Low_N x_Low_K x_High_N x_High_K i fine) (s_faCross p q x_Low_N x_Low_K x_High_N x_High_K i fine) := by
  unfold f69 s_faCross
  repeat' first | with_reducible exact Lim.ret _ | with_reducible exact Rs_faSign _ _ _ _ _ _ | with_reducible refine Lim.cond ?_ ?_ | with_reducible refine Lim.bind ?_ fun _ => ?_

-- spec.l1Most
noncomputable def s_l1Most (a : Int) (b : Int) : Option (Int) :=
  bif decide (b < a) then
    some a
  else
    some b
theorem Ms_l1Most (k : Nat) (a : Int) (b : Int) : Le (f165 k a b) (f165 (k + 1) a b) := by
  unfold f165
  repeat' first | with_reducible exact Le.rfl _ | with_reducible refine Le.cond ?_ ?_ | with_reducible refine Le.bind ?_ fun _ => ?_
theorem Rs_l1Most (a : Int) (b : Int) : Lim (fun k => f165 k a b) (s_l1Most a b) := by
  unfold f165 s_l1Most
  repeat' first | with_reducible exact Lim.ret _ | with_reducible refine Lim.cond ?_ ?_ | with_reducible refine Lim.bind ?_ fun _ => ?_

-- spec.dyMake
theorem MFs_dyMake_1003 (k : Nat) {r1003 q1003 : Int → Int → Int → Int → Option ((Int × Int) × Bool)} (h1003 : ∀ (n : Int) (k_ : Int) (t4s_0 : Int) (t4s_1 : Int), Le (r1003 n k_ t4s_0 t4s_1) (q1003 n k_ t4s_0 t4s_1)) (n : Int) (k_ : Int) (t4s_0 : Int) (t4s_1 : Int) : Le (F187_1003 k r1003 n k_ t4s_0 t4s_1) (F187_1003 (k + 1) q1003 n k_ t4s_0 t4s_1) := by
  unfold F187_1003
  repeat' first | with_reducible exact Le.rfl _ | with_reducible exact Ms_dyGood _ _ _ | with_reducible exact h1003 _ _ _ _ | with_reducible refine Le.cond ?_ ?_ | with_reducible refine Le.bind ?_ fun _ => ?_
theorem Mls_dyMake : ∀ k : Nat, ∀ (n : Int) (k_ : Int) (t4s_0 : Int) (t4s_1 : Int), Le ((l187 k) n k_ t4s_0 t4s_1) ((l187 (k + 1)) n k_ t4s_0 t4s_1)
  | 0 => fun n k_ t4s_0 t4s_1 => Le.no _
  | k + 1 => by
    have h := Mls_dyMake k
    exact fun n k_ t4s_0 t4s_1 => MFs_dyMake_1003 k h n k_ t4s_0 t4s_1
noncomputable def s_dyMake_1003 (n : Int) (k_ : Int) (t4s_0 : Int) (t4s_1 : Int) : Option ((Int × Int) × Bool) := lim fun k => (l187 k) n k_ t4s_0 t4s_1
theorem Rls_dyMake_1003 (n : Int) (k_ : Int) (t4s_0 : Int) (t4s_1 : Int) : Lim (fun k => (l187 k) n k_ t4s_0 t4s_1) (s_dyMake_1003 n k_ t4s_0 t4s_1) := Lim.of_mono fun k => Mls_dyMake k n k_ t4s_0 t4s_1
theorem Es_dyMake_1003 (n : Int) (k_ : Int) (t4s_0 : Int) (t4s_1 : Int) : s_dyMake_1003 n k_ t4s_0 t4s_1 =
  bif decide (0 < k_) then
    bif decide (Int.tmod n 2 = 0) then
      s_dyMake_1003 (IntKind.wrap IntKind.i64 (Int.tdiv n 2)) (IntKind.wrap IntKind.i64 (k_ - 1)) t4s_0 t4s_1
    else
      (s_dyGood n k_).bind fun r0 =>
      bif !r0 then
        some (((0, 0), false))
      else
        some (((n, k_), true))
  else
    (s_dyGood n k_).bind fun r1 =>
    bif !r1 then
      some (((0, 0), false))
    else
      some (((n, k_), true)) := by
  refine Lim.uniq (Lim.shift (Rls_dyMake_1003 n k_ t4s_0 t4s_1)) (?_ : Lim (fun k => F187_1003 k ((l187 k)) n k_ t4s_0 t4s_1) _)
  unfold F187_1003
  repeat' first | with_reducible exact Lim.ret _ | with_reducible exact Rs_dyGood _ _ | with_reducible exact Rls_dyMake_1003 _ _ _ _ | with_reducible refine Lim.cond ?_ ?_ | with_reducible refine Lim.bind ?_ fun _ => ?_
noncomputable def s_dyMake (n : Int) (k_ : Int) : Option ((Int × Int) × Bool) :=
  bif decide (n = 0) then
    bif decide (0 < k_) then
      s_dyMake_1003 n (0) (0) (0)
    else
      s_dyMake_1003 n k_ (0) (0)
  else
    s_dyMake_1003 n k_ (0) (0)
theorem Ms_dyMake (k : Nat) (n : Int) (k_ : Int) : Le (f187 k n k_) (f187 (k + 1) n k_) := by
  have h := Mls_dyMake k
  unfold f187 F187
  repeat' first | with_reducible exact Le.rfl _ | with_reducible exact h _ _ _ _ | with_reducible refine Le.cond ?_ ?_ | with_reducible refine Le.bind ?_ fun _ => ?_
theorem Rs_dyMake (n : Int) (k_ : Int) : Lim (fun k => f187 k n k_) (s_dyMake n k_) := by
  unfold f187 F187 s_dyMake
  repeat' first | with_reducible exact Lim.ret _ | with_reducible exact Rls_dyMake_1003 _ _ _ _ | with_reducible refine Lim.cond ?_ ?_ | with_reducible refine Lim.bind ?_ fun _ => ?_

-- spec.dyHalf
noncomputable def s_dyHalf (a_N : Int) (a_K : Int) (b_N : Int) (b_K : Int) : Option ((Int × Int) × Bool) :=
  (s_l1Most a_K b_K).bind fun r0 =>
  (s_dyAt a_N a_K r0).bind fun r1 =>
  (s_dyAt b_N b_K r0).bind fun r2 =>
  bif !r1.snd then
    some (((0, 0), false))
  else
    bif !r2.snd then
      some (((0, 0), false))
    else
      (s_dyMake (IntKind.wrap IntKind.i64 (r1.fst + r2.fst)) (IntKind.wrap IntKind.i64 (r0 + 1))).bind fun r3 =>
      some (((r3.fst.fst, r3.fst.snd), r3.snd))
theorem Ms_dyHalf (k : Nat) (a_N : Int) (a_K : Int) (b_N : Int) (b_K : Int) : Le (f126 k a_N a_K b_N b_K) (f126 (k + 1) a_N a_K b_N b_K) := by
  unfold f126
  repeat' first | with_reducible exact Le.rfl _ | with_reducible exact Ms_l1Most _ _ _ | with_reducible exact Ms_dyAt _ _ _ _ | with_reducible exact Ms_dyMake _ _ _ | with_reducible refine Le.cond ?_ ?_ | with_reducible refine Le.bind ?_ fun _ => ?_
theorem Rs_dyHalf (a_N : Int) (a_K : Int) (b_N : Int) (b_K : Int) : Lim (fun k => f126 k a_N a_K b_N b_K) (s_dyHalf a_N a_K b_N b_K) := by
  unfold f126 s_dyHalf
  repeat' first | with_reducible exact Lim.ret _ | with_reducible exact Rs_l1Most _ _ | with_reducible exact Rs_dyAt _ _ _ | with_reducible exact Rs_dyMake _ _ | with_reducible refine Lim.cond ?_ ?_ | with_reducible refine Lim.bind ?_ fun _ => ?_

-- spec.faNarrow
theorem MFs_faNarrow_1001 (k : Nat) {r1001 q1001 : List Int → List Int → Int → Int → Int → Int → Int → Int → Int → Int → Int → Int → Option ((Int × Int) × Int × Int)} (h1001 : ∀ (p : List Int) (q : List Int) (i : Int) (fine : Int) (xs_0 : Int) (xs_1 : Int) (xs_2 : Int) (xs_3 : Int) (t10s_0 : Int) (t10s_1 : Int) (t10s_2 : Int) (t10s_3 : Int), Le (r1001 p q i fine xs_0 xs_1 xs_2 xs_3 t10s_0 t10s_1 t10s_2 t10s_3) (q1001 p q i fine xs_0 xs_1 xs_2 xs_3 t10s_0 t10s_1 t10s_2 t10s_3)) (p : List Int) (q : List Int) (i : Int) (fine : Int) (xs_0 : Int) (xs_1 : Int) (xs_2 : Int) (xs_3 : Int) (t10s_0 : Int) (t10s_1 : Int) (t10s_2 : Int) (t10s_3 : Int) : Le (F70_1001 k r1001 p q i fine xs_0 xs_1 xs_2 xs_3 t10s_0 t10s_1 t10s_2 t10s_3) (F70_1001 (k + 1) q1001 p q i fine xs_0 xs_1 xs_2 xs_3 t10s_0 t10s_1 t10s_2 t10s_3) := by
  unfold F70_1001
  repeat' first | with_reducible exact Le.rfl _ | with_reducible exact Ms_faSign _ _ _ _ _ _ _ | with_reducible exact Ms_dyHalf _ _ _ _ _ | with_reducible exact Ms_faCross _ _ _ _ _ _ _ _ _ | with_reducible exact h1001 _ _ _ _ _ _ _ _ _ _ _ _ | with_reducible refine Le.cond ?_ ?_ | with_reducible refine Le.bind ?_ fun _ => ?_
theorem Mls_faNarrow : ∀ k : Nat, ∀ (p : List Int) (q : List Int) (i : Int) (fine : Int) (xs_0 : Int) (xs_1 : Int) (xs_2 : Int) (xs_3 : Int) (t10s_0 : Int) (t10s_1 : Int) (t10s_2 : Int) (t10s_3 : Int), Le ((l70 k) p q i fine xs_0 xs_1 xs_2 xs_3 t10s_0 t10s_1 t10s_2 t10s_3) ((l70 (k + 1)) p q i fine xs_0 xs_1 xs_2 xs_3 t10s_0 t10s_1 t10s_2 t10s_3)
  | 0 => fun p q i fine xs_0 xs_1 xs_2 xs_3 t10s_0 t10s_1 t10s_2 t10s_3 => Le.no _
  | k + 1 => by
    have h := Mls_faNarrow k
    exact fun p q i fine xs_0 xs_1 xs_2 xs_3 t10s_0 t10s_1 t10s_2 t10s_3 => MFs_faNarrow_1001 k h p q i fine xs_0 xs_1 xs_2 xs_3 t10s_0 t10s_1 t10s_2 t10s_3
noncomputable def s_faNarrow_1001 (p : List Int) (q : List Int) (i : Int) (fine : Int) (xs_0 : Int) (xs_1 : Int) (xs_2 : Int) (xs_3 : Int) (t10s_0 : Int) (t10s_1 : Int) (t10s_2 : Int) (t10s_3 : Int) : Option ((Int × Int) × Int × Int) := lim fun k => (l70 k) p q i fine xs_0 xs_1 xs_2 xs_3 t10s_0 t10s_1 t10s_2 t10s_3
theorem Rls_faNarrow_1001 (p : List Int) (q : List Int) (i : Int) (fine : Int) (xs_0 : Int) (xs_1 : Int) (xs_2 : Int) (xs_3 : Int) (t10s_0 : Int) (t10s_1 : Int) (t10s_2 : Int) (t10s_3 : Int) : Lim (fun k => (l70 k) p q i fine xs_0 xs_1 xs_2 xs_3 t10s_0 t10s_1 t10s_2 t10s_3) (s_faNarrow_1001 p q i fine xs_0 xs_1 xs_2 xs_3 t10s_0 t10s_1 t10s_2 t10s_3) := Lim.of_mono fun k => Mls_faNarrow k p q i fine xs_0 xs_1 xs_2 xs_3 t10s_0 t10s_1 t10s_2 t10s_3
theorem Es_faNarrow_1001 (p : List Int) (q : List Int) (i : Int) (fine : Int) (xs_0 : Int) (xs_1 : Int) (xs_2 : Int) (xs_3 : Int) (t10s_0 : Int) (t10s_1 : Int) (t10s_2 : Int) (t10s_3 : Int) : s_faNarrow_1001 p q i fine xs_0 xs_1 xs_2 xs_3 t10s_0 t10s_1 t10s_2 t10s_3 =
  (s_dyHalf xs_0 xs_1 xs_2 xs_3).bind fun r0 =>
  bif decide (5 < r0.fst.snd) then
    some (((xs_0, xs_1), xs_2, xs_3))
  else
    (s_faSign p q r0.fst.fst r0.fst.snd i fine).bind fun r1 =>
    bif decide (r1 = 0) then
      some (((xs_0, xs_1), xs_2, xs_3))
    else
      (s_faCross p q xs_0 xs_1 r0.fst.fst r0.fst.snd i fine).bind fun r2 =>
      bif r2 then
        s_faNarrow_1001 p q i fine xs_0 xs_1 (r0.fst.fst) (r0.fst.snd) t10s_0 t10s_1 t10s_2 t10s_3
      else
        s_faNarrow_1001 p q i fine (r0.fst.fst) (r0.fst.snd) xs_2 xs_3 t10s_0 t10s_1 t10s_2 t10s_3 := by
  refine Lim.uniq (Lim.shift (Rls_faNarrow_1001 p q i fine xs_0 xs_1 xs_2 xs_3 t10s_0 t10s_1 t10s_2 t10s_3)) (?_ : Lim (fun k => F70_1001 k ((l70 k)) p q i fine xs_0 xs_1 xs_2 xs_3 t10s_0 t10s_1 t10s_2 t10s_3) _)
  unfold F70_1001
  repeat' first | with_reducible exact Lim.ret _ | with_reducible exact Rs_faSign _ _ _ _ _ _ | with_reducible exact Rs_dyHalf _ _ _ _ | with_reducible exact Rs_faCross _ _ _ _ _ _ _ _ | with_reducible exact Rls_faNarrow_1001 _ _ _ _ _ _ _ _ _ _ _ _ | with_reducible refine Lim.cond ?_ ?_ | with_reducible refine Lim.bind ?_ fun _ => ?_
noncomputable def s_faNarrow (p : List (Int)) (q : List (Int)) (x_Low_N : Int) (x_Low_K : Int) (x_High_N : Int) (x_High_K : Int) (i : Int) (fine : Int) : Option ((Int × Int) × Int × Int) :=
  s_faNarrow_1001 p q i fine x_Low_N x_Low_K x_High_N x_High_K (0) (0) (0) (0)
theorem Ms_faNarrow (k : Nat) (p : List (Int)) (q : List (Int)) (x_Low_N : Int) (x_Low_K : Int) (x_High_N : Int) (x_High_K : Int) (i : Int) (fine : Int) : Le (f70 k p q x_Low_N x_Low_K x_High_N x_High_K i fine) (f70 (k + 1) p q x_Low_N x_Low_K x_High_N x_High_K i fine) := by
  have h := Mls_faNarrow k
  unfold f70 F70
  repeat' first | with_reducible exact Le.rfl _ | with_reducible exact h _ _ _ _ _ _ _ _ _ _ _ _ | with_reducible refine Le.cond ?_ ?_ | with_reducible refine Le.bind ?_ fun _ => ?_
theorem Rs_faNarrow (p : List (Int)) (q : List (Int)) (x_Low_N : Int) (x_Low_K : Int) (x_High_N : Int) (x_High_K : Int) (i : Int) (fine : Int) : Lim (fun k => f70 k p q x_Low_N x_Low_K x_High_N x_High_K i fine) (s_faNarrow p q x_Low_N x_Low_K x_High_N x_High_K i fine) := by
  unfold f70 F70 s_faNarrow
  repeat' first | with_reducible exact Lim.ret _ | with_reducible exact Rls_faNarrow_1001 _ _ _ _ _ _ _ _ _ _ _ _ | with_reducible refine Lim.cond ?_ ?_ | with_reducible refine Lim.bind ?_ fun _ => ?_

-- spec.NarrowAt
noncomputable def s_NarrowAt (p : List (Int)) (q : List (Int)) (x_Low_N : Int) (x_Low_K : Int) (x_High_N : Int) (x_High_K : Int) (i : Int) (fine : Int) : Option (((Int × Int) × Int × Int) × Bool) :=
  (s_faMoment p q i fine).bind fun r0 =>
  bif !r0 then
    some ((((0, 0), 0, 0), false))
  else
    (s_deFit x_Low_N x_Low_K x_High_N x_High_K).bind fun r1 =>
    bif !r1 then
      some ((((0, 0), 0, 0), false))
    else
      (s_faCross p q x_Low_N x_Low_K x_High_N x_High_K i fine).bind fun r2 =>
      bif !r2 then
        some ((((0, 0), 0, 0), false))
      else
        (s_faNarrow p q x_Low_N x_Low_K x_High_N x_High_K i fine).bind fun r3 =>
        some ((((r3.fst.fst, r3.fst.snd), r3.snd.fst, r3.snd.snd), true))
theorem Ms_NarrowAt (k : Nat) (p : List (Int)) (q : List (Int)) (x_Low_N : Int) (x_Low_K : Int) (x_High_N : Int) (x_High_K : Int) (i : Int) (fine : Int) : Le (f14 k p q x_Low_N x_Low_K x_High_N x_High_K i fine) (f14 (k + 1) p q x_Low_N x_Low_K x_High_N x_High_K i fine) := by
  unfold f14
  repeat' first | with_reducible exact Le.rfl _ | with_reducible exact Ms_faMoment _ _ _ _ _ | with_reducible exact Ms_deFit _ _ _ _ _ | with_reducible exact Ms_faCross _ _ _ _ _ _ _ _ _ | with_reducible exact Ms_faNarrow _ _ _ _ _ _ _ _ _ | with_reducible refine Le.cond ?_ ?_ | with_reducible refine Le.bind ?_ fun _ => ?_
theorem Rs_NarrowAt (p : List (Int)) (q : List (Int)) (x_Low_N : Int) (x_Low_K : Int) (x_High_N : Int) (x_High_K : Int) (i : Int) (fine : Int) : Lim (fun k => f14 k p q x_Low_N x_Low_K x_High_N x_High_K i fine) (s_NarrowAt p q x_Low_N x_Low_K x_High_N x_High_K i fine) := by
  unfold f14 s_NarrowAt
  repeat' first | with_reducible exact Lim.ret _ | with_reducible exact Rs_faMoment _ _ _ _ | with_reducible exact Rs_deFit _ _ _ _ | with_reducible exact Rs_faCross _ _ _ _ _ _ _ _ | with_reducible exact Rs_faNarrow _ _ _ _ _ _ _ _ | with_reducible refine Lim.cond ?_ ?_ | with_reducible refine Lim.bind ?_ fun _ => ?_

-- laws.roomBehind
noncomputable def w_roomBehind (n : Int) : Option (Int) :=
  bif decide (Int.tmod n 6 = 5) then
    some (0)
  else
    bif decide (Int.tmod n 3 = 0) then
      some (1)
    else
      some n
theorem Mw_roomBehind (k : Nat) (n : Int) : Le (f71 k n) (f71 (k + 1) n) := by
  unfold f71
  repeat' first | with_reducible exact Le.rfl _ | with_reducible refine Le.cond ?_ ?_ | with_reducible refine Le.bind ?_ fun _ => ?_
theorem Rw_roomBehind (n : Int) : Lim (fun k => f71 k n) (w_roomBehind n) := by
  unfold f71 w_roomBehind
  repeat' first | with_reducible exact Lim.ret _ | with_reducible refine Lim.cond ?_ ?_ | with_reducible refine Lim.bind ?_ fun _ => ?_

-- laws.toIntS
theorem MFw_toIntS_1005 (k : Nat) {r1005 q1005 : List Int → List Int → Int → Option (List (Int) × Nat)} (h1005 : ∀ (a : List Int) (outs : List Int) (i : Int), Le (r1005 a outs i) (q1005 a outs i)) {r1009 q1009 : List Int → List Int → Int → Option (List (Int) × Nat)} (h1009 : ∀ (a : List Int) (outs : List Int) (i : Int), Le (r1009 a outs i) (q1009 a outs i)) (a : List Int) (outs : List Int) (i : Int) : Le (F15_1005 k r1005 r1009 a outs i) (F15_1005 (k + 1) q1005 q1009 a outs i) := by
  unfold F15_1005
  repeat' first | with_reducible exact Le.rfl _ | with_reducible exact h1005 _ _ _ | with_reducible exact h1009 _ _ _ | with_reducible refine Le.cond ?_ ?_ | with_reducible refine Le.bind ?_ fun _ => ?_
theorem MFw_toIntS_1009 (k : Nat) {r1005 q1005 : List Int → List Int → Int → Option (List (Int) × Nat)} (h1005 : ∀ (a : List Int) (outs : List Int) (i : Int), Le (r1005 a outs i) (q1005 a outs i)) {r1009 q1009 : List Int → List Int → Int → Option (List (Int) × Nat)} (h1009 : ∀ (a : List Int) (outs : List Int) (i : Int), Le (r1009 a outs i) (q1009 a outs i)) (a : List Int) (outs : List Int) (i : Int) : Le (F15_1009 k r1005 r1009 a outs i) (F15_1009 (k + 1) q1005 q1009 a outs i) := by
  unfold F15_1009
  repeat' first | with_reducible exact Le.rfl _ | with_reducible exact h1005 _ _ _ | with_reducible exact h1009 _ _ _ | with_reducible refine Le.cond ?_ ?_ | with_reducible refine Le.bind ?_ fun _ => ?_
theorem Mlw_toIntS : ∀ k : Nat, (∀ (a : List Int) (outs : List Int) (i : Int), Le ((l15 k).1 a outs i) ((l15 (k + 1)).1 a outs i)) ∧ (∀ (a : List Int) (outs : List Int) (i : Int), Le ((l15 k).2 a outs i) ((l15 (k + 1)).2 a outs i))
  | 0 => ⟨fun a outs i => Le.no _, fun a outs i => Le.no _⟩
  | k + 1 => by
    have h := Mlw_toIntS k
    exact ⟨fun a outs i => MFw_toIntS_1005 k h.1 h.2 a outs i, fun a outs i => MFw_toIntS_1009 k h.1 h.2 a outs i⟩
noncomputable def w_toIntS_1005 (a : List Int) (outs : List Int) (i : Int) : Option (List (Int) × Nat) := lim fun k => (l15 k).1 a outs i
theorem Rlw_toIntS_1005 (a : List Int) (outs : List Int) (i : Int) : Lim (fun k => (l15 k).1 a outs i) (w_toIntS_1005 a outs i) := Lim.of_mono fun k => (Mlw_toIntS k).1 a outs i
noncomputable def w_toIntS_1009 (a : List Int) (outs : List Int) (i : Int) : Option (List (Int) × Nat) := lim fun k => (l15 k).2 a outs i
theorem Rlw_toIntS_1009 (a : List Int) (outs : List Int) (i : Int) : Lim (fun k => (l15 k).2 a outs i) (w_toIntS_1009 a outs i) := Lim.of_mono fun k => (Mlw_toIntS k).2 a outs i
theorem Ew_toIntS_1005 (a : List Int) (outs : List Int) (i : Int) : w_toIntS_1005 a outs i =
  bif decide (i < (↑(List.length a) : Int)) then
    bif boundA i (List.length a) then
      bif boundA i (List.length outs) then
        bif Nat.blt (Int.toNat i) (List.length outs) then
          w_toIntS_1005 a (List.set outs (Int.toNat i) (List.getD a (Int.toNat i) 0)) (IntKind.wrap IntKind.i64 (i + 1))
        else
          none
      else
        none
    else
      none
  else
    w_toIntS_1009 a outs ((↑(List.length a) : Int)) := by
  refine Lim.uniq (Lim.shift (Rlw_toIntS_1005 a outs i)) (?_ : Lim (fun k => F15_1005 k ((l15 k).1) ((l15 k).2) a outs i) _)
  unfold F15_1005
  repeat' first | with_reducible exact Lim.ret _ | with_reducible exact Rlw_toIntS_1005 _ _ _ | with_reducible exact Rlw_toIntS_1009 _ _ _ | with_reducible refine Lim.cond ?_ ?_ | with_reducible refine Lim.bind ?_ fun _ => ?_
theorem Ew_toIntS_1009 (a : List Int) (outs : List Int) (i : Int) : w_toIntS_1009 a outs i =
  bif decide (i < (↑(List.length outs) : Int)) then
    bif boundA i (List.length outs) then
      bif Nat.blt (Int.toNat i) (List.length outs) then
        w_toIntS_1009 a (List.set outs (Int.toNat i) (-7000000000000000101)) (IntKind.wrap IntKind.i64 (i + 1))
      else
        none
    else
      none
  else
    bif boundE (↑(List.length a) : Int) (List.length outs) then
      some ((outs, Option.getD (some (Int.toNat (↑(List.length a) : Int))) (List.length outs)))
    else
      none := by
  refine Lim.uniq (Lim.shift (Rlw_toIntS_1009 a outs i)) (?_ : Lim (fun k => F15_1009 k ((l15 k).1) ((l15 k).2) a outs i) _)
  unfold F15_1009
  repeat' first | with_reducible exact Lim.ret _ | with_reducible exact Rlw_toIntS_1005 _ _ _ | with_reducible exact Rlw_toIntS_1009 _ _ _ | with_reducible refine Lim.cond ?_ ?_ | with_reducible refine Lim.bind ?_ fun _ => ?_
noncomputable def w_toIntS (a : List (Int)) (bare : Bool) : Option (List (Int) × Nat) :=
  bif bare then
    bif decide ((↑(List.length a) : Int) = 0) then
      some (([], 0))
    else
      (w_roomBehind (↑(List.length a) : Int)).bind fun r0 =>
      bif decide (0 ≤ IntKind.wrap IntKind.i64 ((↑(List.length a) : Int) + r0)) then
        bif decide (IntKind.wrap IntKind.i64 ((↑(List.length a) : Int) + r0) ≤ IntKind.wrap IntKind.i64 ((↑(List.length a) : Int) + r0)) then
          bif decide (IntKind.wrap IntKind.i64 ((↑(List.length a) : Int) + r0) * (↑8 : Int) ≤ 140737488355328) then
            w_toIntS_1005 a (List.replicate (Int.toNat (IntKind.wrap IntKind.i64 ((↑(List.length a) : Int) + r0))) (dflt (Ty.int IntKind.i64))) (0)
          else
            none
        else
          none
      else
        none
  else
    (w_roomBehind (↑(List.length a) : Int)).bind fun r1 =>
    bif decide (0 ≤ IntKind.wrap IntKind.i64 ((↑(List.length a) : Int) + r1)) then
      bif decide (IntKind.wrap IntKind.i64 ((↑(List.length a) : Int) + r1) ≤ IntKind.wrap IntKind.i64 ((↑(List.length a) : Int) + r1)) then
        bif decide (IntKind.wrap IntKind.i64 ((↑(List.length a) : Int) + r1) * (↑8 : Int) ≤ 140737488355328) then
          w_toIntS_1005 a (List.replicate (Int.toNat (IntKind.wrap IntKind.i64 ((↑(List.length a) : Int) + r1))) (dflt (Ty.int IntKind.i64))) (0)
        else
          none
      else
        none
    else
      none
theorem Mw_toIntS (k : Nat) (a : List (Int)) (bare : Bool) : Le (f15 k a bare) (f15 (k + 1) a bare) := by
  have h := Mlw_toIntS k
  unfold f15 F15
  repeat' first | with_reducible exact Le.rfl _ | with_reducible exact Mw_roomBehind _ _ | with_reducible exact h.1 _ _ _ | with_reducible exact h.2 _ _ _ | with_reducible refine Le.cond ?_ ?_ | with_reducible refine Le.bind ?_ fun _ => ?_
theorem Rw_toIntS (a : List (Int)) (bare : Bool) : Lim (fun k => f15 k a bare) (w_toIntS a bare) := by
  unfold f15 F15 w_toIntS
  repeat' first | with_reducible exact Lim.ret _ | with_reducible exact Rw_roomBehind _ | with_reducible exact Rlw_toIntS_1005 _ _ _ | with_reducible exact Rlw_toIntS_1009 _ _ _ | with_reducible refine Lim.cond ?_ ?_ | with_reducible refine Lim.bind ?_ fun _ => ?_

-- laws.toDyadic
noncomputable def w_toDyadic (a_N : Int) (a_K : Int) : Option (Int × Int) :=
  some ((a_N, a_K))
theorem Mw_toDyadic (k : Nat) (a_N : Int) (a_K : Int) : Le (f72 k a_N a_K) (f72 (k + 1) a_N a_K) := by
  unfold f72
  repeat' first | with_reducible exact Le.rfl _ | with_reducible refine Le.cond ?_ ?_ | with_reducible refine Le.bind ?_ fun _ => ?_
theorem Rw_toDyadic (a_N : Int) (a_K : Int) : Lim (fun k => f72 k a_N a_K) (w_toDyadic a_N a_K) := by
  unfold f72 w_toDyadic
  repeat' first | with_reducible exact Lim.ret _ | with_reducible refine Lim.cond ?_ ?_ | with_reducible refine Lim.bind ?_ fun _ => ?_

-- laws.toInterval
noncomputable def w_toInterval (a_Low_N : Int) (a_Low_K : Int) (a_High_N : Int) (a_High_K : Int) : Option ((Int × Int) × Int × Int) :=
  some (((a_Low_N, a_Low_K), a_High_N, a_High_K))
theorem Mw_toInterval (k : Nat) (a_Low_N : Int) (a_Low_K : Int) (a_High_N : Int) (a_High_K : Int) : Le (f16 k a_Low_N a_Low_K a_High_N a_High_K) (f16 (k + 1) a_Low_N a_Low_K a_High_N a_High_K) := by
  unfold f16
  repeat' first | with_reducible exact Le.rfl _ | with_reducible refine Le.cond ?_ ?_ | with_reducible refine Le.bind ?_ fun _ => ?_
theorem Rw_toInterval (a_Low_N : Int) (a_Low_K : Int) (a_High_N : Int) (a_High_K : Int) : Lim (fun k => f16 k a_Low_N a_Low_K a_High_N a_High_K) (w_toInterval a_Low_N a_Low_K a_High_N a_High_K) := by
  unfold f16 w_toInterval
  repeat' first | with_reducible exact Lim.ret _ | with_reducible refine Lim.cond ?_ ?_ | with_reducible refine Lim.bind ?_ fun _ => ?_

-- impl.inside
noncomputable def i_inside (n : Int) (low : Int) (high : Int) : Option (Bool) :=
  bif decide (low ≤ n) then
    some (decide (n ≤ high))
  else
    some false
theorem Mi_inside (k : Nat) (n : Int) (low : Int) (high : Int) : Le (f128 k n low high) (f128 (k + 1) n low high) := by
  unfold f128
  repeat' first | with_reducible exact Le.rfl _ | with_reducible refine Le.cond ?_ ?_ | with_reducible refine Le.bind ?_ fun _ => ?_
theorem Ri_inside (n : Int) (low : Int) (high : Int) : Lim (fun k => f128 k n low high) (i_inside n low high) := by
  unfold f128 i_inside
  repeat' first | with_reducible exact Lim.ret _ | with_reducible refine Lim.cond ?_ ?_ | with_reducible refine Lim.bind ?_ fun _ => ?_

-- impl.isSingle
theorem MFi_isSingle_1002 (k : Nat) {r1002 q1002 : List Int → List Int → Int → Int → Option (Bool)} (h1002 : ∀ (p : List Int) (t5 : List Int) (t6 : Int) (t7 : Int), Le (r1002 p t5 t6 t7) (q1002 p t5 t6 t7)) (p : List Int) (t5 : List Int) (t6 : Int) (t7 : Int) : Le (F152_1002 k r1002 p t5 t6 t7) (F152_1002 (k + 1) q1002 p t5 t6 t7) := by
  unfold F152_1002
  repeat' first | with_reducible exact Le.rfl _ | with_reducible exact Mi_inside _ _ _ _ | with_reducible exact h1002 _ _ _ _ | with_reducible refine Le.cond ?_ ?_ | with_reducible refine Le.bind ?_ fun _ => ?_
theorem Mli_isSingle : ∀ k : Nat, ∀ (p : List Int) (t5 : List Int) (t6 : Int) (t7 : Int), Le ((l152 k) p t5 t6 t7) ((l152 (k + 1)) p t5 t6 t7)
  | 0 => fun p t5 t6 t7 => Le.no _
  | k + 1 => by
    have h := Mli_isSingle k
    exact fun p t5 t6 t7 => MFi_isSingle_1002 k h p t5 t6 t7
noncomputable def i_isSingle_1002 (p : List Int) (t5 : List Int) (t6 : Int) (t7 : Int) : Option (Bool) := lim fun k => (l152 k) p t5 t6 t7
theorem Rli_isSingle_1002 (p : List Int) (t5 : List Int) (t6 : Int) (t7 : Int) : Lim (fun k => (l152 k) p t5 t6 t7) (i_isSingle_1002 p t5 t6 t7) := Lim.of_mono fun k => Mli_isSingle k p t5 t6 t7
theorem Ei_isSingle_1002 (p : List Int) (t5 : List Int) (t6 : Int) (t7 : Int) : i_isSingle_1002 p t5 t6 t7 =
  bif decide (t7 < t6) then
    bif boundA t7 (List.length t5) then
      (i_inside (List.getD t5 (Int.toNat t7) 0) (-1000000) 1000000).bind fun r0 =>
      bif !r0 then
        some false
      else
        i_isSingle_1002 p t5 t6 (IntKind.wrap IntKind.i64 (t7 + 1))
    else
      none
  else
    bif decide ((↑(List.length p) : Int) = 0) then
      some true
    else
      bif decide ((↑(List.length p) : Int) ≤ 9) then
        bif boundA (IntKind.wrap IntKind.i64 ((↑(List.length p) : Int) - 1)) (List.length p) then
          some (!decide (List.getD p (Int.toNat (IntKind.wrap IntKind.i64 ((↑(List.length p) : Int) - 1))) 0 = 0))
        else
          none
      else
        some false := by
  refine Lim.uniq (Lim.shift (Rli_isSingle_1002 p t5 t6 t7)) (?_ : Lim (fun k => F152_1002 k ((l152 k)) p t5 t6 t7) _)
  unfold F152_1002
  repeat' first | with_reducible exact Lim.ret _ | with_reducible exact Ri_inside _ _ _ | with_reducible exact Rli_isSingle_1002 _ _ _ _ | with_reducible refine Lim.cond ?_ ?_ | with_reducible refine Lim.bind ?_ fun _ => ?_
noncomputable def i_isSingle (p : List (Int)) : Option (Bool) :=
  i_isSingle_1002 p p ((↑(List.length p) : Int)) (0)
theorem Mi_isSingle (k : Nat) (p : List (Int)) : Le (f152 k p) (f152 (k + 1) p) := by
  have h := Mli_isSingle k
  unfold f152 F152
  repeat' first | with_reducible exact Le.rfl _ | with_reducible exact h _ _ _ _ | with_reducible refine Le.cond ?_ ?_ | with_reducible refine Le.bind ?_ fun _ => ?_
theorem Ri_isSingle (p : List (Int)) : Lim (fun k => f152 k p) (i_isSingle p) := by
  unfold f152 F152 i_isSingle
  repeat' first | with_reducible exact Lim.ret _ | with_reducible exact Rli_isSingle_1002 _ _ _ _ | with_reducible refine Lim.cond ?_ ?_ | with_reducible refine Lim.bind ?_ fun _ => ?_

-- impl.isSmall$1
noncomputable def i_isSmall_1 (c : Int) : Option (Bool) :=
  (i_inside c (-1000) 1000).bind fun r0 =>
  some (!r0)
theorem Mi_isSmall_1 (k : Nat) (c : Int) : Le (f189 k c) (f189 (k + 1) c) := by
  unfold f189
  repeat' first | with_reducible exact Le.rfl _ | with_reducible exact Mi_inside _ _ _ _ | with_reducible refine Le.cond ?_ ?_ | with_reducible refine Le.bind ?_ fun _ => ?_
theorem Ri_isSmall_1 (c : Int) : Lim (fun k => f189 k c) (i_isSmall_1 c) := by
  unfold f189 i_isSmall_1
  repeat' first | with_reducible exact Lim.ret _ | with_reducible exact Ri_inside _ _ _ | with_reducible refine Lim.cond ?_ ?_ | with_reducible refine Lim.bind ?_ fun _ => ?_

-- slices.IndexFunc[[]int,int]
theorem MFslices_IndexFunc_int_int_i_isSmall_1_1002 (k : Nat) {r1002 q1002 : List Int → Int → Int → Option (Int)} (h1002 : ∀ (s : List Int) (t7 : Int) (t8 : Int), Le (r1002 s t7 t8) (q1002 s t7 t8)) (s : List Int) (t7 : Int) (t8 : Int) : Le (F238_189_1002 k r1002 s t7 t8) (F238_189_1002 (k + 1) q1002 s t7 t8) := by
  unfold F238_189_1002
  repeat' first | with_reducible exact Le.rfl _ | with_reducible exact Mi_isSmall_1 _ _ | with_reducible exact h1002 _ _ _ | with_reducible refine Le.cond ?_ ?_ | with_reducible refine Le.bind ?_ fun _ => ?_
theorem Mlslices_IndexFunc_int_int_i_isSmall_1 : ∀ k : Nat, ∀ (s : List Int) (t7 : Int) (t8 : Int), Le ((l238_189 k) s t7 t8) ((l238_189 (k + 1)) s t7 t8)
  | 0 => fun s t7 t8 => Le.no _
  | k + 1 => by
    have h := Mlslices_IndexFunc_int_int_i_isSmall_1 k
    exact fun s t7 t8 => MFslices_IndexFunc_int_int_i_isSmall_1_1002 k h s t7 t8
noncomputable def slices_IndexFunc_int_int_i_isSmall_1_1002 (s : List Int) (t7 : Int) (t8 : Int) : Option (Int) := lim fun k => (l238_189 k) s t7 t8
theorem Rlslices_IndexFunc_int_int_i_isSmall_1_1002 (s : List Int) (t7 : Int) (t8 : Int) : Lim (fun k => (l238_189 k) s t7 t8) (slices_IndexFunc_int_int_i_isSmall_1_1002 s t7 t8) := Lim.of_mono fun k => Mlslices_IndexFunc_int_int_i_isSmall_1 k s t7 t8
theorem Eslices_IndexFunc_int_int_i_isSmall_1_1002 (s : List Int) (t7 : Int) (t8 : Int) : slices_IndexFunc_int_int_i_isSmall_1_1002 s t7 t8 =
  bif decide (t8 < t7) then
    bif boundA t8 (List.length s) then
      (i_isSmall_1 (List.getD s (Int.toNat t8) 0)).bind fun r0 =>
      bif r0 then
        some t8
      else
        slices_IndexFunc_int_int_i_isSmall_1_1002 s t7 (IntKind.wrap IntKind.i64 (t8 + 1))
    else
      none
  else
    some (-1) := by
  refine Lim.uniq (Lim.shift (Rlslices_IndexFunc_int_int_i_isSmall_1_1002 s t7 t8)) (?_ : Lim (fun k => F238_189_1002 k ((l238_189 k)) s t7 t8) _)
  unfold F238_189_1002
  repeat' first | with_reducible exact Lim.ret _ | with_reducible exact Ri_isSmall_1 _ | with_reducible exact Rlslices_IndexFunc_int_int_i_isSmall_1_1002 _ _ _ | with_reducible refine Lim.cond ?_ ?_ | with_reducible refine Lim.bind ?_ fun _ => ?_
noncomputable def slices_IndexFunc_int_int_i_isSmall_1 (s : List (Int)) : Option (Int) :=
  slices_IndexFunc_int_int_i_isSmall_1_1002 s ((↑(List.length s) : Int)) (0)
theorem Mslices_IndexFunc_int_int_i_isSmall_1 (k : Nat) (s : List (Int)) : Le (f238_189 k s) (f238_189 (k + 1) s) := by
  have h := Mlslices_IndexFunc_int_int_i_isSmall_1 k
  unfold f238_189 F238_189
  repeat' first | with_reducible exact Le.rfl _ | with_reducible exact h _ _ _ | with_reducible refine Le.cond ?_ ?_ | with_reducible refine Le.bind ?_ fun _ => ?_
theorem Rslices_IndexFunc_int_int_i_isSmall_1 (s : List (Int)) : Lim (fun k => f238_189 k s) (slices_IndexFunc_int_int_i_isSmall_1 s) := by
  unfold f238_189 F238_189 slices_IndexFunc_int_int_i_isSmall_1
  repeat' first | with_reducible exact Lim.ret _ | with_reducible exact Rlslices_IndexFunc_int_int_i_isSmall_1_1002 _ _ _ | with_reducible refine Lim.cond ?_ ?_ | with_reducible refine Lim.bind ?_ fun _ => ?_

-- slices.ContainsFunc[[]int,int]
noncomputable def slices_ContainsFunc_int_int_i_isSmall_1 (s : List (Int)) : Option (Bool) :=
  (slices_IndexFunc_int_int_i_isSmall_1 s).bind fun r0 =>
  some (decide (0 ≤ r0))
theorem Mslices_ContainsFunc_int_int_i_isSmall_1 (k : Nat) (s : List (Int)) : Le (f188_189 k s) (f188_189 (k + 1) s) := by
  unfold f188_189
  repeat' first | with_reducible exact Le.rfl _ | with_reducible exact Mslices_IndexFunc_int_int_i_isSmall_1 _ _ | with_reducible refine Le.cond ?_ ?_ | with_reducible refine Le.bind ?_ fun _ => ?_
theorem Rslices_ContainsFunc_int_int_i_isSmall_1 (s : List (Int)) : Lim (fun k => f188_189 k s) (slices_ContainsFunc_int_int_i_isSmall_1 s) := by
  unfold f188_189 slices_ContainsFunc_int_int_i_isSmall_1
  repeat' first | with_reducible exact Lim.ret _ | with_reducible exact Rslices_IndexFunc_int_int_i_isSmall_1 _ | with_reducible refine Lim.cond ?_ ?_ | with_reducible refine Lim.bind ?_ fun _ => ?_

-- impl.isSmall
noncomputable def i_isSmall (p : List (Int)) : Option (Bool) :=
  (i_isSingle p).bind fun r0 =>
  bif r0 then
    (i_inside (↑(List.length p) : Int) 1 6).bind fun r1 =>
    bif r1 then
      (slices_ContainsFunc_int_int_i_isSmall_1 p).bind fun r2 =>
      some (!r2)
    else
      some false
  else
    some false
theorem Mi_isSmall (k : Nat) (p : List (Int)) : Le (f127 k p) (f127 (k + 1) p) := by
  unfold f127
  repeat' first | with_reducible exact Le.rfl _ | with_reducible exact Mi_inside _ _ _ _ | with_reducible exact Mi_isSingle _ _ | with_reducible exact Mslices_ContainsFunc_int_int_i_isSmall_1 _ _ | with_reducible refine Le.cond ?_ ?_ | with_reducible refine Le.bind ?_ fun _ => ?_
theorem Ri_isSmall (p : List (Int)) : Lim (fun k => f127 k p) (i_isSmall p) := by
  unfold f127 i_isSmall
  repeat' first | with_reducible exact Lim.ret _ | with_reducible exact Ri_inside _ _ _ | with_reducible exact Ri_isSingle _ | with_reducible exact Rslices_ContainsFunc_int_int_i_isSmall_1 _ | with_reducible refine Lim.cond ?_ ?_ | with_reducible refine Lim.bind ?_ fun _ => ?_

-- impl.isFamily
noncomputable def i_isFamily (p : List (Int)) (q : List (Int)) (fine : Int) : Option (Bool) :=
  (i_isSmall p).bind fun r0 =>
  bif r0 then
    (i_isSmall q).bind fun r1 =>
    bif r1 then
      (i_inside fine 0 4).bind fun r2 =>
      some r2
    else
      some false
  else
    some false
theorem Mi_isFamily (k : Nat) (p : List (Int)) (q : List (Int)) (fine : Int) : Le (f73 k p q fine) (f73 (k + 1) p q fine) := by
  unfold f73
  repeat' first | with_reducible exact Le.rfl _ | with_reducible exact Mi_isSmall _ _ | with_reducible exact Mi_inside _ _ _ _ | with_reducible refine Le.cond ?_ ?_ | with_reducible refine Le.bind ?_ fun _ => ?_
theorem Ri_isFamily (p : List (Int)) (q : List (Int)) (fine : Int) : Lim (fun k => f73 k p q fine) (i_isFamily p q fine) := by
  unfold f73 i_isFamily
  repeat' first | with_reducible exact Lim.ret _ | with_reducible exact Ri_isSmall _ | with_reducible exact Ri_inside _ _ _ | with_reducible refine Lim.cond ?_ ?_ | with_reducible refine Lim.bind ?_ fun _ => ?_

-- impl.isPlaces
noncomputable def i_isPlaces (places : Int) : Option (Bool) :=
  (i_inside places 0 24).bind fun r0 =>
  some r0
theorem Mi_isPlaces (k : Nat) (places : Int) : Le (f239 k places) (f239 (k + 1) places) := by
  unfold f239
  repeat' first | with_reducible exact Le.rfl _ | with_reducible exact Mi_inside _ _ _ _ | with_reducible refine Le.cond ?_ ?_ | with_reducible refine Le.bind ?_ fun _ => ?_
theorem Ri_isPlaces (places : Int) : Lim (fun k => f239 k places) (i_isPlaces places) := by
  unfold f239 i_isPlaces
  repeat' first | with_reducible exact Lim.ret _ | with_reducible exact Ri_inside _ _ _ | with_reducible refine Lim.cond ?_ ?_ | with_reducible refine Lim.bind ?_ fun _ => ?_

-- impl.isDyadic
noncomputable def i_isDyadic (a_N : Int) (a_K : Int) : Option (Bool) :=
  (i_isPlaces a_K).bind fun r0 =>
  bif r0 then
    (i_inside a_N (-1099511627776) 1099511627776).bind fun r1 =>
    bif r1 then
      bif decide (a_K = 0) then
        some true
      else
        some (!decide (Int.tmod a_N 2 = 0))
    else
      some false
  else
    some false
theorem Mi_isDyadic (k : Nat) (a_N : Int) (a_K : Int) : Le (f190 k a_N a_K) (f190 (k + 1) a_N a_K) := by
  unfold f190
  repeat' first | with_reducible exact Le.rfl _ | with_reducible exact Mi_inside _ _ _ _ | with_reducible exact Mi_isPlaces _ _ | with_reducible refine Le.cond ?_ ?_ | with_reducible refine Le.bind ?_ fun _ => ?_
theorem Ri_isDyadic (a_N : Int) (a_K : Int) : Lim (fun k => f190 k a_N a_K) (i_isDyadic a_N a_K) := by
  unfold f190 i_isDyadic
  repeat' first | with_reducible exact Lim.ret _ | with_reducible exact Ri_inside _ _ _ | with_reducible exact Ri_isPlaces _ | with_reducible refine Lim.cond ?_ ?_ | with_reducible refine Lim.bind ?_ fun _ => ?_

-- impl.size
noncomputable def i_size (n : Int) : Option (Int) :=
  bif decide (n < 0) then
    some (IntKind.wrap IntKind.u64 (IntKind.wrap IntKind.i64 (0 - n)))
  else
    some (IntKind.wrap IntKind.u64 n)
theorem Mi_size (k : Nat) (n : Int) : Le (f234 k n) (f234 (k + 1) n) := by
  unfold f234
  repeat' first | with_reducible exact Le.rfl _ | with_reducible refine Le.cond ?_ ?_ | with_reducible refine Le.bind ?_ fun _ => ?_
theorem Ri_size (n : Int) : Lim (fun k => f234 k n) (i_size n) := by
  unfold f234 i_size
  repeat' first | with_reducible exact Lim.ret _ | with_reducible refine Lim.cond ?_ ?_ | with_reducible refine Lim.bind ?_ fun _ => ?_

-- impl.wideOf
noncomputable def i_wideOf (n : Int) : Option (Bool × Int × Int) :=
  (i_size n).bind fun r0 =>
  some ((decide (n < 0), 0, r0))
theorem Mi_wideOf (k : Nat) (n : Int) : Le (f173 k n) (f173 (k + 1) n) := by
  unfold f173
  repeat' first | with_reducible exact Le.rfl _ | with_reducible exact Mi_size _ _ | with_reducible refine Le.cond ?_ ?_ | with_reducible refine Le.bind ?_ fun _ => ?_
theorem Ri_wideOf (n : Int) : Lim (fun k => f173 k n) (i_wideOf n) := by
  unfold f173 i_wideOf
  repeat' first | with_reducible exact Lim.ret _ | with_reducible exact Ri_size _ | with_reducible refine Lim.cond ?_ ?_ | with_reducible refine Lim.bind ?_ fun _ => ?_

-- impl.wide).shift
noncomputable def i_wide_shift (w_negative : Bool) (w_high : Int) (w_low : Int) (k_ : Int) : Option (Bool × Int × Int) :=
  bif decide (0 ≤ k_) then
    bif decide (64 ≤ k_) then
      bif !decide (IntKind.wrap IntKind.i64 (k_ - 64) < 0) then
        some ((w_negative, IntKind.wrap IntKind.u64 (w_low * 2 ^ min (Int.toNat (IntKind.wrap IntKind.i64 (k_ - 64))) (IntKind.bits IntKind.u64)), 0))
      else
        none
    else
      bif !decide (k_ < 0) then
        bif !decide (IntKind.wrap IntKind.i64 (64 - k_) < 0) then
          bif !decide (k_ < 0) then
            some ((w_negative, IntKind.wrap IntKind.u64 (↑(BitVec.toNat (BitVec.ofInt (IntKind.bits IntKind.u64) (IntKind.wrap IntKind.u64 (w_high * 2 ^ min (Int.toNat k_) (IntKind.bits IntKind.u64))) ||| BitVec.ofInt (IntKind.bits IntKind.u64) (Int.fdiv w_low (2 ^ min (Int.toNat (IntKind.wrap IntKind.i64 (64 - k_))) (IntKind.bits IntKind.u64))))) : Int), IntKind.wrap IntKind.u64 (w_low * 2 ^ min (Int.toNat k_) (IntKind.bits IntKind.u64))))
          else
            none
        else
          none
      else
        none
  else
    bif decide (64 ≤ IntKind.wrap IntKind.i64 (0 - k_)) then
      bif !decide (IntKind.wrap IntKind.i64 (IntKind.wrap IntKind.i64 (0 - k_) - 64) < 0) then
        some ((w_negative, 0, Int.fdiv w_high (2 ^ min (Int.toNat (IntKind.wrap IntKind.i64 (IntKind.wrap IntKind.i64 (0 - k_) - 64))) (IntKind.bits IntKind.u64))))
      else
        none
    else
      bif !decide (IntKind.wrap IntKind.i64 (0 - k_) < 0) then
        bif !decide (IntKind.wrap IntKind.i64 (0 - k_) < 0) then
          bif !decide (IntKind.wrap IntKind.i64 (64 - IntKind.wrap IntKind.i64 (0 - k_)) < 0) then
            some ((w_negative, Int.fdiv w_high (2 ^ min (Int.toNat (IntKind.wrap IntKind.i64 (0 - k_))) (IntKind.bits IntKind.u64)), IntKind.wrap IntKind.u64 (↑(BitVec.toNat (BitVec.ofInt (IntKind.bits IntKind.u64) (Int.fdiv w_low (2 ^ min (Int.toNat (IntKind.wrap IntKind.i64 (0 - k_))) (IntKind.bits IntKind.u64))) ||| BitVec.ofInt (IntKind.bits IntKind.u64) (IntKind.wrap IntKind.u64 (w_high * 2 ^ min (Int.toNat (IntKind.wrap IntKind.i64 (64 - IntKind.wrap IntKind.i64 (0 - k_)))) (IntKind.bits IntKind.u64))))) : Int)))
          else
            none
        else
          none
      else
        none
theorem Mi_wide_shift (k : Nat) (w_negative : Bool) (w_high : Int) (w_low : Int) (k_ : Int) : Le (f196 k w_negative w_high w_low k_) (f196 (k + 1) w_negative w_high w_low k_) := by
  unfold f196
  repeat' first | with_reducible exact Le.rfl _ | with_reducible refine Le.cond ?_ ?_ | with_reducible refine Le.bind ?_ fun _ => ?_
theorem Ri_wide_shift (w_negative : Bool) (w_high : Int) (w_low : Int) (k_ : Int) : Lim (fun k => f196 k w_negative w_high w_low k_) (i_wide_shift w_negative w_high w_low k_) := by
  unfold f196 i_wide_shift
  repeat' first | with_reducible exact Lim.ret _ | with_reducible refine Lim.cond ?_ ?_ | with_reducible refine Lim.bind ?_ fun _ => ?_

-- impl.wide).isZero
noncomputable def i_wide_isZero (w_negative : Bool) (w_high : Int) (w_low : Int) : Option (Bool) :=
  bif decide (w_high = 0) then
    some (decide (w_low = 0))
  else
    some false
theorem Mi_wide_isZero (k : Nat) (w_negative : Bool) (w_high : Int) (w_low : Int) : Le (f235 k w_negative w_high w_low) (f235 (k + 1) w_negative w_high w_low) := by
  unfold f235
  repeat' first | with_reducible exact Le.rfl _ | with_reducible refine Le.cond ?_ ?_ | with_reducible refine Le.bind ?_ fun _ => ?_
theorem Ri_wide_isZero (w_negative : Bool) (w_high : Int) (w_low : Int) : Lim (fun k => f235 k w_negative w_high w_low) (i_wide_isZero w_negative w_high w_low) := by
  unfold f235 i_wide_isZero
  repeat' first | with_reducible exact Lim.ret _ | with_reducible refine Lim.cond ?_ ?_ | with_reducible refine Lim.bind ?_ fun _ => ?_

-- cmp.Or[int]
theorem MFcmp_Or_int_1003 (k : Nat) {r1003 q1003 : Int → List Int → Int → Int → Option (Int)} (h1003 : ∀ (zero : Int) (t6 : List Int) (t7 : Int) (t8 : Int), Le (r1003 zero t6 t7 t8) (q1003 zero t6 t7 t8)) (zero : Int) (t6 : List Int) (t7 : Int) (t8 : Int) : Le (F275_1003 k r1003 zero t6 t7 t8) (F275_1003 (k + 1) q1003 zero t6 t7 t8) := by
  unfold F275_1003
  repeat' first | with_reducible exact Le.rfl _ | with_reducible exact h1003 _ _ _ _ | with_reducible refine Le.cond ?_ ?_ | with_reducible refine Le.bind ?_ fun _ => ?_
theorem Mlcmp_Or_int : ∀ k : Nat, ∀ (zero : Int) (t6 : List Int) (t7 : Int) (t8 : Int), Le ((l275 k) zero t6 t7 t8) ((l275 (k + 1)) zero t6 t7 t8)
  | 0 => fun zero t6 t7 t8 => Le.no _
  | k + 1 => by
    have h := Mlcmp_Or_int k
    exact fun zero t6 t7 t8 => MFcmp_Or_int_1003 k h zero t6 t7 t8
noncomputable def cmp_Or_int_1003 (zero : Int) (t6 : List Int) (t7 : Int) (t8 : Int) : Option (Int) := lim fun k => (l275 k) zero t6 t7 t8
theorem Rlcmp_Or_int_1003 (zero : Int) (t6 : List Int) (t7 : Int) (t8 : Int) : Lim (fun k => (l275 k) zero t6 t7 t8) (cmp_Or_int_1003 zero t6 t7 t8) := Lim.of_mono fun k => Mlcmp_Or_int k zero t6 t7 t8
theorem Ecmp_Or_int_1003 (zero : Int) (t6 : List Int) (t7 : Int) (t8 : Int) : cmp_Or_int_1003 zero t6 t7 t8 =
  bif decide (t8 < t7) then
    bif boundA t8 (List.length t6) then
      bif !decide (List.getD t6 (Int.toNat t8) 0 = zero) then
        some (List.getD t6 (Int.toNat t8) 0)
      else
        cmp_Or_int_1003 zero t6 t7 (IntKind.wrap IntKind.i64 (t8 + 1))
    else
      none
  else
    some zero := by
  refine Lim.uniq (Lim.shift (Rlcmp_Or_int_1003 zero t6 t7 t8)) (?_ : Lim (fun k => F275_1003 k ((l275 k)) zero t6 t7 t8) _)
  unfold F275_1003
  repeat' first | with_reducible exact Lim.ret _ | with_reducible exact Rlcmp_Or_int_1003 _ _ _ _ | with_reducible refine Lim.cond ?_ ?_ | with_reducible refine Lim.bind ?_ fun _ => ?_
noncomputable def cmp_Or_int (vals : List (Int)) : Option (Int) :=
  cmp_Or_int_1003 (0) vals ((↑(List.length vals) : Int)) (0)
theorem Mcmp_Or_int (k : Nat) (vals : List (Int)) : Le (f275 k vals) (f275 (k + 1) vals) := by
  have h := Mlcmp_Or_int k
  unfold f275 F275
  repeat' first | with_reducible exact Le.rfl _ | with_reducible exact h _ _ _ _ | with_reducible refine Le.cond ?_ ?_ | with_reducible refine Le.bind ?_ fun _ => ?_
theorem Rcmp_Or_int (vals : List (Int)) : Lim (fun k => f275 k vals) (cmp_Or_int vals) := by
  unfold f275 F275 cmp_Or_int
  repeat' first | with_reducible exact Lim.ret _ | with_reducible exact Rlcmp_Or_int_1003 _ _ _ _ | with_reducible refine Lim.cond ?_ ?_ | with_reducible refine Lim.bind ?_ fun _ => ?_

-- cmp.isNaN[uint64]
noncomputable def cmp_isNaN_uint64 (x : Int) : Option (Bool) :=
  some (!decide (x = x))
theorem Mcmp_isNaN_uint64 (k : Nat) (x : Int) : Le (f287 k x) (f287 (k + 1) x) := by
  unfold f287
  repeat' first | with_reducible exact Le.rfl _ | with_reducible refine Le.cond ?_ ?_ | with_reducible refine Le.bind ?_ fun _ => ?_
theorem Rcmp_isNaN_uint64 (x : Int) : Lim (fun k => f287 k x) (cmp_isNaN_uint64 x) := by
  unfold f287 cmp_isNaN_uint64
  repeat' first | with_reducible exact Lim.ret _ | with_reducible refine Lim.cond ?_ ?_ | with_reducible refine Lim.bind ?_ fun _ => ?_

-- cmp.Compare[uint64]
noncomputable def cmp_Compare_uint64 (x : Int) (y : Int) : Option (Int) :=
  bif !decide (x = x) then
    bif !decide (y = y) then
      some (0)
    else
      some (-1)
  else
    bif !decide (y = y) then
      some (1)
    else
      bif decide (x < y) then
        some (-1)
      else
        bif decide (y < x) then
          some (1)
        else
          some (0)
theorem Mcmp_Compare_uint64 (k : Nat) (x : Int) (y : Int) : Le (f276 k x y) (f276 (k + 1) x y) := by
  unfold f276
  repeat' first | with_reducible exact Le.rfl _ | with_reducible refine Le.cond ?_ ?_ | with_reducible refine Le.bind ?_ fun _ => ?_
theorem Rcmp_Compare_uint64 (x : Int) (y : Int) : Lim (fun k => f276 k x y) (cmp_Compare_uint64 x y) := by
  unfold f276 cmp_Compare_uint64
  repeat' first | with_reducible exact Lim.ret _ | with_reducible refine Lim.cond ?_ ?_ | with_reducible refine Lim.bind ?_ fun _ => ?_

-- impl.compareSizes
noncomputable def i_compareSizes (a_negative : Bool) (a_high : Int) (a_low : Int) (b_negative : Bool) (b_high : Int) (b_low : Int) : Option (Int) :=
  (cmp_Compare_uint64 a_high b_high).bind fun r0 =>
  (cmp_Compare_uint64 a_low b_low).bind fun r1 =>
  (cmp_Or_int [r0, r1]).bind fun r2 =>
  some r2
theorem Mi_compareSizes (k : Nat) (a_negative : Bool) (a_high : Int) (a_low : Int) (b_negative : Bool) (b_high : Int) (b_low : Int) : Le (f246 k a_negative a_high a_low b_negative b_high b_low) (f246 (k + 1) a_negative a_high a_low b_negative b_high b_low) := by
  unfold f246
  repeat' first | with_reducible exact Le.rfl _ | with_reducible exact Mcmp_Or_int _ _ | with_reducible exact Mcmp_Compare_uint64 _ _ _ | with_reducible refine Le.cond ?_ ?_ | with_reducible refine Le.bind ?_ fun _ => ?_
theorem Ri_compareSizes (a_negative : Bool) (a_high : Int) (a_low : Int) (b_negative : Bool) (b_high : Int) (b_low : Int) : Lim (fun k => f246 k a_negative a_high a_low b_negative b_high b_low) (i_compareSizes a_negative a_high a_low b_negative b_high b_low) := by
  unfold f246 i_compareSizes
  repeat' first | with_reducible exact Lim.ret _ | with_reducible exact Rcmp_Or_int _ | with_reducible exact Rcmp_Compare_uint64 _ _ | with_reducible refine Lim.cond ?_ ?_ | with_reducible refine Lim.bind ?_ fun _ => ?_

-- impl.compareWide
noncomputable def i_compareWide (a_negative : Bool) (a_high : Int) (a_low : Int) (b_negative : Bool) (b_high : Int) (b_low : Int) : Option (Int) :=
  (i_wide_isZero a_negative a_high a_low).bind fun r0 =>
  bif r0 then
    (i_wide_isZero b_negative b_high b_low).bind fun r1 =>
    bif r1 then
      some (0)
    else
      bif !a_negative == b_negative then
        bif a_negative then
          some (-1)
        else
          some (1)
      else
        bif a_negative then
          (i_compareSizes b_negative b_high b_low a_negative a_high a_low).bind fun r2 =>
          some r2
        else
          (i_compareSizes a_negative a_high a_low b_negative b_high b_low).bind fun r3 =>
          some r3
  else
    bif !a_negative == b_negative then
      bif a_negative then
        some (-1)
      else
        some (1)
    else
      bif a_negative then
        (i_compareSizes b_negative b_high b_low a_negative a_high a_low).bind fun r4 =>
        some r4
      else
        (i_compareSizes a_negative a_high a_low b_negative b_high b_low).bind fun r5 =>
        some r5
theorem Mi_compareWide (k : Nat) (a_negative : Bool) (a_high : Int) (a_low : Int) (b_negative : Bool) (b_high : Int) (b_low : Int) : Le (f240 k a_negative a_high a_low b_negative b_high b_low) (f240 (k + 1) a_negative a_high a_low b_negative b_high b_low) := by
  unfold f240
  repeat' first | with_reducible exact Le.rfl _ | with_reducible exact Mi_wide_isZero _ _ _ _ | with_reducible exact Mi_compareSizes _ _ _ _ _ _ _ | with_reducible refine Le.cond ?_ ?_ | with_reducible refine Le.bind ?_ fun _ => ?_
theorem Ri_compareWide (a_negative : Bool) (a_high : Int) (a_low : Int) (b_negative : Bool) (b_high : Int) (b_low : Int) : Lim (fun k => f240 k a_negative a_high a_low b_negative b_high b_low) (i_compareWide a_negative a_high a_low b_negative b_high b_low) := by
  unfold f240 i_compareWide
  repeat' first | with_reducible exact Lim.ret _ | with_reducible exact Ri_wide_isZero _ _ _ | with_reducible exact Ri_compareSizes _ _ _ _ _ _ | with_reducible refine Lim.cond ?_ ?_ | with_reducible refine Lim.bind ?_ fun _ => ?_

-- impl.compareD
noncomputable def i_compareD (a_N : Int) (a_K : Int) (b_N : Int) (b_K : Int) : Option (Int) :=
  (i_wideOf a_N).bind fun r0 =>
  (i_wide_shift r0.fst r0.snd.fst r0.snd.snd (IntKind.wrap IntKind.i64 ((bif decide (a_K < b_K) then b_K else a_K) - a_K))).bind fun r1 =>
  (i_wideOf b_N).bind fun r2 =>
  (i_wide_shift r2.fst r2.snd.fst r2.snd.snd (IntKind.wrap IntKind.i64 ((bif decide (a_K < b_K) then b_K else a_K) - b_K))).bind fun r3 =>
  (i_compareWide r1.fst r1.snd.fst r1.snd.snd r3.fst r3.snd.fst r3.snd.snd).bind fun r4 =>
  some r4
theorem Mi_compareD (k : Nat) (a_N : Int) (a_K : Int) (b_N : Int) (b_K : Int) : Le (f191 k a_N a_K b_N b_K) (f191 (k + 1) a_N a_K b_N b_K) := by
  unfold f191
  repeat' first | with_reducible exact Le.rfl _ | with_reducible exact Mi_wideOf _ _ | with_reducible exact Mi_wide_shift _ _ _ _ _ | with_reducible exact Mi_compareWide _ _ _ _ _ _ _ | with_reducible refine Le.cond ?_ ?_ | with_reducible refine Le.bind ?_ fun _ => ?_
theorem Ri_compareD (a_N : Int) (a_K : Int) (b_N : Int) (b_K : Int) : Lim (fun k => f191 k a_N a_K b_N b_K) (i_compareD a_N a_K b_N b_K) := by
  unfold f191 i_compareD
  repeat' first | with_reducible exact Lim.ret _ | with_reducible exact Ri_wideOf _ | with_reducible exact Ri_wide_shift _ _ _ _ | with_reducible exact Ri_compareWide _ _ _ _ _ _ | with_reducible refine Lim.cond ?_ ?_ | with_reducible refine Lim.bind ?_ fun _ => ?_

-- impl.isInterval
noncomputable def i_isInterval (i_Low_N : Int) (i_Low_K : Int) (i_High_N : Int) (i_High_K : Int) : Option (Bool) :=
  (i_isDyadic i_Low_N i_Low_K).bind fun r0 =>
  bif r0 then
    (i_isDyadic i_High_N i_High_K).bind fun r1 =>
    bif r1 then
      (i_compareD i_Low_N i_Low_K i_High_N i_High_K).bind fun r2 =>
      some (decide (r2 ≤ 0))
    else
      some false
  else
    some false
theorem Mi_isInterval (k : Nat) (i_Low_N : Int) (i_Low_K : Int) (i_High_N : Int) (i_High_K : Int) : Le (f129 k i_Low_N i_Low_K i_High_N i_High_K) (f129 (k + 1) i_Low_N i_Low_K i_High_N i_High_K) := by
  unfold f129
  repeat' first | with_reducible exact Le.rfl _ | with_reducible exact Mi_isDyadic _ _ _ | with_reducible exact Mi_compareD _ _ _ _ _ | with_reducible refine Le.cond ?_ ?_ | with_reducible refine Le.bind ?_ fun _ => ?_
theorem Ri_isInterval (i_Low_N : Int) (i_Low_K : Int) (i_High_N : Int) (i_High_K : Int) : Lim (fun k => f129 k i_Low_N i_Low_K i_High_N i_High_K) (i_isInterval i_Low_N i_Low_K i_High_N i_High_K) := by
  unfold f129 i_isInterval
  repeat' first | with_reducible exact Lim.ret _ | with_reducible exact Ri_isDyadic _ _ | with_reducible exact Ri_compareD _ _ _ _ | with_reducible refine Lim.cond ?_ ?_ | with_reducible refine Lim.bind ?_ fun _ => ?_

-- impl.integer
noncomputable def i_integer (n : Int) : Option (Int × Int) :=
  some ((n, 0))
theorem Mi_integer (k : Nat) (n : Int) : Le (f178 k n) (f178 (k + 1) n) := by
  unfold f178
  repeat' first | with_reducible exact Le.rfl _ | with_reducible refine Le.cond ?_ ?_ | with_reducible refine Le.bind ?_ fun _ => ?_
theorem Ri_integer (n : Int) : Lim (fun k => f178 k n) (i_integer n) := by
  unfold f178 i_integer
  repeat' first | with_reducible exact Lim.ret _ | with_reducible refine Lim.cond ?_ ?_ | with_reducible refine Lim.bind ?_ fun _ => ?_

-- impl.inRange
noncomputable def i_inRange (a_N : Int) (a_K : Int) : Option (Bool) :=
  (i_compareD (-8) 0 a_N a_K).bind fun r0 =>
  bif decide (r0 ≤ 0) then
    (i_compareD a_N a_K 8 0).bind fun r1 =>
    some (decide (r1 ≤ 0))
  else
    some false
theorem Mi_inRange (k : Nat) (a_N : Int) (a_K : Int) : Le (f130 k a_N a_K) (f130 (k + 1) a_N a_K) := by
  unfold f130
  repeat' first | with_reducible exact Le.rfl _ | with_reducible exact Mi_compareD _ _ _ _ _ | with_reducible refine Le.cond ?_ ?_ | with_reducible refine Le.bind ?_ fun _ => ?_
theorem Ri_inRange (a_N : Int) (a_K : Int) : Lim (fun k => f130 k a_N a_K) (i_inRange a_N a_K) := by
  unfold f130 i_inRange
  repeat' first | with_reducible exact Lim.ret _ | with_reducible exact Ri_compareD _ _ _ _ | with_reducible refine Lim.cond ?_ ?_ | with_reducible refine Lim.bind ?_ fun _ => ?_

-- impl.isFit
noncomputable def i_isFit (i_Low_N : Int) (i_Low_K : Int) (i_High_N : Int) (i_High_K : Int) : Option (Bool) :=
  (i_isInterval i_Low_N i_Low_K i_High_N i_High_K).bind fun r0 =>
  bif r0 then
    (i_inRange i_Low_N i_Low_K).bind fun r1 =>
    bif r1 then
      (i_inRange i_High_N i_High_K).bind fun r2 =>
      bif r2 then
        bif decide (i_Low_K ≤ 5) then
          bif decide (i_High_K ≤ 5) then
            some (!(decide (i_Low_N = i_High_N) && (decide (i_Low_K = i_High_K) && true)))
          else
            some false
        else
          some false
      else
        some false
    else
      some false
  else
    some false
theorem Mi_isFit (k : Nat) (i_Low_N : Int) (i_Low_K : Int) (i_High_N : Int) (i_High_K : Int) : Le (f74 k i_Low_N i_Low_K i_High_N i_High_K) (f74 (k + 1) i_Low_N i_Low_K i_High_N i_High_K) := by
  unfold f74
  repeat' first | with_reducible exact Le.rfl _ | with_reducible exact Mi_isInterval _ _ _ _ _ | with_reducible exact Mi_inRange _ _ _ | with_reducible refine Le.cond ?_ ?_ | with_reducible refine Le.bind ?_ fun _ => ?_
theorem Ri_isFit (i_Low_N : Int) (i_Low_K : Int) (i_High_N : Int) (i_High_K : Int) : Lim (fun k => f74 k i_Low_N i_Low_K i_High_N i_High_K) (i_isFit i_Low_N i_Low_K i_High_N i_High_K) := by
  unfold f74 i_isFit
  repeat' first | with_reducible exact Lim.ret _ | with_reducible exact Ri_isInterval _ _ _ _ | with_reducible exact Ri_inRange _ _ | with_reducible refine Lim.cond ?_ ?_ | with_reducible refine Lim.bind ?_ fun _ => ?_

-- impl.isMoment
noncomputable def i_isMoment (i : Int) (fine : Int) : Option (Bool) :=
  bif !decide (fine < 0) then
    (i_inside i 0 (IntKind.wrap IntKind.i64 (1 * 2 ^ min (Int.toNat fine) (IntKind.bits IntKind.i64)))).bind fun r0 =>
    some r0
  else
    none
theorem Mi_isMoment (k : Nat) (i : Int) (fine : Int) : Le (f75 k i fine) (f75 (k + 1) i fine) := by
  unfold f75
  repeat' first | with_reducible exact Le.rfl _ | with_reducible exact Mi_inside _ _ _ _ | with_reducible refine Le.cond ?_ ?_ | with_reducible refine Le.bind ?_ fun _ => ?_
theorem Ri_isMoment (i : Int) (fine : Int) : Lim (fun k => f75 k i fine) (i_isMoment i fine) := by
  unfold f75 i_isMoment
  repeat' first | with_reducible exact Lim.ret _ | with_reducible exact Ri_inside _ _ _ | with_reducible refine Lim.cond ?_ ?_ | with_reducible refine Lim.bind ?_ fun _ => ?_

-- impl.long).times
theorem MFi_long_times_1004 (k : Nat) {r1004 q1004 : Int → Bool → Bool → List Int → Int → List Int → Int → Int → Option (Bool × List (Int))} (h1004 : ∀ (n : Int) (t4s_0 : Bool) (outs_0 : Bool) (outs : List Int) (carry : Int) (t16 : List Int) (t17 : Int) (t18 : Int), Le (r1004 n t4s_0 outs_0 outs carry t16 t17 t18) (q1004 n t4s_0 outs_0 outs carry t16 t17 t18)) (n : Int) (t4s_0 : Bool) (outs_0 : Bool) (outs : List Int) (carry : Int) (t16 : List Int) (t17 : Int) (t18 : Int) : Le (F192_1004 k r1004 n t4s_0 outs_0 outs carry t16 t17 t18) (F192_1004 (k + 1) q1004 n t4s_0 outs_0 outs carry t16 t17 t18) := by
  unfold F192_1004
  repeat' first | with_reducible exact Le.rfl _ | with_reducible exact Mi_size _ _ | with_reducible exact h1004 _ _ _ _ _ _ _ _ | with_reducible refine Le.cond ?_ ?_ | with_reducible refine Le.bind ?_ fun _ => ?_
theorem Mli_long_times : ∀ k : Nat, ∀ (n : Int) (t4s_0 : Bool) (outs_0 : Bool) (outs : List Int) (carry : Int) (t16 : List Int) (t17 : Int) (t18 : Int), Le ((l192 k) n t4s_0 outs_0 outs carry t16 t17 t18) ((l192 (k + 1)) n t4s_0 outs_0 outs carry t16 t17 t18)
  | 0 => fun n t4s_0 outs_0 outs carry t16 t17 t18 => Le.no _
  | k + 1 => by
    have h := Mli_long_times k
    exact fun n t4s_0 outs_0 outs carry t16 t17 t18 => MFi_long_times_1004 k h n t4s_0 outs_0 outs carry t16 t17 t18
noncomputable def i_long_times_1004 (n : Int) (t4s_0 : Bool) (outs_0 : Bool) (outs : List Int) (carry : Int) (t16 : List Int) (t17 : Int) (t18 : Int) : Option (Bool × List (Int)) := lim fun k => (l192 k) n t4s_0 outs_0 outs carry t16 t17 t18
theorem Rli_long_times_1004 (n : Int) (t4s_0 : Bool) (outs_0 : Bool) (outs : List Int) (carry : Int) (t16 : List Int) (t17 : Int) (t18 : Int) : Lim (fun k => (l192 k) n t4s_0 outs_0 outs carry t16 t17 t18) (i_long_times_1004 n t4s_0 outs_0 outs carry t16 t17 t18) := Lim.of_mono fun k => Mli_long_times k n t4s_0 outs_0 outs carry t16 t17 t18
theorem Ei_long_times_1004 (n : Int) (t4s_0 : Bool) (outs_0 : Bool) (outs : List Int) (carry : Int) (t16 : List Int) (t17 : Int) (t18 : Int) : i_long_times_1004 n t4s_0 outs_0 outs carry t16 t17 t18 =
  bif decide (t18 < t17) then
    bif boundA t18 (List.length t16) then
      (i_size n).bind fun r0 =>
      bif decide ((List.length outs + List.length [IntKind.wrap IntKind.u32 (IntKind.wrap IntKind.u64 (carry + IntKind.wrap IntKind.u64 (IntKind.wrap IntKind.u64 (List.getD t16 (Int.toNat t18) 0) * r0)))]) * 4 ≤ 140737488355328) then
        i_long_times_1004 n t4s_0 outs_0 (outs ++ [IntKind.wrap IntKind.u32 (IntKind.wrap IntKind.u64 (carry + IntKind.wrap IntKind.u64 (IntKind.wrap IntKind.u64 (List.getD t16 (Int.toNat t18) 0) * r0)))]) (Int.fdiv (IntKind.wrap IntKind.u64 (carry + IntKind.wrap IntKind.u64 (IntKind.wrap IntKind.u64 (List.getD t16 (Int.toNat t18) 0) * r0))) (2 ^ min (Int.toNat 32) (IntKind.bits IntKind.u64))) t16 t17 (IntKind.wrap IntKind.i64 (t18 + 1))
      else
        none
    else
      none
  else
    bif decide ((List.length outs + List.length [IntKind.wrap IntKind.u32 carry]) * 4 ≤ 140737488355328) then
      some ((outs_0, outs ++ [IntKind.wrap IntKind.u32 carry]))
    else
      none := by
  refine Lim.uniq (Lim.shift (Rli_long_times_1004 n t4s_0 outs_0 outs carry t16 t17 t18)) (?_ : Lim (fun k => F192_1004 k ((l192 k)) n t4s_0 outs_0 outs carry t16 t17 t18) _)
  unfold F192_1004
  repeat' first | with_reducible exact Lim.ret _ | with_reducible exact Ri_size _ | with_reducible exact Rli_long_times_1004 _ _ _ _ _ _ _ _ | with_reducible refine Lim.cond ?_ ?_ | with_reducible refine Lim.bind ?_ fun _ => ?_
noncomputable def i_long_times (a_negative : Bool) (a_digits : List (Int)) (n : Int) : Option (Bool × List (Int)) :=
  i_long_times_1004 n false (!a_negative == decide (n < 0)) ([]) (0) a_digits ((↑(List.length a_digits) : Int)) (0)
theorem Mi_long_times (k : Nat) (a_negative : Bool) (a_digits : List (Int)) (n : Int) : Le (f192 k a_negative a_digits n) (f192 (k + 1) a_negative a_digits n) := by
  have h := Mli_long_times k
  unfold f192 F192
  repeat' first | with_reducible exact Le.rfl _ | with_reducible exact h _ _ _ _ _ _ _ _ | with_reducible refine Le.cond ?_ ?_ | with_reducible refine Le.bind ?_ fun _ => ?_
theorem Ri_long_times (a_negative : Bool) (a_digits : List (Int)) (n : Int) : Lim (fun k => f192 k a_negative a_digits n) (i_long_times a_negative a_digits n) := by
  unfold f192 F192 i_long_times
  repeat' first | with_reducible exact Lim.ret _ | with_reducible exact Rli_long_times_1004 _ _ _ _ _ _ _ _ | with_reducible refine Lim.cond ?_ ?_ | with_reducible refine Lim.bind ?_ fun _ => ?_

-- impl.long).digit
noncomputable def i_long_digit (a_negative : Bool) (a_digits : List (Int)) (i : Int) : Option (Int) :=
  bif decide (i < (↑(List.length a_digits) : Int)) then
    bif boundA i (List.length a_digits) then
      some (List.getD a_digits (Int.toNat i) 0)
    else
      none
  else
    some (0)
theorem Mi_long_digit (k : Nat) (a_negative : Bool) (a_digits : List (Int)) (i : Int) : Le (f242 k a_negative a_digits i) (f242 (k + 1) a_negative a_digits i) := by
  unfold f242
  repeat' first | with_reducible exact Le.rfl _ | with_reducible refine Le.cond ?_ ?_ | with_reducible refine Le.bind ?_ fun _ => ?_
theorem Ri_long_digit (a_negative : Bool) (a_digits : List (Int)) (i : Int) : Lim (fun k => f242 k a_negative a_digits i) (i_long_digit a_negative a_digits i) := by
  unfold f242 i_long_digit
  repeat' first | with_reducible exact Lim.ret _ | with_reducible refine Lim.cond ?_ ?_ | with_reducible refine Lim.bind ?_ fun _ => ?_

-- cmp.isNaN[uint32]
noncomputable def cmp_isNaN_uint32 (x : Int) : Option (Bool) :=
  some (!decide (x = x))
theorem Mcmp_isNaN_uint32 (k : Nat) (x : Int) : Le (f286 k x) (f286 (k + 1) x) := by
  unfold f286
  repeat' first | with_reducible exact Le.rfl _ | with_reducible refine Le.cond ?_ ?_ | with_reducible refine Le.bind ?_ fun _ => ?_
theorem Rcmp_isNaN_uint32 (x : Int) : Lim (fun k => f286 k x) (cmp_isNaN_uint32 x) := by
  unfold f286 cmp_isNaN_uint32
  repeat' first | with_reducible exact Lim.ret _ | with_reducible refine Lim.cond ?_ ?_ | with_reducible refine Lim.bind ?_ fun _ => ?_

-- cmp.Compare[uint32]
noncomputable def cmp_Compare_uint32 (x : Int) (y : Int) : Option (Int) :=
  bif !decide (x = x) then
    bif !decide (y = y) then
      some (0)
    else
      some (-1)
  else
    bif !decide (y = y) then
      some (1)
    else
      bif decide (x < y) then
        some (-1)
      else
        bif decide (y < x) then
          some (1)
        else
          some (0)
theorem Mcmp_Compare_uint32 (k : Nat) (x : Int) (y : Int) : Le (f273 k x y) (f273 (k + 1) x y) := by
  unfold f273
  repeat' first | with_reducible exact Le.rfl _ | with_reducible refine Le.cond ?_ ?_ | with_reducible refine Le.bind ?_ fun _ => ?_
theorem Rcmp_Compare_uint32 (x : Int) (y : Int) : Lim (fun k => f273 k x y) (cmp_Compare_uint32 x y) := by
  unfold f273 cmp_Compare_uint32
  repeat' first | with_reducible exact Lim.ret _ | with_reducible refine Lim.cond ?_ ?_ | with_reducible refine Lim.bind ?_ fun _ => ?_

-- impl.compareDigits
theorem MFi_compareDigits_1002 (k : Nat) {r1002 q1002 : Bool → List Int → Bool → List Int → Int → Option (Int)} (h1002 : ∀ (as_0 : Bool) (as_1 : List Int) (bs_0 : Bool) (bs_1 : List Int) (i : Int), Le (r1002 as_0 as_1 bs_0 bs_1 i) (q1002 as_0 as_1 bs_0 bs_1 i)) (as_0 : Bool) (as_1 : List Int) (bs_0 : Bool) (bs_1 : List Int) (i : Int) : Le (F241_1002 k r1002 as_0 as_1 bs_0 bs_1 i) (F241_1002 (k + 1) q1002 as_0 as_1 bs_0 bs_1 i) := by
  unfold F241_1002
  repeat' first | with_reducible exact Le.rfl _ | with_reducible exact Mi_long_digit _ _ _ _ | with_reducible exact Mcmp_Compare_uint32 _ _ _ | with_reducible exact h1002 _ _ _ _ _ | with_reducible refine Le.cond ?_ ?_ | with_reducible refine Le.bind ?_ fun _ => ?_
theorem Mli_compareDigits : ∀ k : Nat, ∀ (as_0 : Bool) (as_1 : List Int) (bs_0 : Bool) (bs_1 : List Int) (i : Int), Le ((l241 k) as_0 as_1 bs_0 bs_1 i) ((l241 (k + 1)) as_0 as_1 bs_0 bs_1 i)
  | 0 => fun as_0 as_1 bs_0 bs_1 i => Le.no _
  | k + 1 => by
    have h := Mli_compareDigits k
    exact fun as_0 as_1 bs_0 bs_1 i => MFi_compareDigits_1002 k h as_0 as_1 bs_0 bs_1 i
noncomputable def i_compareDigits_1002 (as_0 : Bool) (as_1 : List Int) (bs_0 : Bool) (bs_1 : List Int) (i : Int) : Option (Int) := lim fun k => (l241 k) as_0 as_1 bs_0 bs_1 i
theorem Rli_compareDigits_1002 (as_0 : Bool) (as_1 : List Int) (bs_0 : Bool) (bs_1 : List Int) (i : Int) : Lim (fun k => (l241 k) as_0 as_1 bs_0 bs_1 i) (i_compareDigits_1002 as_0 as_1 bs_0 bs_1 i) := Lim.of_mono fun k => Mli_compareDigits k as_0 as_1 bs_0 bs_1 i
theorem Ei_compareDigits_1002 (as_0 : Bool) (as_1 : List Int) (bs_0 : Bool) (bs_1 : List Int) (i : Int) : i_compareDigits_1002 as_0 as_1 bs_0 bs_1 i =
  bif decide (0 ≤ i) then
    (i_long_digit as_0 as_1 i).bind fun r0 =>
    (i_long_digit bs_0 bs_1 i).bind fun r1 =>
    (cmp_Compare_uint32 r0 r1).bind fun r2 =>
    bif !decide (r2 = 0) then
      some r2
    else
      i_compareDigits_1002 as_0 as_1 bs_0 bs_1 (IntKind.wrap IntKind.i64 (i - 1))
  else
    some (0) := by
  refine Lim.uniq (Lim.shift (Rli_compareDigits_1002 as_0 as_1 bs_0 bs_1 i)) (?_ : Lim (fun k => F241_1002 k ((l241 k)) as_0 as_1 bs_0 bs_1 i) _)
  unfold F241_1002
  repeat' first | with_reducible exact Lim.ret _ | with_reducible exact Ri_long_digit _ _ _ | with_reducible exact Rcmp_Compare_uint32 _ _ | with_reducible exact Rli_compareDigits_1002 _ _ _ _ _ | with_reducible refine Lim.cond ?_ ?_ | with_reducible refine Lim.bind ?_ fun _ => ?_
noncomputable def i_compareDigits (a_negative : Bool) (a_digits : List (Int)) (b_negative : Bool) (b_digits : List (Int)) : Option (Int) :=
  i_compareDigits_1002 a_negative a_digits b_negative b_digits (IntKind.wrap IntKind.i64 ((bif decide ((↑(List.length a_digits) : Int) < (↑(List.length b_digits) : Int)) then (↑(List.length b_digits) : Int) else (↑(List.length a_digits) : Int)) - 1))
theorem Mi_compareDigits (k : Nat) (a_negative : Bool) (a_digits : List (Int)) (b_negative : Bool) (b_digits : List (Int)) : Le (f241 k a_negative a_digits b_negative b_digits) (f241 (k + 1) a_negative a_digits b_negative b_digits) := by
  have h := Mli_compareDigits k
  unfold f241 F241
  repeat' first | with_reducible exact Le.rfl _ | with_reducible exact h _ _ _ _ _ | with_reducible refine Le.cond ?_ ?_ | with_reducible refine Le.bind ?_ fun _ => ?_
theorem Ri_compareDigits (a_negative : Bool) (a_digits : List (Int)) (b_negative : Bool) (b_digits : List (Int)) : Lim (fun k => f241 k a_negative a_digits b_negative b_digits) (i_compareDigits a_negative a_digits b_negative b_digits) := by
  unfold f241 F241 i_compareDigits
  repeat' first | with_reducible exact Lim.ret _ | with_reducible exact Rli_compareDigits_1002 _ _ _ _ _ | with_reducible refine Lim.cond ?_ ?_ | with_reducible refine Lim.bind ?_ fun _ => ?_

-- impl.long).plus
theorem MFi_long_plus_1006 (k : Nat) {r1006 q1006 : Bool → List Int → Bool → List Int → Bool → Bool → List Int → Int → Int → Int → Option (Bool × List (Int))} (h1006 : ∀ (as_0 : Bool) (as_1 : List Int) (bs_0 : Bool) (bs_1 : List Int) (t4s_0 : Bool) (outs_0 : Bool) (outs : List Int) (carry : Int) (t21 : Int) (t22 : Int), Le (r1006 as_0 as_1 bs_0 bs_1 t4s_0 outs_0 outs carry t21 t22) (q1006 as_0 as_1 bs_0 bs_1 t4s_0 outs_0 outs carry t21 t22)) {r3 q3 : Bool → List Int → Bool → List Int → Bool → Option (Bool × List (Int))} (h3 : ∀ (as_0 : Bool) (as_1 : List Int) (bs_0 : Bool) (bs_1 : List Int) (t4s_0 : Bool), Le (r3 as_0 as_1 bs_0 bs_1 t4s_0) (q3 as_0 as_1 bs_0 bs_1 t4s_0)) (as_0 : Bool) (as_1 : List Int) (bs_0 : Bool) (bs_1 : List Int) (t4s_0 : Bool) (outs_0 : Bool) (outs : List Int) (carry : Int) (t21 : Int) (t22 : Int) : Le (F193_1006 k r1006 r3 as_0 as_1 bs_0 bs_1 t4s_0 outs_0 outs carry t21 t22) (F193_1006 (k + 1) q1006 q3 as_0 as_1 bs_0 bs_1 t4s_0 outs_0 outs carry t21 t22) := by
  unfold F193_1006
  repeat' first | with_reducible exact Le.rfl _ | with_reducible exact Mi_long_digit _ _ _ _ | with_reducible exact h1006 _ _ _ _ _ _ _ _ _ _ | with_reducible exact h3 _ _ _ _ _ | with_reducible refine Le.cond ?_ ?_ | with_reducible refine Le.bind ?_ fun _ => ?_
theorem MFi_long_plus_3 (k : Nat) {r1006 q1006 : Bool → List Int → Bool → List Int → Bool → Bool → List Int → Int → Int → Int → Option (Bool × List (Int))} (h1006 : ∀ (as_0 : Bool) (as_1 : List Int) (bs_0 : Bool) (bs_1 : List Int) (t4s_0 : Bool) (outs_0 : Bool) (outs : List Int) (carry : Int) (t21 : Int) (t22 : Int), Le (r1006 as_0 as_1 bs_0 bs_1 t4s_0 outs_0 outs carry t21 t22) (q1006 as_0 as_1 bs_0 bs_1 t4s_0 outs_0 outs carry t21 t22)) {r3 q3 : Bool → List Int → Bool → List Int → Bool → Option (Bool × List (Int))} (h3 : ∀ (as_0 : Bool) (as_1 : List Int) (bs_0 : Bool) (bs_1 : List Int) (t4s_0 : Bool), Le (r3 as_0 as_1 bs_0 bs_1 t4s_0) (q3 as_0 as_1 bs_0 bs_1 t4s_0)) (as_0 : Bool) (as_1 : List Int) (bs_0 : Bool) (bs_1 : List Int) (t4s_0 : Bool) : Le (F193_3 k r1006 r3 as_0 as_1 bs_0 bs_1 t4s_0) (F193_3 (k + 1) q1006 q3 as_0 as_1 bs_0 bs_1 t4s_0) := by
  unfold F193_3
  repeat' first | with_reducible exact Le.rfl _ | with_reducible exact h1006 _ _ _ _ _ _ _ _ _ _ | with_reducible exact h3 _ _ _ _ _ | with_reducible refine Le.cond ?_ ?_ | with_reducible refine Le.bind ?_ fun _ => ?_
theorem Mli_long_plus : ∀ k : Nat, (∀ (as_0 : Bool) (as_1 : List Int) (bs_0 : Bool) (bs_1 : List Int) (t4s_0 : Bool) (outs_0 : Bool) (outs : List Int) (carry : Int) (t21 : Int) (t22 : Int), Le ((l193 k).1 as_0 as_1 bs_0 bs_1 t4s_0 outs_0 outs carry t21 t22) ((l193 (k + 1)).1 as_0 as_1 bs_0 bs_1 t4s_0 outs_0 outs carry t21 t22)) ∧ (∀ (as_0 : Bool) (as_1 : List Int) (bs_0 : Bool) (bs_1 : List Int) (t4s_0 : Bool), Le ((l193 k).2 as_0 as_1 bs_0 bs_1 t4s_0) ((l193 (k + 1)).2 as_0 as_1 bs_0 bs_1 t4s_0))
  | 0 => ⟨fun as_0 as_1 bs_0 bs_1 t4s_0 outs_0 outs carry t21 t22 => Le.no _, fun as_0 as_1 bs_0 bs_1 t4s_0 => Le.no _⟩
  | k + 1 => by
    have h := Mli_long_plus k
    exact ⟨fun as_0 as_1 bs_0 bs_1 t4s_0 outs_0 outs carry t21 t22 => MFi_long_plus_1006 k h.1 h.2 as_0 as_1 bs_0 bs_1 t4s_0 outs_0 outs carry t21 t22, fun as_0 as_1 bs_0 bs_1 t4s_0 => MFi_long_plus_3 k h.1 h.2 as_0 as_1 bs_0 bs_1 t4s_0⟩
noncomputable def i_long_plus_1006 (as_0 : Bool) (as_1 : List Int) (bs_0 : Bool) (bs_1 : List Int) (t4s_0 : Bool) (outs_0 : Bool) (outs : List Int) (carry : Int) (t21 : Int) (t22 : Int) : Option (Bool × List (Int)) := lim fun k => (l193 k).1 as_0 as_1 bs_0 bs_1 t4s_0 outs_0 outs carry t21 t22
theorem Rli_long_plus_1006 (as_0 : Bool) (as_1 : List Int) (bs_0 : Bool) (bs_1 : List Int) (t4s_0 : Bool) (outs_0 : Bool) (outs : List Int) (carry : Int) (t21 : Int) (t22 : Int) : Lim (fun k => (l193 k).1 as_0 as_1 bs_0 bs_1 t4s_0 outs_0 outs carry t21 t22) (i_long_plus_1006 as_0 as_1 bs_0 bs_1 t4s_0 outs_0 outs carry t21 t22) := Lim.of_mono fun k => (Mli_long_plus k).1 as_0 as_1 bs_0 bs_1 t4s_0 outs_0 outs carry t21 t22
noncomputable def i_long_plus_3 (as_0 : Bool) (as_1 : List Int) (bs_0 : Bool) (bs_1 : List Int) (t4s_0 : Bool) : Option (Bool × List (Int)) := lim fun k => (l193 k).2 as_0 as_1 bs_0 bs_1 t4s_0
theorem Rli_long_plus_3 (as_0 : Bool) (as_1 : List Int) (bs_0 : Bool) (bs_1 : List Int) (t4s_0 : Bool) : Lim (fun k => (l193 k).2 as_0 as_1 bs_0 bs_1 t4s_0) (i_long_plus_3 as_0 as_1 bs_0 bs_1 t4s_0) := Lim.of_mono fun k => (Mli_long_plus k).2 as_0 as_1 bs_0 bs_1 t4s_0
theorem Ei_long_plus_1006 (as_0 : Bool) (as_1 : List Int) (bs_0 : Bool) (bs_1 : List Int) (t4s_0 : Bool) (outs_0 : Bool) (outs : List Int) (carry : Int) (t21 : Int) (t22 : Int) : i_long_plus_1006 as_0 as_1 bs_0 bs_1 t4s_0 outs_0 outs carry t21 t22 =
  bif decide (t22 < t21) then
    (i_long_digit as_0 as_1 t22).bind fun r0 =>
    bif as_0 == bs_0 then
      (i_long_digit bs_0 bs_1 t22).bind fun r1 =>
      bif decide ((List.length outs + List.length [IntKind.wrap IntKind.u32 (IntKind.wrap IntKind.i64 (IntKind.wrap IntKind.i64 (carry + IntKind.wrap IntKind.i64 r0) + IntKind.wrap IntKind.i64 r1))]) * 4 ≤ 140737488355328) then
        i_long_plus_1006 as_0 as_1 bs_0 bs_1 t4s_0 outs_0 (outs ++ [IntKind.wrap IntKind.u32 (IntKind.wrap IntKind.i64 (IntKind.wrap IntKind.i64 (carry + IntKind.wrap IntKind.i64 r0) + IntKind.wrap IntKind.i64 r1))]) (Int.fdiv (IntKind.wrap IntKind.i64 (IntKind.wrap IntKind.i64 (carry + IntKind.wrap IntKind.i64 r0) + IntKind.wrap IntKind.i64 r1)) (2 ^ min (Int.toNat 32) (IntKind.bits IntKind.i64))) t21 (IntKind.wrap IntKind.i64 (t22 + 1))
      else
        none
    else
      (i_long_digit bs_0 bs_1 t22).bind fun r2 =>
      bif decide ((List.length outs + List.length [IntKind.wrap IntKind.u32 (IntKind.wrap IntKind.i64 (IntKind.wrap IntKind.i64 (carry + IntKind.wrap IntKind.i64 r0) - IntKind.wrap IntKind.i64 r2))]) * 4 ≤ 140737488355328) then
        i_long_plus_1006 as_0 as_1 bs_0 bs_1 t4s_0 outs_0 (outs ++ [IntKind.wrap IntKind.u32 (IntKind.wrap IntKind.i64 (IntKind.wrap IntKind.i64 (carry + IntKind.wrap IntKind.i64 r0) - IntKind.wrap IntKind.i64 r2))]) (Int.fdiv (IntKind.wrap IntKind.i64 (IntKind.wrap IntKind.i64 (carry + IntKind.wrap IntKind.i64 r0) - IntKind.wrap IntKind.i64 r2)) (2 ^ min (Int.toNat 32) (IntKind.bits IntKind.i64))) t21 (IntKind.wrap IntKind.i64 (t22 + 1))
      else
        none
  else
    some ((outs_0, outs)) := by
  refine Lim.uniq (Lim.shift (Rli_long_plus_1006 as_0 as_1 bs_0 bs_1 t4s_0 outs_0 outs carry t21 t22)) (?_ : Lim (fun k => F193_1006 k ((l193 k).1) ((l193 k).2) as_0 as_1 bs_0 bs_1 t4s_0 outs_0 outs carry t21 t22) _)
  unfold F193_1006
  repeat' first | with_reducible exact Lim.ret _ | with_reducible exact Ri_long_digit _ _ _ | with_reducible exact Rli_long_plus_1006 _ _ _ _ _ _ _ _ _ _ | with_reducible exact Rli_long_plus_3 _ _ _ _ _ | with_reducible refine Lim.cond ?_ ?_ | with_reducible refine Lim.bind ?_ fun _ => ?_
theorem Ei_long_plus_3 (as_0 : Bool) (as_1 : List Int) (bs_0 : Bool) (bs_1 : List Int) (t4s_0 : Bool) : i_long_plus_3 as_0 as_1 bs_0 bs_1 t4s_0 =
  i_long_plus_1006 as_0 as_1 bs_0 bs_1 t4s_0 as_0 ([]) (0) (IntKind.wrap IntKind.i64 ((↑(List.length as_1) : Int) + 1)) (0) := by
  refine Lim.uniq (Lim.shift (Rli_long_plus_3 as_0 as_1 bs_0 bs_1 t4s_0)) (?_ : Lim (fun k => F193_3 k ((l193 k).1) ((l193 k).2) as_0 as_1 bs_0 bs_1 t4s_0) _)
  unfold F193_3
  repeat' first | with_reducible exact Lim.ret _ | with_reducible exact Rli_long_plus_1006 _ _ _ _ _ _ _ _ _ _ | with_reducible exact Rli_long_plus_3 _ _ _ _ _ | with_reducible refine Lim.cond ?_ ?_ | with_reducible refine Lim.bind ?_ fun _ => ?_
noncomputable def i_long_plus (a_negative : Bool) (a_digits : List (Int)) (b_negative : Bool) (b_digits : List (Int)) : Option (Bool × List (Int)) :=
  (i_compareDigits a_negative a_digits b_negative b_digits).bind fun r0 =>
  bif decide (r0 < 0) then
    i_long_plus_3 b_negative b_digits a_negative a_digits false
  else
    i_long_plus_3 a_negative a_digits b_negative b_digits false
theorem Mi_long_plus (k : Nat) (a_negative : Bool) (a_digits : List (Int)) (b_negative : Bool) (b_digits : List (Int)) : Le (f193 k a_negative a_digits b_negative b_digits) (f193 (k + 1) a_negative a_digits b_negative b_digits) := by
  have h := Mli_long_plus k
  unfold f193 F193
  repeat' first | with_reducible exact Le.rfl _ | with_reducible exact Mi_compareDigits _ _ _ _ _ | with_reducible exact h.1 _ _ _ _ _ _ _ _ _ _ | with_reducible exact h.2 _ _ _ _ _ | with_reducible refine Le.cond ?_ ?_ | with_reducible refine Le.bind ?_ fun _ => ?_
theorem Ri_long_plus (a_negative : Bool) (a_digits : List (Int)) (b_negative : Bool) (b_digits : List (Int)) : Lim (fun k => f193 k a_negative a_digits b_negative b_digits) (i_long_plus a_negative a_digits b_negative b_digits) := by
  unfold f193 F193 i_long_plus
  repeat' first | with_reducible exact Lim.ret _ | with_reducible exact Ri_compareDigits _ _ _ _ | with_reducible exact Rli_long_plus_1006 _ _ _ _ _ _ _ _ _ _ | with_reducible exact Rli_long_plus_3 _ _ _ _ _ | with_reducible refine Lim.cond ?_ ?_ | with_reducible refine Lim.bind ?_ fun _ => ?_

-- impl.longOf
noncomputable def i_longOf (n : Int) (k_ : Int) : Option (Bool × List (Int)) :=
  (i_size n).bind fun r0 =>
  bif !decide (Int.tmod k_ 32 < 0) then
    bif decide (0 < Int.tmod k_ 32) then
      (i_size n).bind fun r1 =>
      bif !decide (IntKind.wrap IntKind.i64 (64 - Int.tmod k_ 32) < 0) then
        bif decide (0 ≤ IntKind.wrap IntKind.i64 (Int.tdiv k_ 32)) then
          bif decide (IntKind.wrap IntKind.i64 (Int.tdiv k_ 32) ≤ IntKind.wrap IntKind.i64 (Int.tdiv k_ 32)) then
            bif decide (IntKind.wrap IntKind.i64 (Int.tdiv k_ 32) * (↑4 : Int) ≤ 140737488355328) then
              bif decide
  ((List.length
          (match none with
          | none => List.replicate (Int.toNat (IntKind.wrap IntKind.i64 (Int.tdiv k_ 32))) (dflt (Ty.int IntKind.u32))
          | some m => List.take m (List.replicate (Int.toNat (IntKind.wrap IntKind.i64 (Int.tdiv k_ 32))) (dflt (Ty.int IntKind.u32)))) +
        List.length [IntKind.wrap IntKind.u32 (IntKind.wrap IntKind.u64 (r0 * 2 ^ min (Int.toNat (Int.tmod k_ 32)) (IntKind.bits IntKind.u64))), IntKind.wrap IntKind.u32 (Int.fdiv (IntKind.wrap IntKind.u64 (r0 * 2 ^ min (Int.toNat (Int.tmod k_ 32)) (IntKind.bits IntKind.u64))) (2 ^ min (Int.toNat 32) (IntKind.bits IntKind.u64))), IntKind.wrap IntKind.u32 (Int.fdiv r1 (2 ^ min (Int.toNat (IntKind.wrap IntKind.i64 (64 - Int.tmod k_ 32))) (IntKind.bits IntKind.u64)))]) *
      4 ≤
    140737488355328) then
                some ((decide (n < 0),
  (match none with
    | none => List.replicate (Int.toNat (IntKind.wrap IntKind.i64 (Int.tdiv k_ 32))) (dflt (Ty.int IntKind.u32))
    | some m => List.take m (List.replicate (Int.toNat (IntKind.wrap IntKind.i64 (Int.tdiv k_ 32))) (dflt (Ty.int IntKind.u32)))) ++
    [IntKind.wrap IntKind.u32 (IntKind.wrap IntKind.u64 (r0 * 2 ^ min (Int.toNat (Int.tmod k_ 32)) (IntKind.bits IntKind.u64))), IntKind.wrap IntKind.u32 (Int.fdiv (IntKind.wrap IntKind.u64 (r0 * 2 ^ min (Int.toNat (Int.tmod k_ 32)) (IntKind.bits IntKind.u64))) (2 ^ min (Int.toNat 32) (IntKind.bits IntKind.u64))), IntKind.wrap IntKind.u32 (Int.fdiv r1 (2 ^ min (Int.toNat (IntKind.wrap IntKind.i64 (64 - Int.tmod k_ 32))) (IntKind.bits IntKind.u64)))]))
              else
                none
            else
              none
          else
            none
        else
          none
      else
        none
    else
      bif decide (0 ≤ IntKind.wrap IntKind.i64 (Int.tdiv k_ 32)) then
        bif decide (IntKind.wrap IntKind.i64 (Int.tdiv k_ 32) ≤ IntKind.wrap IntKind.i64 (Int.tdiv k_ 32)) then
          bif decide (IntKind.wrap IntKind.i64 (Int.tdiv k_ 32) * (↑4 : Int) ≤ 140737488355328) then
            bif decide
  ((List.length
          (match none with
          | none => List.replicate (Int.toNat (IntKind.wrap IntKind.i64 (Int.tdiv k_ 32))) (dflt (Ty.int IntKind.u32))
          | some m => List.take m (List.replicate (Int.toNat (IntKind.wrap IntKind.i64 (Int.tdiv k_ 32))) (dflt (Ty.int IntKind.u32)))) +
        List.length [IntKind.wrap IntKind.u32 (IntKind.wrap IntKind.u64 (r0 * 2 ^ min (Int.toNat (Int.tmod k_ 32)) (IntKind.bits IntKind.u64))), IntKind.wrap IntKind.u32 (Int.fdiv (IntKind.wrap IntKind.u64 (r0 * 2 ^ min (Int.toNat (Int.tmod k_ 32)) (IntKind.bits IntKind.u64))) (2 ^ min (Int.toNat 32) (IntKind.bits IntKind.u64))), IntKind.wrap IntKind.u32 0]) *
      4 ≤
    140737488355328) then
              some ((decide (n < 0),
  (match none with
    | none => List.replicate (Int.toNat (IntKind.wrap IntKind.i64 (Int.tdiv k_ 32))) (dflt (Ty.int IntKind.u32))
    | some m => List.take m (List.replicate (Int.toNat (IntKind.wrap IntKind.i64 (Int.tdiv k_ 32))) (dflt (Ty.int IntKind.u32)))) ++
    [IntKind.wrap IntKind.u32 (IntKind.wrap IntKind.u64 (r0 * 2 ^ min (Int.toNat (Int.tmod k_ 32)) (IntKind.bits IntKind.u64))), IntKind.wrap IntKind.u32 (Int.fdiv (IntKind.wrap IntKind.u64 (r0 * 2 ^ min (Int.toNat (Int.tmod k_ 32)) (IntKind.bits IntKind.u64))) (2 ^ min (Int.toNat 32) (IntKind.bits IntKind.u64))), IntKind.wrap IntKind.u32 0]))
            else
              none
          else
            none
        else
          none
      else
        none
  else
    none
theorem Mi_longOf (k : Nat) (n : Int) (k_ : Int) : Le (f194 k n k_) (f194 (k + 1) n k_) := by
  unfold f194
  repeat' first | with_reducible exact Le.rfl _ | with_reducible exact Mi_size _ _ | with_reducible refine Le.cond ?_ ?_ | with_reducible refine Le.bind ?_ fun _ => ?_
theorem Ri_longOf (n : Int) (k_ : Int) : Lim (fun k => f194 k n k_) (i_longOf n k_) := by
  unfold f194 i_longOf
  repeat' first | with_reducible exact Lim.ret _ | with_reducible exact Ri_size _ | with_reducible refine Lim.cond ?_ ?_ | with_reducible refine Lim.bind ?_ fun _ => ?_

-- impl.long).sign$1
noncomputable def i_long_sign_1 (d : Int) : Option (Bool) :=
  some (!decide (d = 0))
theorem Mi_long_sign_1 (k : Nat) (d : Int) : Le (f244 k d) (f244 (k + 1) d) := by
  unfold f244
  repeat' first | with_reducible exact Le.rfl _ | with_reducible refine Le.cond ?_ ?_ | with_reducible refine Le.bind ?_ fun _ => ?_
theorem Ri_long_sign_1 (d : Int) : Lim (fun k => f244 k d) (i_long_sign_1 d) := by
  unfold f244 i_long_sign_1
  repeat' first | with_reducible exact Lim.ret _ | with_reducible refine Lim.cond ?_ ?_ | with_reducible refine Lim.bind ?_ fun _ => ?_

-- slices.IndexFunc[[]uint32,uint32]
theorem MFslices_IndexFunc_uint32_uint32_i_long_sign_1_1002 (k : Nat) {r1002 q1002 : List Int → Int → Int → Option (Int)} (h1002 : ∀ (s : List Int) (t7 : Int) (t8 : Int), Le (r1002 s t7 t8) (q1002 s t7 t8)) (s : List Int) (t7 : Int) (t8 : Int) : Le (F274_244_1002 k r1002 s t7 t8) (F274_244_1002 (k + 1) q1002 s t7 t8) := by
  unfold F274_244_1002
  repeat' first | with_reducible exact Le.rfl _ | with_reducible exact h1002 _ _ _ | with_reducible refine Le.cond ?_ ?_ | with_reducible refine Le.bind ?_ fun _ => ?_
theorem Mlslices_IndexFunc_uint32_uint32_i_long_sign_1 : ∀ k : Nat, ∀ (s : List Int) (t7 : Int) (t8 : Int), Le ((l274_244 k) s t7 t8) ((l274_244 (k + 1)) s t7 t8)
  | 0 => fun s t7 t8 => Le.no _
  | k + 1 => by
    have h := Mlslices_IndexFunc_uint32_uint32_i_long_sign_1 k
    exact fun s t7 t8 => MFslices_IndexFunc_uint32_uint32_i_long_sign_1_1002 k h s t7 t8
noncomputable def slices_IndexFunc_uint32_uint32_i_long_sign_1_1002 (s : List Int) (t7 : Int) (t8 : Int) : Option (Int) := lim fun k => (l274_244 k) s t7 t8
theorem Rlslices_IndexFunc_uint32_uint32_i_long_sign_1_1002 (s : List Int) (t7 : Int) (t8 : Int) : Lim (fun k => (l274_244 k) s t7 t8) (slices_IndexFunc_uint32_uint32_i_long_sign_1_1002 s t7 t8) := Lim.of_mono fun k => Mlslices_IndexFunc_uint32_uint32_i_long_sign_1 k s t7 t8
theorem Eslices_IndexFunc_uint32_uint32_i_long_sign_1_1002 (s : List Int) (t7 : Int) (t8 : Int) : slices_IndexFunc_uint32_uint32_i_long_sign_1_1002 s t7 t8 =
  bif decide (t8 < t7) then
    bif boundA t8 (List.length s) then
      bif !decide (List.getD s (Int.toNat t8) 0 = 0) then
        some t8
      else
        slices_IndexFunc_uint32_uint32_i_long_sign_1_1002 s t7 (IntKind.wrap IntKind.i64 (t8 + 1))
    else
      none
  else
    some (-1) := by
  refine Lim.uniq (Lim.shift (Rlslices_IndexFunc_uint32_uint32_i_long_sign_1_1002 s t7 t8)) (?_ : Lim (fun k => F274_244_1002 k ((l274_244 k)) s t7 t8) _)
  unfold F274_244_1002
  repeat' first | with_reducible exact Lim.ret _ | with_reducible exact Rlslices_IndexFunc_uint32_uint32_i_long_sign_1_1002 _ _ _ | with_reducible refine Lim.cond ?_ ?_ | with_reducible refine Lim.bind ?_ fun _ => ?_
noncomputable def slices_IndexFunc_uint32_uint32_i_long_sign_1 (s : List (Int)) : Option (Int) :=
  slices_IndexFunc_uint32_uint32_i_long_sign_1_1002 s ((↑(List.length s) : Int)) (0)
theorem Mslices_IndexFunc_uint32_uint32_i_long_sign_1 (k : Nat) (s : List (Int)) : Le (f274_244 k s) (f274_244 (k + 1) s) := by
  have h := Mlslices_IndexFunc_uint32_uint32_i_long_sign_1 k
  unfold f274_244 F274_244
  repeat' first | with_reducible exact Le.rfl _ | with_reducible exact h _ _ _ | with_reducible refine Le.cond ?_ ?_ | with_reducible refine Le.bind ?_ fun _ => ?_
theorem Rslices_IndexFunc_uint32_uint32_i_long_sign_1 (s : List (Int)) : Lim (fun k => f274_244 k s) (slices_IndexFunc_uint32_uint32_i_long_sign_1 s) := by
  unfold f274_244 F274_244 slices_IndexFunc_uint32_uint32_i_long_sign_1
  repeat' first | with_reducible exact Lim.ret _ | with_reducible exact Rlslices_IndexFunc_uint32_uint32_i_long_sign_1_1002 _ _ _ | with_reducible refine Lim.cond ?_ ?_ | with_reducible refine Lim.bind ?_ fun _ => ?_

-- slices.ContainsFunc[[]uint32,uint32]
noncomputable def slices_ContainsFunc_uint32_uint32_i_long_sign_1 (s : List (Int)) : Option (Bool) :=
  (slices_IndexFunc_uint32_uint32_i_long_sign_1 s).bind fun r0 =>
  some (decide (0 ≤ r0))
theorem Mslices_ContainsFunc_uint32_uint32_i_long_sign_1 (k : Nat) (s : List (Int)) : Le (f243_244 k s) (f243_244 (k + 1) s) := by
  unfold f243_244
  repeat' first | with_reducible exact Le.rfl _ | with_reducible exact Mslices_IndexFunc_uint32_uint32_i_long_sign_1 _ _ | with_reducible refine Le.cond ?_ ?_ | with_reducible refine Le.bind ?_ fun _ => ?_
theorem Rslices_ContainsFunc_uint32_uint32_i_long_sign_1 (s : List (Int)) : Lim (fun k => f243_244 k s) (slices_ContainsFunc_uint32_uint32_i_long_sign_1 s) := by
  unfold f243_244 slices_ContainsFunc_uint32_uint32_i_long_sign_1
  repeat' first | with_reducible exact Lim.ret _ | with_reducible exact Rslices_IndexFunc_uint32_uint32_i_long_sign_1 _ | with_reducible refine Lim.cond ?_ ?_ | with_reducible refine Lim.bind ?_ fun _ => ?_

-- impl.long).sign
noncomputable def i_long_sign (a_negative : Bool) (a_digits : List (Int)) : Option (Int) :=
  (slices_ContainsFunc_uint32_uint32_i_long_sign_1 a_digits).bind fun r0 =>
  bif !r0 then
    some (0)
  else
    bif a_negative then
      some (-1)
    else
      some (1)
theorem Mi_long_sign (k : Nat) (a_negative : Bool) (a_digits : List (Int)) : Le (f195 k a_negative a_digits) (f195 (k + 1) a_negative a_digits) := by
  unfold f195
  repeat' first | with_reducible exact Le.rfl _ | with_reducible exact Mslices_ContainsFunc_uint32_uint32_i_long_sign_1 _ _ | with_reducible refine Le.cond ?_ ?_ | with_reducible refine Le.bind ?_ fun _ => ?_
theorem Ri_long_sign (a_negative : Bool) (a_digits : List (Int)) : Lim (fun k => f195 k a_negative a_digits) (i_long_sign a_negative a_digits) := by
  unfold f195 i_long_sign
  repeat' first | with_reducible exact Lim.ret _ | with_reducible exact Rslices_ContainsFunc_uint32_uint32_i_long_sign_1 _ | with_reducible refine Lim.cond ?_ ?_ | with_reducible refine Lim.bind ?_ fun _ => ?_

-- impl.signAt
theorem MFi_signAt_1003 (k : Nat) {r1003 q1003 : List Int → Int → Int → Bool → List Int → Int → Option (Int)} (h1003 : ∀ (p : List Int) (xs_0 : Int) (xs_1 : Int) (sums_0 : Bool) (sums : List Int) (i : Int), Le (r1003 p xs_0 xs_1 sums_0 sums i) (q1003 p xs_0 xs_1 sums_0 sums i)) (p : List Int) (xs_0 : Int) (xs_1 : Int) (sums_0 : Bool) (sums : List Int) (i : Int) : Le (F131_1003 k r1003 p xs_0 xs_1 sums_0 sums i) (F131_1003 (k + 1) q1003 p xs_0 xs_1 sums_0 sums i) := by
  unfold F131_1003
  repeat' first | with_reducible exact Le.rfl _ | with_reducible exact Mi_long_times _ _ _ _ | with_reducible exact Mi_long_plus _ _ _ _ _ | with_reducible exact Mi_longOf _ _ _ | with_reducible exact Mi_long_sign _ _ _ | with_reducible exact h1003 _ _ _ _ _ _ | with_reducible refine Le.cond ?_ ?_ | with_reducible refine Le.bind ?_ fun _ => ?_
theorem Mli_signAt : ∀ k : Nat, ∀ (p : List Int) (xs_0 : Int) (xs_1 : Int) (sums_0 : Bool) (sums : List Int) (i : Int), Le ((l131 k) p xs_0 xs_1 sums_0 sums i) ((l131 (k + 1)) p xs_0 xs_1 sums_0 sums i)
  | 0 => fun p xs_0 xs_1 sums_0 sums i => Le.no _
  | k + 1 => by
    have h := Mli_signAt k
    exact fun p xs_0 xs_1 sums_0 sums i => MFi_signAt_1003 k h p xs_0 xs_1 sums_0 sums i
noncomputable def i_signAt_1003 (p : List Int) (xs_0 : Int) (xs_1 : Int) (sums_0 : Bool) (sums : List Int) (i : Int) : Option (Int) := lim fun k => (l131 k) p xs_0 xs_1 sums_0 sums i
theorem Rli_signAt_1003 (p : List Int) (xs_0 : Int) (xs_1 : Int) (sums_0 : Bool) (sums : List Int) (i : Int) : Lim (fun k => (l131 k) p xs_0 xs_1 sums_0 sums i) (i_signAt_1003 p xs_0 xs_1 sums_0 sums i) := Lim.of_mono fun k => Mli_signAt k p xs_0 xs_1 sums_0 sums i
theorem Ei_signAt_1003 (p : List Int) (xs_0 : Int) (xs_1 : Int) (sums_0 : Bool) (sums : List Int) (i : Int) : i_signAt_1003 p xs_0 xs_1 sums_0 sums i =
  bif decide (0 ≤ i) then
    (i_long_times sums_0 sums xs_0).bind fun r0 =>
    bif boundA i (List.length p) then
      (i_longOf (List.getD p (Int.toNat i) 0) (IntKind.wrap IntKind.i64 (xs_1 * IntKind.wrap IntKind.i64 (IntKind.wrap IntKind.i64 ((↑(List.length p) : Int) - 1) - i)))).bind fun r1 =>
      (i_long_plus r0.fst r0.snd r1.fst r1.snd).bind fun r2 =>
      i_signAt_1003 p xs_0 xs_1 (r2.fst) (r2.snd) (IntKind.wrap IntKind.i64 (i - 1))
    else
      none
  else
    (i_long_sign sums_0 sums).bind fun r3 =>
    some r3 := by
  refine Lim.uniq (Lim.shift (Rli_signAt_1003 p xs_0 xs_1 sums_0 sums i)) (?_ : Lim (fun k => F131_1003 k ((l131 k)) p xs_0 xs_1 sums_0 sums i) _)
  unfold F131_1003
  repeat' first | with_reducible exact Lim.ret _ | with_reducible exact Ri_long_times _ _ _ | with_reducible exact Ri_long_plus _ _ _ _ | with_reducible exact Ri_longOf _ _ | with_reducible exact Ri_long_sign _ _ | with_reducible exact Rli_signAt_1003 _ _ _ _ _ _ | with_reducible refine Lim.cond ?_ ?_ | with_reducible refine Lim.bind ?_ fun _ => ?_
noncomputable def i_signAt (p : List (Int)) (x_N : Int) (x_K : Int) : Option (Int) :=
  i_signAt_1003 p x_N x_K false ([]) (IntKind.wrap IntKind.i64 ((↑(List.length p) : Int) - 1))
theorem Mi_signAt (k : Nat) (p : List (Int)) (x_N : Int) (x_K : Int) : Le (f131 k p x_N x_K) (f131 (k + 1) p x_N x_K) := by
  have h := Mli_signAt k
  unfold f131 F131
  repeat' first | with_reducible exact Le.rfl _ | with_reducible exact h _ _ _ _ _ _ | with_reducible refine Le.cond ?_ ?_ | with_reducible refine Le.bind ?_ fun _ => ?_
theorem Ri_signAt (p : List (Int)) (x_N : Int) (x_K : Int) : Lim (fun k => f131 k p x_N x_K) (i_signAt p x_N x_K) := by
  unfold f131 F131 i_signAt
  repeat' first | with_reducible exact Lim.ret _ | with_reducible exact Rli_signAt_1003 _ _ _ _ _ _ | with_reducible refine Lim.cond ?_ ?_ | with_reducible refine Lim.bind ?_ fun _ => ?_

-- impl.wide).fit
theorem MFi_wide_fit_1003 (k : Nat) {r1003 q1003 : Int → Bool → Int → Int → Int → Int → Option ((Int × Int) × Bool)} (h1003 : ∀ (k_ : Int) (ws_0 : Bool) (ws_1 : Int) (ws_2 : Int) (t4s_0 : Int) (t4s_1 : Int), Le (r1003 k_ ws_0 ws_1 ws_2 t4s_0 t4s_1) (q1003 k_ ws_0 ws_1 ws_2 t4s_0 t4s_1)) (k_ : Int) (ws_0 : Bool) (ws_1 : Int) (ws_2 : Int) (t4s_0 : Int) (t4s_1 : Int) : Le (F174_1003 k r1003 k_ ws_0 ws_1 ws_2 t4s_0 t4s_1) (F174_1003 (k + 1) q1003 k_ ws_0 ws_1 ws_2 t4s_0 t4s_1) := by
  unfold F174_1003
  repeat' first | with_reducible exact Le.rfl _ | with_reducible exact h1003 _ _ _ _ _ _ | with_reducible refine Le.cond ?_ ?_ | with_reducible refine Le.bind ?_ fun _ => ?_
theorem Mli_wide_fit : ∀ k : Nat, ∀ (k_ : Int) (ws_0 : Bool) (ws_1 : Int) (ws_2 : Int) (t4s_0 : Int) (t4s_1 : Int), Le ((l174 k) k_ ws_0 ws_1 ws_2 t4s_0 t4s_1) ((l174 (k + 1)) k_ ws_0 ws_1 ws_2 t4s_0 t4s_1)
  | 0 => fun k_ ws_0 ws_1 ws_2 t4s_0 t4s_1 => Le.no _
  | k + 1 => by
    have h := Mli_wide_fit k
    exact fun k_ ws_0 ws_1 ws_2 t4s_0 t4s_1 => MFi_wide_fit_1003 k h k_ ws_0 ws_1 ws_2 t4s_0 t4s_1
noncomputable def i_wide_fit_1003 (k_ : Int) (ws_0 : Bool) (ws_1 : Int) (ws_2 : Int) (t4s_0 : Int) (t4s_1 : Int) : Option ((Int × Int) × Bool) := lim fun k => (l174 k) k_ ws_0 ws_1 ws_2 t4s_0 t4s_1
theorem Rli_wide_fit_1003 (k_ : Int) (ws_0 : Bool) (ws_1 : Int) (ws_2 : Int) (t4s_0 : Int) (t4s_1 : Int) : Lim (fun k => (l174 k) k_ ws_0 ws_1 ws_2 t4s_0 t4s_1) (i_wide_fit_1003 k_ ws_0 ws_1 ws_2 t4s_0 t4s_1) := Lim.of_mono fun k => Mli_wide_fit k k_ ws_0 ws_1 ws_2 t4s_0 t4s_1
theorem Ei_wide_fit_1003 (k_ : Int) (ws_0 : Bool) (ws_1 : Int) (ws_2 : Int) (t4s_0 : Int) (t4s_1 : Int) : i_wide_fit_1003 k_ ws_0 ws_1 ws_2 t4s_0 t4s_1 =
  bif decide (0 < k_) then
    bif decide (Int.tmod ws_2 2 = 0) then
      i_wide_fit_1003 (IntKind.wrap IntKind.i64 (k_ - 1)) ws_0 (Int.fdiv ws_1 (2 ^ min (Int.toNat (IntKind.wrap IntKind.i64 (0 - -1))) (IntKind.bits IntKind.u64))) (IntKind.wrap IntKind.u64 (↑(BitVec.toNat (BitVec.ofInt (IntKind.bits IntKind.u64) (Int.fdiv ws_2 (2 ^ min (Int.toNat (IntKind.wrap IntKind.i64 (0 - -1))) (IntKind.bits IntKind.u64))) ||| BitVec.ofInt (IntKind.bits IntKind.u64) (IntKind.wrap IntKind.u64 (ws_1 * 2 ^ min (Int.toNat (IntKind.wrap IntKind.i64 (64 - IntKind.wrap IntKind.i64 (0 - -1)))) (IntKind.bits IntKind.u64))))) : Int)) t4s_0 t4s_1
    else
      bif decide (24 < k_) then
        some (((0, 0), false))
      else
        bif decide (0 < ws_1) then
          some (((0, 0), false))
        else
          bif decide (1099511627776 < ws_2) then
            some (((0, 0), false))
          else
            bif ws_0 then
              some (((IntKind.wrap IntKind.i64 (0 - IntKind.wrap IntKind.i64 ws_2), k_), true))
            else
              some (((IntKind.wrap IntKind.i64 ws_2, k_), true))
  else
    bif decide (24 < k_) then
      some (((0, 0), false))
    else
      bif decide (0 < ws_1) then
        some (((0, 0), false))
      else
        bif decide (1099511627776 < ws_2) then
          some (((0, 0), false))
        else
          bif ws_0 then
            some (((IntKind.wrap IntKind.i64 (0 - IntKind.wrap IntKind.i64 ws_2), k_), true))
          else
            some (((IntKind.wrap IntKind.i64 ws_2, k_), true)) := by
  refine Lim.uniq (Lim.shift (Rli_wide_fit_1003 k_ ws_0 ws_1 ws_2 t4s_0 t4s_1)) (?_ : Lim (fun k => F174_1003 k ((l174 k)) k_ ws_0 ws_1 ws_2 t4s_0 t4s_1) _)
  unfold F174_1003
  repeat' first | with_reducible exact Lim.ret _ | with_reducible exact Rli_wide_fit_1003 _ _ _ _ _ _ | with_reducible refine Lim.cond ?_ ?_ | with_reducible refine Lim.bind ?_ fun _ => ?_
noncomputable def i_wide_fit (w_negative : Bool) (w_high : Int) (w_low : Int) (k_ : Int) : Option ((Int × Int) × Bool) :=
  (i_wide_isZero w_negative w_high w_low).bind fun r0 =>
  bif r0 then
    some (((0, 0), true))
  else
    i_wide_fit_1003 k_ w_negative w_high w_low (0) (0)
theorem Mi_wide_fit (k : Nat) (w_negative : Bool) (w_high : Int) (w_low : Int) (k_ : Int) : Le (f174 k w_negative w_high w_low k_) (f174 (k + 1) w_negative w_high w_low k_) := by
  have h := Mli_wide_fit k
  unfold f174 F174
  repeat' first | with_reducible exact Le.rfl _ | with_reducible exact Mi_wide_isZero _ _ _ _ | with_reducible exact h _ _ _ _ _ _ | with_reducible refine Le.cond ?_ ?_ | with_reducible refine Le.bind ?_ fun _ => ?_
theorem Ri_wide_fit (w_negative : Bool) (w_high : Int) (w_low : Int) (k_ : Int) : Lim (fun k => f174 k w_negative w_high w_low k_) (i_wide_fit w_negative w_high w_low k_) := by
  unfold f174 F174 i_wide_fit
  repeat' first | with_reducible exact Lim.ret _ | with_reducible exact Ri_wide_isZero _ _ _ | with_reducible exact Rli_wide_fit_1003 _ _ _ _ _ _ | with_reducible refine Lim.cond ?_ ?_ | with_reducible refine Lim.bind ?_ fun _ => ?_

-- bits.Add64
noncomputable def bits_Add64 (x : Int) (y : Int) (carry : Int) : Option (Int × Int) :=
  add64 x y carry
theorem Mbits_Add64 (k : Nat) (x : Int) (y : Int) (carry : Int) : Le (f245 k x y carry) (f245 (k + 1) x y carry) := by
  unfold f245
  repeat' first | with_reducible exact Le.rfl _ | with_reducible refine Le.cond ?_ ?_ | with_reducible refine Le.bind ?_ fun _ => ?_
theorem Rbits_Add64 (x : Int) (y : Int) (carry : Int) : Lim (fun k => f245 k x y carry) (bits_Add64 x y carry) := by
  unfold f245 bits_Add64
  repeat' first | with_reducible exact Lim.ret _ | with_reducible refine Lim.cond ?_ ?_ | with_reducible refine Lim.bind ?_ fun _ => ?_

-- bits.Sub64
noncomputable def bits_Sub64 (x : Int) (y : Int) (carry : Int) : Option (Int × Int) :=
  sub64 x y carry
theorem Mbits_Sub64 (k : Nat) (x : Int) (y : Int) (carry : Int) : Le (f247 k x y carry) (f247 (k + 1) x y carry) := by
  unfold f247
  repeat' first | with_reducible exact Le.rfl _ | with_reducible refine Le.cond ?_ ?_ | with_reducible refine Le.bind ?_ fun _ => ?_
theorem Rbits_Sub64 (x : Int) (y : Int) (carry : Int) : Lim (fun k => f247 k x y carry) (bits_Sub64 x y carry) := by
  unfold f247 bits_Sub64
  repeat' first | with_reducible exact Lim.ret _ | with_reducible refine Lim.cond ?_ ?_ | with_reducible refine Lim.bind ?_ fun _ => ?_

-- impl.wide).add
theorem MFi_wide_add_7 (k : Nat) {r7 q7 : Bool → Int → Int → Bool → Int → Int → Bool → Int → Int → Option (Bool × Int × Int)} (h7 : ∀ (ss_0 : Bool) (ss_1 : Int) (ss_2 : Int) (ts_0 : Bool) (ts_1 : Int) (ts_2 : Int) (t4s_0 : Bool) (t4s_1 : Int) (t4s_2 : Int), Le (r7 ss_0 ss_1 ss_2 ts_0 ts_1 ts_2 t4s_0 t4s_1 t4s_2) (q7 ss_0 ss_1 ss_2 ts_0 ts_1 ts_2 t4s_0 t4s_1 t4s_2)) (ss_0 : Bool) (ss_1 : Int) (ss_2 : Int) (ts_0 : Bool) (ts_1 : Int) (ts_2 : Int) (t4s_0 : Bool) (t4s_1 : Int) (t4s_2 : Int) : Le (F197_7 k r7 ss_0 ss_1 ss_2 ts_0 ts_1 ts_2 t4s_0 t4s_1 t4s_2) (F197_7 (k + 1) q7 ss_0 ss_1 ss_2 ts_0 ts_1 ts_2 t4s_0 t4s_1 t4s_2) := by
  unfold F197_7
  repeat' first | with_reducible exact Le.rfl _ | with_reducible exact Mbits_Sub64 _ _ _ _ | with_reducible exact h7 _ _ _ _ _ _ _ _ _ | with_reducible refine Le.cond ?_ ?_ | with_reducible refine Le.bind ?_ fun _ => ?_
theorem Mli_wide_add : ∀ k : Nat, ∀ (ss_0 : Bool) (ss_1 : Int) (ss_2 : Int) (ts_0 : Bool) (ts_1 : Int) (ts_2 : Int) (t4s_0 : Bool) (t4s_1 : Int) (t4s_2 : Int), Le ((l197 k) ss_0 ss_1 ss_2 ts_0 ts_1 ts_2 t4s_0 t4s_1 t4s_2) ((l197 (k + 1)) ss_0 ss_1 ss_2 ts_0 ts_1 ts_2 t4s_0 t4s_1 t4s_2)
  | 0 => fun ss_0 ss_1 ss_2 ts_0 ts_1 ts_2 t4s_0 t4s_1 t4s_2 => Le.no _
  | k + 1 => by
    have h := Mli_wide_add k
    exact fun ss_0 ss_1 ss_2 ts_0 ts_1 ts_2 t4s_0 t4s_1 t4s_2 => MFi_wide_add_7 k h ss_0 ss_1 ss_2 ts_0 ts_1 ts_2 t4s_0 t4s_1 t4s_2
noncomputable def i_wide_add_7 (ss_0 : Bool) (ss_1 : Int) (ss_2 : Int) (ts_0 : Bool) (ts_1 : Int) (ts_2 : Int) (t4s_0 : Bool) (t4s_1 : Int) (t4s_2 : Int) : Option (Bool × Int × Int) := lim fun k => (l197 k) ss_0 ss_1 ss_2 ts_0 ts_1 ts_2 t4s_0 t4s_1 t4s_2
theorem Rli_wide_add_7 (ss_0 : Bool) (ss_1 : Int) (ss_2 : Int) (ts_0 : Bool) (ts_1 : Int) (ts_2 : Int) (t4s_0 : Bool) (t4s_1 : Int) (t4s_2 : Int) : Lim (fun k => (l197 k) ss_0 ss_1 ss_2 ts_0 ts_1 ts_2 t4s_0 t4s_1 t4s_2) (i_wide_add_7 ss_0 ss_1 ss_2 ts_0 ts_1 ts_2 t4s_0 t4s_1 t4s_2) := Lim.of_mono fun k => Mli_wide_add k ss_0 ss_1 ss_2 ts_0 ts_1 ts_2 t4s_0 t4s_1 t4s_2
theorem Ei_wide_add_7 (ss_0 : Bool) (ss_1 : Int) (ss_2 : Int) (ts_0 : Bool) (ts_1 : Int) (ts_2 : Int) (t4s_0 : Bool) (t4s_1 : Int) (t4s_2 : Int) : i_wide_add_7 ss_0 ss_1 ss_2 ts_0 ts_1 ts_2 t4s_0 t4s_1 t4s_2 =
  (bits_Sub64 ss_2 ts_2 0).bind fun r0 =>
  (bits_Sub64 ss_1 ts_1 r0.snd).bind fun r1 =>
  some ((ss_0, r1.fst, r0.fst)) := by
  refine Lim.uniq (Lim.shift (Rli_wide_add_7 ss_0 ss_1 ss_2 ts_0 ts_1 ts_2 t4s_0 t4s_1 t4s_2)) (?_ : Lim (fun k => F197_7 k ((l197 k)) ss_0 ss_1 ss_2 ts_0 ts_1 ts_2 t4s_0 t4s_1 t4s_2) _)
  unfold F197_7
  repeat' first | with_reducible exact Lim.ret _ | with_reducible exact Rbits_Sub64 _ _ _ | with_reducible exact Rli_wide_add_7 _ _ _ _ _ _ _ _ _ | with_reducible refine Lim.cond ?_ ?_ | with_reducible refine Lim.bind ?_ fun _ => ?_
noncomputable def i_wide_add (L_negative : Bool) (L_high : Int) (L_low : Int) (i_negative : Bool) (i_high : Int) (i_low : Int) : Option (Bool × Int × Int) :=
  bif L_negative == i_negative then
    (bits_Add64 L_low i_low 0).bind fun r0 =>
    (bits_Add64 L_high i_high r0.snd).bind fun r1 =>
    some ((L_negative, r1.fst, r0.fst))
  else
    (i_compareSizes L_negative L_high L_low i_negative i_high i_low).bind fun r2 =>
    bif decide (r2 < 0) then
      i_wide_add_7 i_negative i_high i_low L_negative L_high L_low false (0) (0)
    else
      i_wide_add_7 L_negative L_high L_low i_negative i_high i_low false (0) (0)
theorem Mi_wide_add (k : Nat) (L_negative : Bool) (L_high : Int) (L_low : Int) (i_negative : Bool) (i_high : Int) (i_low : Int) : Le (f197 k L_negative L_high L_low i_negative i_high i_low) (f197 (k + 1) L_negative L_high L_low i_negative i_high i_low) := by
  have h := Mli_wide_add k
  unfold f197 F197
  repeat' first | with_reducible exact Le.rfl _ | with_reducible exact Mbits_Add64 _ _ _ _ | with_reducible exact Mi_compareSizes _ _ _ _ _ _ _ | with_reducible exact h _ _ _ _ _ _ _ _ _ | with_reducible refine Le.cond ?_ ?_ | with_reducible refine Le.bind ?_ fun _ => ?_
theorem Ri_wide_add (L_negative : Bool) (L_high : Int) (L_low : Int) (i_negative : Bool) (i_high : Int) (i_low : Int) : Lim (fun k => f197 k L_negative L_high L_low i_negative i_high i_low) (i_wide_add L_negative L_high L_low i_negative i_high i_low) := by
  unfold f197 F197 i_wide_add
  repeat' first | with_reducible exact Lim.ret _ | with_reducible exact Rbits_Add64 _ _ _ | with_reducible exact Ri_compareSizes _ _ _ _ _ _ | with_reducible exact Rli_wide_add_7 _ _ _ _ _ _ _ _ _ | with_reducible refine Lim.cond ?_ ?_ | with_reducible refine Lim.bind ?_ fun _ => ?_

-- impl.middleOf
noncomputable def i_middleOf (a_N : Int) (a_K : Int) (b_N : Int) (b_K : Int) : Option ((Int × Int) × Bool) :=
  (i_wideOf a_N).bind fun r0 =>
  (i_wide_shift r0.fst r0.snd.fst r0.snd.snd (IntKind.wrap IntKind.i64 ((bif decide (a_K < b_K) then b_K else a_K) - a_K))).bind fun r1 =>
  (i_wideOf b_N).bind fun r2 =>
  (i_wide_shift r2.fst r2.snd.fst r2.snd.snd (IntKind.wrap IntKind.i64 ((bif decide (a_K < b_K) then b_K else a_K) - b_K))).bind fun r3 =>
  (i_wide_add r1.fst r1.snd.fst r1.snd.snd r3.fst r3.snd.fst r3.snd.snd).bind fun r4 =>
  (i_wide_fit r4.fst r4.snd.fst r4.snd.snd (IntKind.wrap IntKind.i64 ((bif decide (a_K < b_K) then b_K else a_K) + 1))).bind fun r5 =>
  some (((r5.fst.fst, r5.fst.snd), r5.snd))
theorem Mi_middleOf (k : Nat) (a_N : Int) (a_K : Int) (b_N : Int) (b_K : Int) : Le (f132 k a_N a_K b_N b_K) (f132 (k + 1) a_N a_K b_N b_K) := by
  unfold f132
  repeat' first | with_reducible exact Le.rfl _ | with_reducible exact Mi_wideOf _ _ | with_reducible exact Mi_wide_fit _ _ _ _ _ | with_reducible exact Mi_wide_shift _ _ _ _ _ | with_reducible exact Mi_wide_add _ _ _ _ _ _ _ | with_reducible refine Le.cond ?_ ?_ | with_reducible refine Le.bind ?_ fun _ => ?_
theorem Ri_middleOf (a_N : Int) (a_K : Int) (b_N : Int) (b_K : Int) : Lim (fun k => f132 k a_N a_K b_N b_K) (i_middleOf a_N a_K b_N b_K) := by
  unfold f132 i_middleOf
  repeat' first | with_reducible exact Lim.ret _ | with_reducible exact Ri_wideOf _ | with_reducible exact Ri_wide_fit _ _ _ _ | with_reducible exact Ri_wide_shift _ _ _ _ | with_reducible exact Ri_wide_add _ _ _ _ _ _ | with_reducible refine Lim.cond ?_ ?_ | with_reducible refine Lim.bind ?_ fun _ => ?_

-- impl.narrowAt
theorem MFi_narrowAt_1003 (k : Nat) {r1003 q1003 : List Int → Int → Int → Int → Int → Int → Int → Int → Int → Option (((Int × Int) × Int × Int) × Bool)} (h1003 : ∀ (p : List Int) (xs_0 : Int) (xs_1 : Int) (xs_2 : Int) (xs_3 : Int) (t4s_0 : Int) (t4s_1 : Int) (t4s_2 : Int) (t4s_3 : Int), Le (r1003 p xs_0 xs_1 xs_2 xs_3 t4s_0 t4s_1 t4s_2 t4s_3) (q1003 p xs_0 xs_1 xs_2 xs_3 t4s_0 t4s_1 t4s_2 t4s_3)) (p : List Int) (xs_0 : Int) (xs_1 : Int) (xs_2 : Int) (xs_3 : Int) (t4s_0 : Int) (t4s_1 : Int) (t4s_2 : Int) (t4s_3 : Int) : Le (F76_1003 k r1003 p xs_0 xs_1 xs_2 xs_3 t4s_0 t4s_1 t4s_2 t4s_3) (F76_1003 (k + 1) q1003 p xs_0 xs_1 xs_2 xs_3 t4s_0 t4s_1 t4s_2 t4s_3) := by
  unfold F76_1003
  repeat' first | with_reducible exact Le.rfl _ | with_reducible exact Mi_signAt _ _ _ _ | with_reducible exact Mi_middleOf _ _ _ _ _ | with_reducible exact h1003 _ _ _ _ _ _ _ _ _ | with_reducible refine Le.cond ?_ ?_ | with_reducible refine Le.bind ?_ fun _ => ?_
theorem Mli_narrowAt : ∀ k : Nat, ∀ (p : List Int) (xs_0 : Int) (xs_1 : Int) (xs_2 : Int) (xs_3 : Int) (t4s_0 : Int) (t4s_1 : Int) (t4s_2 : Int) (t4s_3 : Int), Le ((l76 k) p xs_0 xs_1 xs_2 xs_3 t4s_0 t4s_1 t4s_2 t4s_3) ((l76 (k + 1)) p xs_0 xs_1 xs_2 xs_3 t4s_0 t4s_1 t4s_2 t4s_3)
  | 0 => fun p xs_0 xs_1 xs_2 xs_3 t4s_0 t4s_1 t4s_2 t4s_3 => Le.no _
  | k + 1 => by
    have h := Mli_narrowAt k
    exact fun p xs_0 xs_1 xs_2 xs_3 t4s_0 t4s_1 t4s_2 t4s_3 => MFi_narrowAt_1003 k h p xs_0 xs_1 xs_2 xs_3 t4s_0 t4s_1 t4s_2 t4s_3
noncomputable def i_narrowAt_1003 (p : List Int) (xs_0 : Int) (xs_1 : Int) (xs_2 : Int) (xs_3 : Int) (t4s_0 : Int) (t4s_1 : Int) (t4s_2 : Int) (t4s_3 : Int) : Option (((Int × Int) × Int × Int) × Bool) := lim fun k => (l76 k) p xs_0 xs_1 xs_2 xs_3 t4s_0 t4s_1 t4s_2 t4s_3
theorem Rli_narrowAt_1003 (p : List Int) (xs_0 : Int) (xs_1 : Int) (xs_2 : Int) (xs_3 : Int) (t4s_0 : Int) (t4s_1 : Int) (t4s_2 : Int) (t4s_3 : Int) : Lim (fun k => (l76 k) p xs_0 xs_1 xs_2 xs_3 t4s_0 t4s_1 t4s_2 t4s_3) (i_narrowAt_1003 p xs_0 xs_1 xs_2 xs_3 t4s_0 t4s_1 t4s_2 t4s_3) := Lim.of_mono fun k => Mli_narrowAt k p xs_0 xs_1 xs_2 xs_3 t4s_0 t4s_1 t4s_2 t4s_3
theorem Ei_narrowAt_1003 (p : List Int) (xs_0 : Int) (xs_1 : Int) (xs_2 : Int) (xs_3 : Int) (t4s_0 : Int) (t4s_1 : Int) (t4s_2 : Int) (t4s_3 : Int) : i_narrowAt_1003 p xs_0 xs_1 xs_2 xs_3 t4s_0 t4s_1 t4s_2 t4s_3 =
  (i_middleOf xs_0 xs_1 xs_2 xs_3).bind fun r0 =>
  (i_signAt p r0.fst.fst r0.fst.snd).bind fun r1 =>
  bif decide (5 < r0.fst.snd) then
    some ((((xs_0, xs_1), xs_2, xs_3), true))
  else
    bif decide (r1 = 0) then
      some ((((xs_0, xs_1), xs_2, xs_3), true))
    else
      (i_signAt p xs_0 xs_1).bind fun r2 =>
      bif decide (r1 = r2) then
        i_narrowAt_1003 p (r0.fst.fst) (r0.fst.snd) xs_2 xs_3 t4s_0 t4s_1 t4s_2 t4s_3
      else
        i_narrowAt_1003 p xs_0 xs_1 (r0.fst.fst) (r0.fst.snd) t4s_0 t4s_1 t4s_2 t4s_3 := by
  refine Lim.uniq (Lim.shift (Rli_narrowAt_1003 p xs_0 xs_1 xs_2 xs_3 t4s_0 t4s_1 t4s_2 t4s_3)) (?_ : Lim (fun k => F76_1003 k ((l76 k)) p xs_0 xs_1 xs_2 xs_3 t4s_0 t4s_1 t4s_2 t4s_3) _)
  unfold F76_1003
  repeat' first | with_reducible exact Lim.ret _ | with_reducible exact Ri_signAt _ _ _ | with_reducible exact Ri_middleOf _ _ _ _ | with_reducible exact Rli_narrowAt_1003 _ _ _ _ _ _ _ _ _ | with_reducible refine Lim.cond ?_ ?_ | with_reducible refine Lim.bind ?_ fun _ => ?_
noncomputable def i_narrowAt (p : List (Int)) (x_Low_N : Int) (x_Low_K : Int) (x_High_N : Int) (x_High_K : Int) : Option (((Int × Int) × Int × Int) × Bool) :=
  (i_signAt p x_Low_N x_Low_K).bind fun r0 =>
  (i_signAt p x_High_N x_High_K).bind fun r1 =>
  bif decide (0 ≤ IntKind.wrap IntKind.i64 (r0 * r1)) then
    some ((((0, 0), 0, 0), false))
  else
    i_narrowAt_1003 p x_Low_N x_Low_K x_High_N x_High_K (0) (0) (0) (0)
theorem Mi_narrowAt (k : Nat) (p : List (Int)) (x_Low_N : Int) (x_Low_K : Int) (x_High_N : Int) (x_High_K : Int) : Le (f76 k p x_Low_N x_Low_K x_High_N x_High_K) (f76 (k + 1) p x_Low_N x_Low_K x_High_N x_High_K) := by
  have h := Mli_narrowAt k
  unfold f76 F76
  repeat' first | with_reducible exact Le.rfl _ | with_reducible exact Mi_signAt _ _ _ _ | with_reducible exact h _ _ _ _ _ _ _ _ _ | with_reducible refine Le.cond ?_ ?_ | with_reducible refine Le.bind ?_ fun _ => ?_
theorem Ri_narrowAt (p : List (Int)) (x_Low_N : Int) (x_Low_K : Int) (x_High_N : Int) (x_High_K : Int) : Lim (fun k => f76 k p x_Low_N x_Low_K x_High_N x_High_K) (i_narrowAt p x_Low_N x_Low_K x_High_N x_High_K) := by
  unfold f76 F76 i_narrowAt
  repeat' first | with_reducible exact Lim.ret _ | with_reducible exact Ri_signAt _ _ _ | with_reducible exact Rli_narrowAt_1003 _ _ _ _ _ _ _ _ _ | with_reducible refine Lim.cond ?_ ?_ | with_reducible refine Lim.bind ?_ fun _ => ?_

-- slices.Clone[[]int,int]
noncomputable def slices_Clone_int_int (s : List (Int)) : Option (List (Int)) :=
  bif decide ((0 + List.length s) * 8 ≤ 140737488355328) then
    some s
  else
    none
theorem Mslices_Clone_int_int (k : Nat) (s : List (Int)) : Le (f232 k s) (f232 (k + 1) s) := by
  unfold f232
  repeat' first | with_reducible exact Le.rfl _ | with_reducible refine Le.cond ?_ ?_ | with_reducible refine Le.bind ?_ fun _ => ?_
theorem Rslices_Clone_int_int (s : List (Int)) : Lim (fun k => f232 k s) (slices_Clone_int_int s) := by
  unfold f232 slices_Clone_int_int
  repeat' first | with_reducible exact Lim.ret _ | with_reducible refine Lim.cond ?_ ?_ | with_reducible refine Lim.bind ?_ fun _ => ?_

-- impl.stripped
theorem MFi_stripped_1001 (k : Nat) {r1001 q1001 : List Int → Option (List (Int))} (h1001 : ∀ (p : List Int), Le (r1001 p) (q1001 p)) (p : List Int) : Le (F198_1001 k r1001 p) (F198_1001 (k + 1) q1001 p) := by
  unfold F198_1001
  repeat' first | with_reducible exact Le.rfl _ | with_reducible exact Mslices_Clone_int_int _ _ | with_reducible exact h1001 _ | with_reducible refine Le.cond ?_ ?_ | with_reducible refine Le.bind ?_ fun _ => ?_
theorem Mli_stripped : ∀ k : Nat, ∀ (p : List Int), Le ((l198 k) p) ((l198 (k + 1)) p)
  | 0 => fun p => Le.no _
  | k + 1 => by
    have h := Mli_stripped k
    exact fun p => MFi_stripped_1001 k h p
noncomputable def i_stripped_1001 (p : List Int) : Option (List (Int)) := lim fun k => (l198 k) p
theorem Rli_stripped_1001 (p : List Int) : Lim (fun k => (l198 k) p) (i_stripped_1001 p) := Lim.of_mono fun k => Mli_stripped k p
theorem Ei_stripped_1001 (p : List Int) : i_stripped_1001 p =
  bif decide (0 < (↑(List.length p) : Int)) then
    bif boundA (IntKind.wrap IntKind.i64 ((↑(List.length p) : Int) - 1)) (List.length p) then
      bif decide (List.getD p (Int.toNat (IntKind.wrap IntKind.i64 ((↑(List.length p) : Int) - 1))) 0 = 0) then
        bif boundE (IntKind.wrap IntKind.i64 ((↑(List.length p) : Int) - 1)) (List.length p) then
          bif decide (0 ≤ 0) && decide (0 ≤ IntKind.wrap IntKind.i64 ((↑(List.length p) : Int) - 1)) then
            i_stripped_1001 (List.drop (Int.toNat 0) (List.take (Int.toNat (IntKind.wrap IntKind.i64 ((↑(List.length p) : Int) - 1))) p))
          else
            none
        else
          none
      else
        (slices_Clone_int_int p).bind fun r0 =>
        some r0
    else
      none
  else
    (slices_Clone_int_int p).bind fun r1 =>
    some r1 := by
  refine Lim.uniq (Lim.shift (Rli_stripped_1001 p)) (?_ : Lim (fun k => F198_1001 k ((l198 k)) p) _)
  unfold F198_1001
  repeat' first | with_reducible exact Lim.ret _ | with_reducible exact Rslices_Clone_int_int _ | with_reducible exact Rli_stripped_1001 _ | with_reducible refine Lim.cond ?_ ?_ | with_reducible refine Lim.bind ?_ fun _ => ?_
noncomputable def i_stripped (p : List (Int)) : Option (List (Int)) :=
  i_stripped_1001 p
theorem Mi_stripped (k : Nat) (p : List (Int)) : Le (f198 k p) (f198 (k + 1) p) := by
  have h := Mli_stripped k
  unfold f198 F198
  repeat' first | with_reducible exact Le.rfl _ | with_reducible exact h _ | with_reducible refine Le.cond ?_ ?_ | with_reducible refine Le.bind ?_ fun _ => ?_
theorem Ri_stripped (p : List (Int)) : Lim (fun k => f198 k p) (i_stripped p) := by
  unfold f198 F198 i_stripped
  repeat' first | with_reducible exact Lim.ret _ | with_reducible exact Rli_stripped_1001 _ | with_reducible refine Lim.cond ?_ ?_ | with_reducible refine Lim.bind ?_ fun _ => ?_

-- impl.addSingle
theorem MFi_addSingle_1003 (k : Nat) {r1003 q1003 : List Int → List Int → List Int → Int → Int → Option (List (Int))} (h1003 : ∀ (p : List Int) (q : List Int) (outs : List Int) (t14 : Int) (t15 : Int), Le (r1003 p q outs t14 t15) (q1003 p q outs t14 t15)) (p : List Int) (q : List Int) (outs : List Int) (t14 : Int) (t15 : Int) : Le (F133_1003 k r1003 p q outs t14 t15) (F133_1003 (k + 1) q1003 p q outs t14 t15) := by
  unfold F133_1003
  repeat' first | with_reducible exact Le.rfl _ | with_reducible exact Mi_stripped _ _ | with_reducible exact h1003 _ _ _ _ _ | with_reducible refine Le.cond ?_ ?_ | with_reducible refine Le.bind ?_ fun _ => ?_
theorem Mli_addSingle : ∀ k : Nat, ∀ (p : List Int) (q : List Int) (outs : List Int) (t14 : Int) (t15 : Int), Le ((l133 k) p q outs t14 t15) ((l133 (k + 1)) p q outs t14 t15)
  | 0 => fun p q outs t14 t15 => Le.no _
  | k + 1 => by
    have h := Mli_addSingle k
    exact fun p q outs t14 t15 => MFi_addSingle_1003 k h p q outs t14 t15
noncomputable def i_addSingle_1003 (p : List Int) (q : List Int) (outs : List Int) (t14 : Int) (t15 : Int) : Option (List (Int)) := lim fun k => (l133 k) p q outs t14 t15
theorem Rli_addSingle_1003 (p : List Int) (q : List Int) (outs : List Int) (t14 : Int) (t15 : Int) : Lim (fun k => (l133 k) p q outs t14 t15) (i_addSingle_1003 p q outs t14 t15) := Lim.of_mono fun k => Mli_addSingle k p q outs t14 t15
theorem Ei_addSingle_1003 (p : List Int) (q : List Int) (outs : List Int) (t14 : Int) (t15 : Int) : i_addSingle_1003 p q outs t14 t15 =
  bif decide (t15 < t14) then
    bif decide (t15 < (↑(List.length p) : Int)) then
      bif boundA t15 (List.length outs) then
        bif Nat.blt (Int.toNat t15) (List.length outs) then
          bif boundA t15 (List.length p) then
            bif boundA t15 (List.length outs) then
              bif Nat.blt (Int.toNat t15) (List.length outs) then
                bif decide (t15 < (↑(List.length q) : Int)) then
                  bif boundA t15 (List.length (List.set outs (Int.toNat t15) (IntKind.wrap IntKind.i64 (List.getD outs (Int.toNat t15) 0 + List.getD p (Int.toNat t15) 0)))) then
                    bif Nat.blt (Int.toNat t15) (List.length (List.set outs (Int.toNat t15) (IntKind.wrap IntKind.i64 (List.getD outs (Int.toNat t15) 0 + List.getD p (Int.toNat t15) 0)))) then
                      bif boundA t15 (List.length q) then
                        bif boundA t15 (List.length (List.set outs (Int.toNat t15) (IntKind.wrap IntKind.i64 (List.getD outs (Int.toNat t15) 0 + List.getD p (Int.toNat t15) 0)))) then
                          bif Nat.blt (Int.toNat t15) (List.length (List.set outs (Int.toNat t15) (IntKind.wrap IntKind.i64 (List.getD outs (Int.toNat t15) 0 + List.getD p (Int.toNat t15) 0)))) then
                            i_addSingle_1003 p q (List.set (List.set outs (Int.toNat t15) (IntKind.wrap IntKind.i64 (List.getD outs (Int.toNat t15) 0 + List.getD p (Int.toNat t15) 0))) (Int.toNat t15) (IntKind.wrap IntKind.i64 (List.getD (List.set outs (Int.toNat t15) (IntKind.wrap IntKind.i64 (List.getD outs (Int.toNat t15) 0 + List.getD p (Int.toNat t15) 0))) (Int.toNat t15) 0 + List.getD q (Int.toNat t15) 0))) t14 (IntKind.wrap IntKind.i64 (t15 + 1))
                          else
                            none
                        else
                          none
                      else
                        none
                    else
                      none
                  else
                    none
                else
                  i_addSingle_1003 p q (List.set outs (Int.toNat t15) (IntKind.wrap IntKind.i64 (List.getD outs (Int.toNat t15) 0 + List.getD p (Int.toNat t15) 0))) t14 (IntKind.wrap IntKind.i64 (t15 + 1))
              else
                none
            else
              none
          else
            none
        else
          none
      else
        none
    else
      bif decide (t15 < (↑(List.length q) : Int)) then
        bif boundA t15 (List.length outs) then
          bif Nat.blt (Int.toNat t15) (List.length outs) then
            bif boundA t15 (List.length q) then
              bif boundA t15 (List.length outs) then
                bif Nat.blt (Int.toNat t15) (List.length outs) then
                  i_addSingle_1003 p q (List.set outs (Int.toNat t15) (IntKind.wrap IntKind.i64 (List.getD outs (Int.toNat t15) 0 + List.getD q (Int.toNat t15) 0))) t14 (IntKind.wrap IntKind.i64 (t15 + 1))
                else
                  none
              else
                none
            else
              none
          else
            none
        else
          none
      else
        i_addSingle_1003 p q outs t14 (IntKind.wrap IntKind.i64 (t15 + 1))
  else
    (i_stripped outs).bind fun r0 =>
    some r0 := by
  refine Lim.uniq (Lim.shift (Rli_addSingle_1003 p q outs t14 t15)) (?_ : Lim (fun k => F133_1003 k ((l133 k)) p q outs t14 t15) _)
  unfold F133_1003
  repeat' first | with_reducible exact Lim.ret _ | with_reducible exact Ri_stripped _ | with_reducible exact Rli_addSingle_1003 _ _ _ _ _ | with_reducible refine Lim.cond ?_ ?_ | with_reducible refine Lim.bind ?_ fun _ => ?_
noncomputable def i_addSingle (p : List (Int)) (q : List (Int)) : Option (List (Int)) :=
  bif decide (0 ≤ bif decide ((↑(List.length p) : Int) < (↑(List.length q) : Int)) then (↑(List.length q) : Int) else (↑(List.length p) : Int)) then
    bif decide ((bif decide ((↑(List.length p) : Int) < (↑(List.length q) : Int)) then (↑(List.length q) : Int) else (↑(List.length p) : Int)) ≤ bif decide ((↑(List.length p) : Int) < (↑(List.length q) : Int)) then (↑(List.length q) : Int) else (↑(List.length p) : Int)) then
      bif decide ((bif decide ((↑(List.length p) : Int) < (↑(List.length q) : Int)) then (↑(List.length q) : Int) else (↑(List.length p) : Int)) * (↑8 : Int) ≤ 140737488355328) then
        i_addSingle_1003 p q (List.replicate (Int.toNat (bif decide ((↑(List.length p) : Int) < (↑(List.length q) : Int)) then (↑(List.length q) : Int) else (↑(List.length p) : Int))) (dflt (Ty.int IntKind.i64))) ((↑(List.length (List.replicate (Int.toNat (bif decide ((↑(List.length p) : Int) < (↑(List.length q) : Int)) then (↑(List.length q) : Int) else (↑(List.length p) : Int))) (dflt (Ty.int IntKind.i64)))) : Int)) (0)
      else
        none
    else
      none
  else
    none
theorem Mi_addSingle (k : Nat) (p : List (Int)) (q : List (Int)) : Le (f133 k p q) (f133 (k + 1) p q) := by
  have h := Mli_addSingle k
  unfold f133 F133
  repeat' first | with_reducible exact Le.rfl _ | with_reducible exact h _ _ _ _ _ | with_reducible refine Le.cond ?_ ?_ | with_reducible refine Le.bind ?_ fun _ => ?_
theorem Ri_addSingle (p : List (Int)) (q : List (Int)) : Lim (fun k => f133 k p q) (i_addSingle p q) := by
  unfold f133 F133 i_addSingle
  repeat' first | with_reducible exact Lim.ret _ | with_reducible exact Rli_addSingle_1003 _ _ _ _ _ | with_reducible refine Lim.cond ?_ ?_ | with_reducible refine Lim.bind ?_ fun _ => ?_

-- impl.multiplySingle
theorem MFi_multiplySingle_1003 (k : Nat) {r1003 q1003 : List Int → List Int → List Int → Int → Int → Option (List (Int))} (h1003 : ∀ (q : List Int) (outs : List Int) (t16 : List Int) (t17 : Int) (t18 : Int), Le (r1003 q outs t16 t17 t18) (q1003 q outs t16 t17 t18)) {r1006 q1006 : List Int → List Int → Int → Int → List Int → Int → Int → List Int → Int → Int → Option (List (Int))} (h1006 : ∀ (q : List Int) (outs : List Int) (i : Int) (a : Int) (t16 : List Int) (t17 : Int) (t18 : Int) (t23 : List Int) (t24 : Int) (t25 : Int), Le (r1006 q outs i a t16 t17 t18 t23 t24 t25) (q1006 q outs i a t16 t17 t18 t23 t24 t25)) (q : List Int) (outs : List Int) (t16 : List Int) (t17 : Int) (t18 : Int) : Le (F134_1003 k r1003 r1006 q outs t16 t17 t18) (F134_1003 (k + 1) q1003 q1006 q outs t16 t17 t18) := by
  unfold F134_1003
  repeat' first | with_reducible exact Le.rfl _ | with_reducible exact Mi_stripped _ _ | with_reducible exact h1003 _ _ _ _ _ | with_reducible exact h1006 _ _ _ _ _ _ _ _ _ _ | with_reducible refine Le.cond ?_ ?_ | with_reducible refine Le.bind ?_ fun _ => ?_
theorem MFi_multiplySingle_1006 (k : Nat) {r1003 q1003 : List Int → List Int → List Int → Int → Int → Option (List (Int))} (h1003 : ∀ (q : List Int) (outs : List Int) (t16 : List Int) (t17 : Int) (t18 : Int), Le (r1003 q outs t16 t17 t18) (q1003 q outs t16 t17 t18)) {r1006 q1006 : List Int → List Int → Int → Int → List Int → Int → Int → List Int → Int → Int → Option (List (Int))} (h1006 : ∀ (q : List Int) (outs : List Int) (i : Int) (a : Int) (t16 : List Int) (t17 : Int) (t18 : Int) (t23 : List Int) (t24 : Int) (t25 : Int), Le (r1006 q outs i a t16 t17 t18 t23 t24 t25) (q1006 q outs i a t16 t17 t18 t23 t24 t25)) (q : List Int) (outs : List Int) (i : Int) (a : Int) (t16 : List Int) (t17 : Int) (t18 : Int) (t23 : List Int) (t24 : Int) (t25 : Int) : Le (F134_1006 k r1003 r1006 q outs i a t16 t17 t18 t23 t24 t25) (F134_1006 (k + 1) q1003 q1006 q outs i a t16 t17 t18 t23 t24 t25) := by
  unfold F134_1006
  repeat' first | with_reducible exact Le.rfl _ | with_reducible exact h1003 _ _ _ _ _ | with_reducible exact h1006 _ _ _ _ _ _ _ _ _ _ | with_reducible refine Le.cond ?_ ?_ | with_reducible refine Le.bind ?_ fun _ => ?_
theorem Mli_multiplySingle : ∀ k : Nat, (∀ (q : List Int) (outs : List Int) (t16 : List Int) (t17 : Int) (t18 : Int), Le ((l134 k).1 q outs t16 t17 t18) ((l134 (k + 1)).1 q outs t16 t17 t18)) ∧ (∀ (q : List Int) (outs : List Int) (i : Int) (a : Int) (t16 : List Int) (t17 : Int) (t18 : Int) (t23 : List Int) (t24 : Int) (t25 : Int), Le ((l134 k).2 q outs i a t16 t17 t18 t23 t24 t25) ((l134 (k + 1)).2 q outs i a t16 t17 t18 t23 t24 t25))
  | 0 => ⟨fun q outs t16 t17 t18 => Le.no _, fun q outs i a t16 t17 t18 t23 t24 t25 => Le.no _⟩
  | k + 1 => by
    have h := Mli_multiplySingle k
    exact ⟨fun q outs t16 t17 t18 => MFi_multiplySingle_1003 k h.1 h.2 q outs t16 t17 t18, fun q outs i a t16 t17 t18 t23 t24 t25 => MFi_multiplySingle_1006 k h.1 h.2 q outs i a t16 t17 t18 t23 t24 t25⟩
noncomputable def i_multiplySingle_1003 (q : List Int) (outs : List Int) (t16 : List Int) (t17 : Int) (t18 : Int) : Option (List (Int)) := lim fun k => (l134 k).1 q outs t16 t17 t18
theorem Rli_multiplySingle_1003 (q : List Int) (outs : List Int) (t16 : List Int) (t17 : Int) (t18 : Int) : Lim (fun k => (l134 k).1 q outs t16 t17 t18) (i_multiplySingle_1003 q outs t16 t17 t18) := Lim.of_mono fun k => (Mli_multiplySingle k).1 q outs t16 t17 t18
noncomputable def i_multiplySingle_1006 (q : List Int) (outs : List Int) (i : Int) (a : Int) (t16 : List Int) (t17 : Int) (t18 : Int) (t23 : List Int) (t24 : Int) (t25 : Int) : Option (List (Int)) := lim fun k => (l134 k).2 q outs i a t16 t17 t18 t23 t24 t25
theorem Rli_multiplySingle_1006 (q : List Int) (outs : List Int) (i : Int) (a : Int) (t16 : List Int) (t17 : Int) (t18 : Int) (t23 : List Int) (t24 : Int) (t25 : Int) : Lim (fun k => (l134 k).2 q outs i a t16 t17 t18 t23 t24 t25) (i_multiplySingle_1006 q outs i a t16 t17 t18 t23 t24 t25) := Lim.of_mono fun k => (Mli_multiplySingle k).2 q outs i a t16 t17 t18 t23 t24 t25
theorem Ei_multiplySingle_1003 (q : List Int) (outs : List Int) (t16 : List Int) (t17 : Int) (t18 : Int) : i_multiplySingle_1003 q outs t16 t17 t18 =
  bif decide (t18 < t17) then
    bif boundA t18 (List.length t16) then
      i_multiplySingle_1006 q outs t18 (List.getD t16 (Int.toNat t18) 0) t16 t17 t18 q ((↑(List.length q) : Int)) (0)
    else
      none
  else
    (i_stripped outs).bind fun r0 =>
    some r0 := by
  refine Lim.uniq (Lim.shift (Rli_multiplySingle_1003 q outs t16 t17 t18)) (?_ : Lim (fun k => F134_1003 k ((l134 k).1) ((l134 k).2) q outs t16 t17 t18) _)
  unfold F134_1003
  repeat' first | with_reducible exact Lim.ret _ | with_reducible exact Ri_stripped _ | with_reducible exact Rli_multiplySingle_1003 _ _ _ _ _ | with_reducible exact Rli_multiplySingle_1006 _ _ _ _ _ _ _ _ _ _ | with_reducible refine Lim.cond ?_ ?_ | with_reducible refine Lim.bind ?_ fun _ => ?_
theorem Ei_multiplySingle_1006 (q : List Int) (outs : List Int) (i : Int) (a : Int) (t16 : List Int) (t17 : Int) (t18 : Int) (t23 : List Int) (t24 : Int) (t25 : Int) : i_multiplySingle_1006 q outs i a t16 t17 t18 t23 t24 t25 =
  bif decide (t25 < t24) then
    bif boundA t25 (List.length t23) then
      bif boundA (IntKind.wrap IntKind.i64 (i + t25)) (List.length outs) then
        bif Nat.blt (Int.toNat (IntKind.wrap IntKind.i64 (i + t25))) (List.length outs) then
          bif boundA (IntKind.wrap IntKind.i64 (i + t25)) (List.length outs) then
            bif Nat.blt (Int.toNat (IntKind.wrap IntKind.i64 (i + t25))) (List.length outs) then
              i_multiplySingle_1006 q (List.set outs (Int.toNat (IntKind.wrap IntKind.i64 (i + t25))) (IntKind.wrap IntKind.i64 (List.getD outs (Int.toNat (IntKind.wrap IntKind.i64 (i + t25))) 0 + IntKind.wrap IntKind.i64 (a * List.getD t23 (Int.toNat t25) 0)))) i a t16 t17 t18 t23 t24 (IntKind.wrap IntKind.i64 (t25 + 1))
            else
              none
          else
            none
        else
          none
      else
        none
    else
      none
  else
    i_multiplySingle_1003 q outs t16 t17 (IntKind.wrap IntKind.i64 (t18 + 1)) := by
  refine Lim.uniq (Lim.shift (Rli_multiplySingle_1006 q outs i a t16 t17 t18 t23 t24 t25)) (?_ : Lim (fun k => F134_1006 k ((l134 k).1) ((l134 k).2) q outs i a t16 t17 t18 t23 t24 t25) _)
  unfold F134_1006
  repeat' first | with_reducible exact Lim.ret _ | with_reducible exact Rli_multiplySingle_1003 _ _ _ _ _ | with_reducible exact Rli_multiplySingle_1006 _ _ _ _ _ _ _ _ _ _ | with_reducible refine Lim.cond ?_ ?_ | with_reducible refine Lim.bind ?_ fun _ => ?_
noncomputable def i_multiplySingle (p : List (Int)) (q : List (Int)) : Option (List (Int)) :=
  bif decide (0 ≤ IntKind.wrap IntKind.i64 ((↑(List.length p) : Int) + (↑(List.length q) : Int))) then
    bif decide (IntKind.wrap IntKind.i64 ((↑(List.length p) : Int) + (↑(List.length q) : Int)) ≤ IntKind.wrap IntKind.i64 ((↑(List.length p) : Int) + (↑(List.length q) : Int))) then
      bif decide (IntKind.wrap IntKind.i64 ((↑(List.length p) : Int) + (↑(List.length q) : Int)) * (↑8 : Int) ≤ 140737488355328) then
        i_multiplySingle_1003 q (List.replicate (Int.toNat (IntKind.wrap IntKind.i64 ((↑(List.length p) : Int) + (↑(List.length q) : Int)))) (dflt (Ty.int IntKind.i64))) p ((↑(List.length p) : Int)) (0)
      else
        none
    else
      none
  else
    none
theorem Mi_multiplySingle (k : Nat) (p : List (Int)) (q : List (Int)) : Le (f134 k p q) (f134 (k + 1) p q) := by
  have h := Mli_multiplySingle k
  unfold f134 F134
  repeat' first | with_reducible exact Le.rfl _ | with_reducible exact h.1 _ _ _ _ _ | with_reducible exact h.2 _ _ _ _ _ _ _ _ _ _ | with_reducible refine Le.cond ?_ ?_ | with_reducible refine Le.bind ?_ fun _ => ?_
theorem Ri_multiplySingle (p : List (Int)) (q : List (Int)) : Lim (fun k => f134 k p q) (i_multiplySingle p q) := by
  unfold f134 F134 i_multiplySingle
  repeat' first | with_reducible exact Lim.ret _ | with_reducible exact Rli_multiplySingle_1003 _ _ _ _ _ | with_reducible exact Rli_multiplySingle_1006 _ _ _ _ _ _ _ _ _ _ | with_reducible refine Lim.cond ?_ ?_ | with_reducible refine Lim.bind ?_ fun _ => ?_

-- impl.familyAt
noncomputable def i_familyAt (p : List (Int)) (q : List (Int)) (i : Int) (fine : Int) : Option (List (Int)) :=
  bif !decide (fine < 0) then
    (i_multiplySingle p [IntKind.wrap IntKind.i64 (1 * 2 ^ min (Int.toNat fine) (IntKind.bits IntKind.i64))]).bind fun r0 =>
    (i_multiplySingle q [i]).bind fun r1 =>
    (i_addSingle r0 r1).bind fun r2 =>
    some r2
  else
    none
theorem Mi_familyAt (k : Nat) (p : List (Int)) (q : List (Int)) (i : Int) (fine : Int) : Le (f77 k p q i fine) (f77 (k + 1) p q i fine) := by
  unfold f77
  repeat' first | with_reducible exact Le.rfl _ | with_reducible exact Mi_addSingle _ _ _ | with_reducible exact Mi_multiplySingle _ _ _ | with_reducible refine Le.cond ?_ ?_ | with_reducible refine Le.bind ?_ fun _ => ?_
theorem Ri_familyAt (p : List (Int)) (q : List (Int)) (i : Int) (fine : Int) : Lim (fun k => f77 k p q i fine) (i_familyAt p q i fine) := by
  unfold f77 i_familyAt
  repeat' first | with_reducible exact Lim.ret _ | with_reducible exact Ri_addSingle _ _ | with_reducible exact Ri_multiplySingle _ _ | with_reducible refine Lim.cond ?_ ?_ | with_reducible refine Lim.bind ?_ fun _ => ?_

-- impl.NarrowAt
noncomputable def i_NarrowAt (p : List (Int)) (q : List (Int)) (x_Low_N : Int) (x_Low_K : Int) (x_High_N : Int) (x_High_K : Int) (i : Int) (fine : Int) : Option (((Int × Int) × Int × Int) × Bool) :=
  (i_isFamily p q fine).bind fun r0 =>
  bif !r0 then
    some ((((0, 0), 0, 0), false))
  else
    (i_isFit x_Low_N x_Low_K x_High_N x_High_K).bind fun r1 =>
    bif !r1 then
      some ((((0, 0), 0, 0), false))
    else
      (i_isMoment i fine).bind fun r2 =>
      bif !r2 then
        some ((((0, 0), 0, 0), false))
      else
        (i_familyAt p q i fine).bind fun r3 =>
        (i_narrowAt r3 x_Low_N x_Low_K x_High_N x_High_K).bind fun r4 =>
        some ((((r4.fst.fst.fst, r4.fst.fst.snd), r4.fst.snd.fst, r4.fst.snd.snd), r4.snd))
theorem Mi_NarrowAt (k : Nat) (p : List (Int)) (q : List (Int)) (x_Low_N : Int) (x_Low_K : Int) (x_High_N : Int) (x_High_K : Int) (i : Int) (fine : Int) : Le (f17 k p q x_Low_N x_Low_K x_High_N x_High_K i fine) (f17 (k + 1) p q x_Low_N x_Low_K x_High_N x_High_K i fine) := by
  unfold f17
  repeat' first | with_reducible exact Le.rfl _ | with_reducible exact Mi_isFamily _ _ _ _ | with_reducible exact Mi_isFit _ _ _ _ _ | with_reducible exact Mi_isMoment _ _ _ | with_reducible exact Mi_narrowAt _ _ _ _ _ _ | with_reducible exact Mi_familyAt _ _ _ _ _ | with_reducible refine Le.cond ?_ ?_ | with_reducible refine Le.bind ?_ fun _ => ?_
theorem Ri_NarrowAt (p : List (Int)) (q : List (Int)) (x_Low_N : Int) (x_Low_K : Int) (x_High_N : Int) (x_High_K : Int) (i : Int) (fine : Int) : Lim (fun k => f17 k p q x_Low_N x_Low_K x_High_N x_High_K i fine) (i_NarrowAt p q x_Low_N x_Low_K x_High_N x_High_K i fine) := by
  unfold f17 i_NarrowAt
  repeat' first | with_reducible exact Lim.ret _ | with_reducible exact Ri_isFamily _ _ _ | with_reducible exact Ri_isFit _ _ _ _ | with_reducible exact Ri_isMoment _ _ | with_reducible exact Ri_narrowAt _ _ _ _ _ | with_reducible exact Ri_familyAt _ _ _ _ | with_reducible refine Lim.cond ?_ ?_ | with_reducible refine Lim.bind ?_ fun _ => ?_

-- laws.eqDyadic
noncomputable def w_eqDyadic (a_N : Int) (a_K : Int) (b_N : Int) (b_K : Int) : Option (Bool) :=
  bif !decide (a_N = b_N) then
    some false
  else
    bif !decide (a_K = b_K) then
      some false
    else
      some true
theorem Mw_eqDyadic (k : Nat) (a_N : Int) (a_K : Int) (b_N : Int) (b_K : Int) : Le (f78 k a_N a_K b_N b_K) (f78 (k + 1) a_N a_K b_N b_K) := by
  unfold f78
  repeat' first | with_reducible exact Le.rfl _ | with_reducible refine Le.cond ?_ ?_ | with_reducible refine Le.bind ?_ fun _ => ?_
theorem Rw_eqDyadic (a_N : Int) (a_K : Int) (b_N : Int) (b_K : Int) : Lim (fun k => f78 k a_N a_K b_N b_K) (w_eqDyadic a_N a_K b_N b_K) := by
  unfold f78 w_eqDyadic
  repeat' first | with_reducible exact Lim.ret _ | with_reducible refine Lim.cond ?_ ?_ | with_reducible refine Lim.bind ?_ fun _ => ?_

-- laws.eqInterval
noncomputable def w_eqInterval (a_Low_N : Int) (a_Low_K : Int) (a_High_N : Int) (a_High_K : Int) (b_Low_N : Int) (b_Low_K : Int) (b_High_N : Int) (b_High_K : Int) : Option (Bool) :=
  (w_eqDyadic a_Low_N a_Low_K b_Low_N b_Low_K).bind fun r0 =>
  bif !r0 then
    some false
  else
    (w_eqDyadic a_High_N a_High_K b_High_N b_High_K).bind fun r1 =>
    bif !r1 then
      some false
    else
      some true
theorem Mw_eqInterval (k : Nat) (a_Low_N : Int) (a_Low_K : Int) (a_High_N : Int) (a_High_K : Int) (b_Low_N : Int) (b_Low_K : Int) (b_High_N : Int) (b_High_K : Int) : Le (f18 k a_Low_N a_Low_K a_High_N a_High_K b_Low_N b_Low_K b_High_N b_High_K) (f18 (k + 1) a_Low_N a_Low_K a_High_N a_High_K b_Low_N b_Low_K b_High_N b_High_K) := by
  unfold f18
  repeat' first | with_reducible exact Le.rfl _ | with_reducible exact Mw_eqDyadic _ _ _ _ _ | with_reducible refine Le.cond ?_ ?_ | with_reducible refine Le.bind ?_ fun _ => ?_
theorem Rw_eqInterval (a_Low_N : Int) (a_Low_K : Int) (a_High_N : Int) (a_High_K : Int) (b_Low_N : Int) (b_Low_K : Int) (b_High_N : Int) (b_High_K : Int) : Lim (fun k => f18 k a_Low_N a_Low_K a_High_N a_High_K b_Low_N b_Low_K b_High_N b_High_K) (w_eqInterval a_Low_N a_Low_K a_High_N a_High_K b_Low_N b_Low_K b_High_N b_High_K) := by
  unfold f18 w_eqInterval
  repeat' first | with_reducible exact Lim.ret _ | with_reducible exact Rw_eqDyadic _ _ _ _ | with_reducible refine Lim.cond ?_ ?_ | with_reducible refine Lim.bind ?_ fun _ => ?_

-- laws.eqIntS
theorem MFw_eqIntS_1004 (k : Nat) {r1004 q1004 : List Int → List Int → Int → Option (Bool)} (h1004 : ∀ (a : List Int) (b : List Int) (i : Int), Le (r1004 a b i) (q1004 a b i)) (a : List Int) (b : List Int) (i : Int) : Le (F31_1004 k r1004 a b i) (F31_1004 (k + 1) q1004 a b i) := by
  unfold F31_1004
  repeat' first | with_reducible exact Le.rfl _ | with_reducible exact h1004 _ _ _ | with_reducible refine Le.cond ?_ ?_ | with_reducible refine Le.bind ?_ fun _ => ?_
theorem Mlw_eqIntS : ∀ k : Nat, ∀ (a : List Int) (b : List Int) (i : Int), Le ((l31 k) a b i) ((l31 (k + 1)) a b i)
  | 0 => fun a b i => Le.no _
  | k + 1 => by
    have h := Mlw_eqIntS k
    exact fun a b i => MFw_eqIntS_1004 k h a b i
noncomputable def w_eqIntS_1004 (a : List Int) (b : List Int) (i : Int) : Option (Bool) := lim fun k => (l31 k) a b i
theorem Rlw_eqIntS_1004 (a : List Int) (b : List Int) (i : Int) : Lim (fun k => (l31 k) a b i) (w_eqIntS_1004 a b i) := Lim.of_mono fun k => Mlw_eqIntS k a b i
theorem Ew_eqIntS_1004 (a : List Int) (b : List Int) (i : Int) : w_eqIntS_1004 a b i =
  bif decide (i < (↑(List.length a) : Int)) then
    bif boundA i (List.length a) then
      bif boundA i (List.length b) then
        bif !decide (List.getD a (Int.toNat i) 0 = List.getD b (Int.toNat i) 0) then
          some false
        else
          w_eqIntS_1004 a b (IntKind.wrap IntKind.i64 (i + 1))
      else
        none
    else
      none
  else
    some true := by
  refine Lim.uniq (Lim.shift (Rlw_eqIntS_1004 a b i)) (?_ : Lim (fun k => F31_1004 k ((l31 k)) a b i) _)
  unfold F31_1004
  repeat' first | with_reducible exact Lim.ret _ | with_reducible exact Rlw_eqIntS_1004 _ _ _ | with_reducible refine Lim.cond ?_ ?_ | with_reducible refine Lim.bind ?_ fun _ => ?_
noncomputable def w_eqIntS (a : List (Int)) (b : List (Int)) : Option (Bool) :=
  bif !decide ((↑(List.length a) : Int) = (↑(List.length b) : Int)) then
    some false
  else
    w_eqIntS_1004 a b (0)
theorem Mw_eqIntS (k : Nat) (a : List (Int)) (b : List (Int)) : Le (f31 k a b) (f31 (k + 1) a b) := by
  have h := Mlw_eqIntS k
  unfold f31 F31
  repeat' first | with_reducible exact Le.rfl _ | with_reducible exact h _ _ _ | with_reducible refine Le.cond ?_ ?_ | with_reducible refine Le.bind ?_ fun _ => ?_
theorem Rw_eqIntS (a : List (Int)) (b : List (Int)) : Lim (fun k => f31 k a b) (w_eqIntS a b) := by
  unfold f31 F31 w_eqIntS
  repeat' first | with_reducible exact Lim.ret _ | with_reducible exact Rlw_eqIntS_1004 _ _ _ | with_reducible refine Lim.cond ?_ ?_ | with_reducible refine Lim.bind ?_ fun _ => ?_

end Go.Proofs.YtbaeikcfchiiaaaE
