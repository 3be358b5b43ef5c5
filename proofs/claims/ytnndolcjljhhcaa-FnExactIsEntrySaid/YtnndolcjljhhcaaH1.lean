/- Functions without a count of rounds; printed. -/
import Derived.Test.YtnndolcjljhhcaaE24
import Derived.Test.YtnndolcjljhhcaaG6
set_option maxRecDepth 100000
set_option maxHeartbeats 4000000
set_option linter.unusedVariables false
namespace Go.Proofs.YtnndolcjljhhcaaE
-- laws.szIntS
noncomputable def w_szIntS (a : List (Int)) (left : Int) : Option (Int) :=
  bif decide (IntKind.wrap IntKind.i64 (left - (↑(List.length a) : Int)) < 0) then
    some (-1)
  else
    some (IntKind.wrap IntKind.i64 (left - (↑(List.length a) : Int)))
theorem Mw_szIntS (k : Nat) (a : List (Int)) (left : Int) : Le (f100 k a left) (f100 (k + 1) a left) := by
  unfold f100
  repeat' first | with_reducible exact Le.rfl _ | with_reducible refine Le.cond ?_ ?_ | with_reducible refine Le.bind ?_ fun _ => ?_
theorem Rw_szIntS (a : List (Int)) (left : Int) : Lim (fun k => f100 k a left) (w_szIntS a left) := by
  unfold f100 w_szIntS
  repeat' first | with_reducible exact Lim.ret _ | with_reducible refine Lim.cond ?_ ?_ | with_reducible refine Lim.bind ?_ fun _ => ?_

-- laws.szBox
noncomputable def w_szBox (a_K : Int) (a_Low : List (Int)) (a_High : List (Int)) (left : Int) : Option (Int) :=
  (w_szIntS a_Low left).bind fun r0 =>
  bif decide (r0 < 0) then
    some (-1)
  else
    (w_szIntS a_High r0).bind fun r1 =>
    bif decide (r1 < 0) then
      some (-1)
    else
      some r1
theorem Mw_szBox (k : Nat) (a_K : Int) (a_Low : List (Int)) (a_High : List (Int)) (left : Int) : Le (f53 k a_K a_Low a_High left) (f53 (k + 1) a_K a_Low a_High left) := by
  unfold f53
  repeat' first | with_reducible exact Le.rfl _ | with_reducible exact Mw_szIntS _ _ _ | with_reducible refine Le.cond ?_ ?_ | with_reducible refine Le.bind ?_ fun _ => ?_
theorem Rw_szBox (a_K : Int) (a_Low : List (Int)) (a_High : List (Int)) (left : Int) : Lim (fun k => f53 k a_K a_Low a_High left) (w_szBox a_K a_Low a_High left) := by
  unfold f53 w_szBox
  repeat' first | with_reducible exact Lim.ret _ | with_reducible exact Rw_szIntS _ _ | with_reducible refine Lim.cond ?_ ?_ | with_reducible refine Lim.bind ?_ fun _ => ?_

-- laws.szTermS
noncomputable def w_szTermS (a : List (Int × Int × Int × Int)) (left : Int) : Option (Int) :=
  bif decide (IntKind.wrap IntKind.i64 (left - (↑(List.length a) : Int)) < 0) then
    some (-1)
  else
    some (IntKind.wrap IntKind.i64 (left - (↑(List.length a) : Int)))
theorem Mw_szTermS (k : Nat) (a : List (Int × Int × Int × Int)) (left : Int) : Le (f123 k a left) (f123 (k + 1) a left) := by
  unfold f123
  repeat' first | with_reducible exact Le.rfl _ | with_reducible refine Le.cond ?_ ?_ | with_reducible refine Le.bind ?_ fun _ => ?_
theorem Rw_szTermS (a : List (Int × Int × Int × Int)) (left : Int) : Lim (fun k => f123 k a left) (w_szTermS a left) := by
  unfold f123 w_szTermS
  repeat' first | with_reducible exact Lim.ret _ | with_reducible refine Lim.cond ?_ ?_ | with_reducible refine Lim.bind ?_ fun _ => ?_

-- laws.szTermSS
theorem MFw_szTermSS_1005 (k : Nat) {r1005 q1005 : List (List (Int × Int × Int × Int)) → Int → Int → Option (Int)} (h1005 : ∀ (a : List (List (Int × Int × Int × Int))) (left : Int) (i : Int), Le (r1005 a left i) (q1005 a left i)) (a : List (List (Int × Int × Int × Int))) (left : Int) (i : Int) : Le (F90_1005 k r1005 a left i) (F90_1005 (k + 1) q1005 a left i) := by
  unfold F90_1005
  repeat' first | with_reducible exact Le.rfl _ | with_reducible exact Mw_szTermS _ _ _ | with_reducible exact h1005 _ _ _ | with_reducible refine Le.cond ?_ ?_ | with_reducible refine Le.bind ?_ fun _ => ?_
theorem Mlw_szTermSS : ∀ k : Nat, ∀ (a : List (List (Int × Int × Int × Int))) (left : Int) (i : Int), Le ((l90 k) a left i) ((l90 (k + 1)) a left i)
  | 0 => fun a left i => Le.no _
  | k + 1 => by
    have h := Mlw_szTermSS k
    exact fun a left i => MFw_szTermSS_1005 k h a left i
noncomputable def w_szTermSS_1005 (a : List (List (Int × Int × Int × Int))) (left : Int) (i : Int) : Option (Int) := lim fun k => (l90 k) a left i
theorem Rlw_szTermSS_1005 (a : List (List (Int × Int × Int × Int))) (left : Int) (i : Int) : Lim (fun k => (l90 k) a left i) (w_szTermSS_1005 a left i) := Lim.of_mono fun k => Mlw_szTermSS k a left i
theorem Ew_szTermSS_1005 (a : List (List (Int × Int × Int × Int))) (left : Int) (i : Int) : w_szTermSS_1005 a left i =
  bif decide (i < (↑(List.length a) : Int)) then
    bif boundA i (List.length a) then
      (w_szTermS (List.getD a (Int.toNat i) []) left).bind fun r0 =>
      bif decide (r0 < 0) then
        some (-1)
      else
        w_szTermSS_1005 a r0 (IntKind.wrap IntKind.i64 (i + 1))
    else
      none
  else
    some left := by
  refine Lim.uniq (Lim.shift (Rlw_szTermSS_1005 a left i)) (?_ : Lim (fun k => F90_1005 k ((l90 k)) a left i) _)
  unfold F90_1005
  repeat' first | with_reducible exact Lim.ret _ | with_reducible exact Rw_szTermS _ _ | with_reducible exact Rlw_szTermSS_1005 _ _ _ | with_reducible refine Lim.cond ?_ ?_ | with_reducible refine Lim.bind ?_ fun _ => ?_
noncomputable def w_szTermSS (a : List (List (Int × Int × Int × Int))) (left : Int) : Option (Int) :=
  bif decide (IntKind.wrap IntKind.i64 (left - (↑(List.length a) : Int)) < 0) then
    some (-1)
  else
    w_szTermSS_1005 a (IntKind.wrap IntKind.i64 (left - (↑(List.length a) : Int))) (0)
theorem Mw_szTermSS (k : Nat) (a : List (List (Int × Int × Int × Int))) (left : Int) : Le (f90 k a left) (f90 (k + 1) a left) := by
  have h := Mlw_szTermSS k
  unfold f90 F90
  repeat' first | with_reducible exact Le.rfl _ | with_reducible exact h _ _ _ | with_reducible refine Le.cond ?_ ?_ | with_reducible refine Le.bind ?_ fun _ => ?_
theorem Rw_szTermSS (a : List (List (Int × Int × Int × Int))) (left : Int) : Lim (fun k => f90 k a left) (w_szTermSS a left) := by
  unfold f90 F90 w_szTermSS
  repeat' first | with_reducible exact Lim.ret _ | with_reducible exact Rlw_szTermSS_1005 _ _ _ | with_reducible refine Lim.cond ?_ ?_ | with_reducible refine Lim.bind ?_ fun _ => ?_

-- laws.szEntry
noncomputable def w_szEntry (a_Name : ByteArray) (a_System : List (List (Int × Int × Int × Int))) (a_Box_K : Int) (a_Box_Low : List (Int)) (a_Box_High : List (Int)) (a_Least : Int) (a_Most : Int) (a_Version : Int) (left : Int) : Option (Int) :=
  bif decide (IntKind.wrap IntKind.i64 (left - (↑(ByteArray.size a_Name) : Int)) < 0) then
    some (-1)
  else
    (w_szTermSS a_System (IntKind.wrap IntKind.i64 (left - (↑(ByteArray.size a_Name) : Int)))).bind fun r0 =>
    bif decide (r0 < 0) then
      some (-1)
    else
      (w_szBox a_Box_K a_Box_Low a_Box_High r0).bind fun r1 =>
      bif decide (r1 < 0) then
        some (-1)
      else
        some r1
theorem Mw_szEntry (k : Nat) (a_Name : ByteArray) (a_System : List (List (Int × Int × Int × Int))) (a_Box_K : Int) (a_Box_Low : List (Int)) (a_Box_High : List (Int)) (a_Least : Int) (a_Most : Int) (a_Version : Int) (left : Int) : Le (f45 k a_Name a_System a_Box_K a_Box_Low a_Box_High a_Least a_Most a_Version left) (f45 (k + 1) a_Name a_System a_Box_K a_Box_Low a_Box_High a_Least a_Most a_Version left) := by
  unfold f45
  repeat' first | with_reducible exact Le.rfl _ | with_reducible exact Mw_szBox _ _ _ _ _ | with_reducible exact Mw_szTermSS _ _ _ | with_reducible refine Le.cond ?_ ?_ | with_reducible refine Le.bind ?_ fun _ => ?_
theorem Rw_szEntry (a_Name : ByteArray) (a_System : List (List (Int × Int × Int × Int))) (a_Box_K : Int) (a_Box_Low : List (Int)) (a_Box_High : List (Int)) (a_Least : Int) (a_Most : Int) (a_Version : Int) (left : Int) : Lim (fun k => f45 k a_Name a_System a_Box_K a_Box_Low a_Box_High a_Least a_Most a_Version left) (w_szEntry a_Name a_System a_Box_K a_Box_Low a_Box_High a_Least a_Most a_Version left) := by
  unfold f45 w_szEntry
  repeat' first | with_reducible exact Lim.ret _ | with_reducible exact Rw_szBox _ _ _ _ | with_reducible exact Rw_szTermSS _ _ | with_reducible refine Lim.cond ?_ ?_ | with_reducible refine Lim.bind ?_ fun _ => ?_

-- spec.l1In
noncomputable def s_l1In (n : Int) (lo : Int) (hi : Int) : Option (Bool) :=
  bif decide (lo ≤ n) then
    some (decide (n ≤ hi))
  else
    some false
theorem Ms_l1In (k : Nat) (n : Int) (lo : Int) (hi : Int) : Le (f85 k n lo hi) (f85 (k + 1) n lo hi) := by
  unfold f85
  repeat' first | with_reducible exact Le.rfl _ | with_reducible refine Le.cond ?_ ?_ | with_reducible refine Le.bind ?_ fun _ => ?_
theorem Rs_l1In (n : Int) (lo : Int) (hi : Int) : Lim (fun k => f85 k n lo hi) (s_l1In n lo hi) := by
  unfold f85 s_l1In
  repeat' first | with_reducible exact Lim.ret _ | with_reducible refine Lim.cond ?_ ?_ | with_reducible refine Lim.bind ?_ fun _ => ?_

-- spec.caName
theorem MFs_caName_1002 (k : Nat) {r1002 q1002 : ByteArray → Int → Option (Bool)} (h1002 : ∀ (s : ByteArray) (i : Int), Le (r1002 s i) (q1002 s i)) (s : ByteArray) (i : Int) : Le (F124_1002 k r1002 s i) (F124_1002 (k + 1) q1002 s i) := by
  unfold F124_1002
  repeat' first | with_reducible exact Le.rfl _ | with_reducible exact Ms_l1In _ _ _ _ | with_reducible exact h1002 _ _ | with_reducible refine Le.cond ?_ ?_ | with_reducible refine Le.bind ?_ fun _ => ?_
theorem Mls_caName : ∀ k : Nat, ∀ (s : ByteArray) (i : Int), Le ((l124 k) s i) ((l124 (k + 1)) s i)
  | 0 => fun s i => Le.no _
  | k + 1 => by
    have h := Mls_caName k
    exact fun s i => MFs_caName_1002 k h s i
noncomputable def s_caName_1002 (s : ByteArray) (i : Int) : Option (Bool) := lim fun k => (l124 k) s i
theorem Rls_caName_1002 (s : ByteArray) (i : Int) : Lim (fun k => (l124 k) s i) (s_caName_1002 s i) := Lim.of_mono fun k => Mls_caName k s i
theorem Es_caName_1002 (s : ByteArray) (i : Int) : s_caName_1002 s i =
  bif decide (i < (↑(ByteArray.size s) : Int)) then
    bif boundA i (ByteArray.size s) then
      bif decide ((↑(UInt8.toNat (Array.getD s.data (Int.toNat i) 0)) : Int) < 97) then
        some false
      else
        bif boundA i (ByteArray.size s) then
          bif decide (122 < (↑(UInt8.toNat (Array.getD s.data (Int.toNat i) 0)) : Int)) then
            some false
          else
            s_caName_1002 s (IntKind.wrap IntKind.i64 (i + 1))
        else
          none
    else
      none
  else
    (s_l1In (↑(ByteArray.size s) : Int) 1 8).bind fun r0 =>
    some r0 := by
  refine Lim.uniq (Lim.shift (Rls_caName_1002 s i)) (?_ : Lim (fun k => F124_1002 k ((l124 k)) s i) _)
  unfold F124_1002
  repeat' first | with_reducible exact Lim.ret _ | with_reducible exact Rs_l1In _ _ _ | with_reducible exact Rls_caName_1002 _ _ | with_reducible refine Lim.cond ?_ ?_ | with_reducible refine Lim.bind ?_ fun _ => ?_
noncomputable def s_caName (s : ByteArray) : Option (Bool) :=
  s_caName_1002 s (0)
theorem Ms_caName (k : Nat) (s : ByteArray) : Le (f124 k s) (f124 (k + 1) s) := by
  have h := Mls_caName k
  unfold f124 F124
  repeat' first | with_reducible exact Le.rfl _ | with_reducible exact h _ _ | with_reducible refine Le.cond ?_ ?_ | with_reducible refine Le.bind ?_ fun _ => ?_
theorem Rs_caName (s : ByteArray) : Lim (fun k => f124 k s) (s_caName s) := by
  unfold f124 F124 s_caName
  repeat' first | with_reducible exact Lim.ret _ | with_reducible exact Rls_caName_1002 _ _ | with_reducible refine Lim.cond ?_ ?_ | with_reducible refine Lim.bind ?_ fun _ => ?_

-- spec.dyPower
noncomputable def s_dyPower (k_ : Int) : Option (Int) :=
  bif !decide (IntKind.wrap IntKind.u64 k_ < 0) then
    some (IntKind.wrap IntKind.i64 (1 * 2 ^ min (Int.toNat (IntKind.wrap IntKind.u64 k_)) (IntKind.bits IntKind.i64)))
  else
    none
theorem Ms_dyPower (k : Nat) (k_ : Int) : Le (f107 k k_) (f107 (k + 1) k_) := by
  unfold f107
  repeat' first | with_reducible exact Le.rfl _ | with_reducible refine Le.cond ?_ ?_ | with_reducible refine Le.bind ?_ fun _ => ?_
theorem Rs_dyPower (k_ : Int) : Lim (fun k => f107 k k_) (s_dyPower k_) := by
  unfold f107 s_dyPower
  repeat' first | with_reducible exact Lim.ret _ | with_reducible refine Lim.cond ?_ ?_ | with_reducible refine Lim.bind ?_ fun _ => ?_

-- spec.bxGood
theorem MFs_bxGood_1006 (k : Nat) {r1006 q1006 : Int → List Int → List Int → Int → Bool → List Int → Int → Int → Option (Bool)} (h1006 : ∀ (is_0 : Int) (is_1 : List Int) (is_2 : List Int) (t : Int) (t4 : Bool) (t36 : List Int) (t37 : Int) (t38 : Int), Le (r1006 is_0 is_1 is_2 t t4 t36 t37 t38) (q1006 is_0 is_1 is_2 t t4 t36 t37 t38)) (is_0 : Int) (is_1 : List Int) (is_2 : List Int) (t : Int) (t4 : Bool) (t36 : List Int) (t37 : Int) (t38 : Int) : Le (F101_1006 k r1006 is_0 is_1 is_2 t t4 t36 t37 t38) (F101_1006 (k + 1) q1006 is_0 is_1 is_2 t t4 t36 t37 t38) := by
  unfold F101_1006
  repeat' first | with_reducible exact Le.rfl _ | with_reducible exact Ms_l1In _ _ _ _ | with_reducible exact h1006 _ _ _ _ _ _ _ _ | with_reducible refine Le.cond ?_ ?_ | with_reducible refine Le.bind ?_ fun _ => ?_
theorem Mls_bxGood : ∀ k : Nat, ∀ (is_0 : Int) (is_1 : List Int) (is_2 : List Int) (t : Int) (t4 : Bool) (t36 : List Int) (t37 : Int) (t38 : Int), Le ((l101 k) is_0 is_1 is_2 t t4 t36 t37 t38) ((l101 (k + 1)) is_0 is_1 is_2 t t4 t36 t37 t38)
  | 0 => fun is_0 is_1 is_2 t t4 t36 t37 t38 => Le.no _
  | k + 1 => by
    have h := Mls_bxGood k
    exact fun is_0 is_1 is_2 t t4 t36 t37 t38 => MFs_bxGood_1006 k h is_0 is_1 is_2 t t4 t36 t37 t38
noncomputable def s_bxGood_1006 (is_0 : Int) (is_1 : List Int) (is_2 : List Int) (t : Int) (t4 : Bool) (t36 : List Int) (t37 : Int) (t38 : Int) : Option (Bool) := lim fun k => (l101 k) is_0 is_1 is_2 t t4 t36 t37 t38
theorem Rls_bxGood_1006 (is_0 : Int) (is_1 : List Int) (is_2 : List Int) (t : Int) (t4 : Bool) (t36 : List Int) (t37 : Int) (t38 : Int) : Lim (fun k => (l101 k) is_0 is_1 is_2 t t4 t36 t37 t38) (s_bxGood_1006 is_0 is_1 is_2 t t4 t36 t37 t38) := Lim.of_mono fun k => Mls_bxGood k is_0 is_1 is_2 t t4 t36 t37 t38
theorem Es_bxGood_1006 (is_0 : Int) (is_1 : List Int) (is_2 : List Int) (t : Int) (t4 : Bool) (t36 : List Int) (t37 : Int) (t38 : Int) : s_bxGood_1006 is_0 is_1 is_2 t t4 t36 t37 t38 =
  bif decide (t38 < t37) then
    bif boundA t38 (List.length t36) then
      bif boundA t38 (List.length is_2) then
        (s_l1In (List.getD t36 (Int.toNat t38) 0) (IntKind.wrap IntKind.i64 (0 - t)) t).bind fun r0 =>
        bif !r0 then
          some false
        else
          (s_l1In (List.getD is_2 (Int.toNat t38) 0) (IntKind.wrap IntKind.i64 (0 - t)) t).bind fun r1 =>
          bif !r1 then
            some false
          else
            bif decide (List.getD is_2 (Int.toNat t38) 0 ≤ List.getD t36 (Int.toNat t38) 0) then
              some false
            else
              bif t4 then
                s_bxGood_1006 is_0 is_1 is_2 t true t36 t37 (IntKind.wrap IntKind.i64 (t38 + 1))
              else
                bif !decide (Int.tmod (List.getD t36 (Int.toNat t38) 0) 2 = 0) then
                  s_bxGood_1006 is_0 is_1 is_2 t true t36 t37 (IntKind.wrap IntKind.i64 (t38 + 1))
                else
                  s_bxGood_1006 is_0 is_1 is_2 t (!decide (Int.tmod (List.getD is_2 (Int.toNat t38) 0) 2 = 0)) t36 t37 (IntKind.wrap IntKind.i64 (t38 + 1))
      else
        none
    else
      none
  else
    some t4 := by
  refine Lim.uniq (Lim.shift (Rls_bxGood_1006 is_0 is_1 is_2 t t4 t36 t37 t38)) (?_ : Lim (fun k => F101_1006 k ((l101 k)) is_0 is_1 is_2 t t4 t36 t37 t38) _)
  unfold F101_1006
  repeat' first | with_reducible exact Lim.ret _ | with_reducible exact Rs_l1In _ _ _ | with_reducible exact Rls_bxGood_1006 _ _ _ _ _ _ _ _ | with_reducible refine Lim.cond ?_ ?_ | with_reducible refine Lim.bind ?_ fun _ => ?_
noncomputable def s_bxGood (L_K : Int) (L_Low : List (Int)) (L_High : List (Int)) : Option (Bool) :=
  (s_l1In L_K 0 8).bind fun r0 =>
  bif !r0 then
    some false
  else
    (s_l1In (↑(List.length L_Low) : Int) 1 3).bind fun r1 =>
    bif !r1 then
      some false
    else
      bif !decide ((↑(List.length L_High) : Int) = (↑(List.length L_Low) : Int)) then
        some false
      else
        (s_dyPower L_K).bind fun r2 =>
        s_bxGood_1006 L_K L_Low L_High (IntKind.wrap IntKind.i64 (8 * r2)) (decide (L_K = 0)) L_Low ((↑(List.length L_Low) : Int)) (0)
theorem Ms_bxGood (k : Nat) (L_K : Int) (L_Low : List (Int)) (L_High : List (Int)) : Le (f101 k L_K L_Low L_High) (f101 (k + 1) L_K L_Low L_High) := by
  have h := Mls_bxGood k
  unfold f101 F101
  repeat' first | with_reducible exact Le.rfl _ | with_reducible exact Ms_dyPower _ _ | with_reducible exact Ms_l1In _ _ _ _ | with_reducible exact h _ _ _ _ _ _ _ _ | with_reducible refine Le.cond ?_ ?_ | with_reducible refine Le.bind ?_ fun _ => ?_
theorem Rs_bxGood (L_K : Int) (L_Low : List (Int)) (L_High : List (Int)) : Lim (fun k => f101 k L_K L_Low L_High) (s_bxGood L_K L_Low L_High) := by
  unfold f101 F101 s_bxGood
  repeat' first | with_reducible exact Lim.ret _ | with_reducible exact Rs_dyPower _ | with_reducible exact Rs_l1In _ _ _ | with_reducible exact Rls_bxGood_1006 _ _ _ _ _ _ _ _ | with_reducible refine Lim.cond ?_ ?_ | with_reducible refine Lim.bind ?_ fun _ => ?_

-- spec.poTerm
noncomputable def s_poTerm (t_C : Int) (t_X : Int) (t_Y : Int) (t_Z : Int) : Option (Bool) :=
  (s_l1In t_C (-1000) 1000).bind fun r0 =>
  bif r0 then
    (s_l1In t_X 0 4).bind fun r1 =>
    bif r1 then
      (s_l1In t_Y 0 4).bind fun r2 =>
      bif r2 then
        (s_l1In t_Z 0 4).bind fun r3 =>
        bif r3 then
          some (decide (IntKind.wrap IntKind.i64 (IntKind.wrap IntKind.i64 (t_X + t_Y) + t_Z) ≤ 4))
        else
          some false
      else
        some false
    else
      some false
  else
    some false
theorem Ms_poTerm (k : Nat) (t_C : Int) (t_X : Int) (t_Y : Int) (t_Z : Int) : Le (f196 k t_C t_X t_Y t_Z) (f196 (k + 1) t_C t_X t_Y t_Z) := by
  unfold f196
  repeat' first | with_reducible exact Le.rfl _ | with_reducible exact Ms_l1In _ _ _ _ | with_reducible refine Le.cond ?_ ?_ | with_reducible refine Le.bind ?_ fun _ => ?_
theorem Rs_poTerm (t_C : Int) (t_X : Int) (t_Y : Int) (t_Z : Int) : Lim (fun k => f196 k t_C t_X t_Y t_Z) (s_poTerm t_C t_X t_Y t_Z) := by
  unfold f196 s_poTerm
  repeat' first | with_reducible exact Lim.ret _ | with_reducible exact Rs_l1In _ _ _ | with_reducible refine Lim.cond ?_ ?_ | with_reducible refine Lim.bind ?_ fun _ => ?_

-- spec.l1Sign
noncomputable def s_l1Sign (n : Int) : Option (Int) :=
  bif decide (0 < n) then
    some (1)
  else
    bif decide (n < 0) then
      some (-1)
    else
      some (0)
theorem Ms_l1Sign (k : Nat) (n : Int) : Le (f148 k n) (f148 (k + 1) n) := by
  unfold f148
  repeat' first | with_reducible exact Le.rfl _ | with_reducible refine Le.cond ?_ ?_ | with_reducible refine Le.bind ?_ fun _ => ?_
theorem Rs_l1Sign (n : Int) : Lim (fun k => f148 k n) (s_l1Sign n) := by
  unfold f148 s_l1Sign
  repeat' first | with_reducible exact Lim.ret _ | with_reducible refine Lim.cond ?_ ?_ | with_reducible refine Lim.bind ?_ fun _ => ?_

-- spec.poOrder
noncomputable def s_poOrder (a_C : Int) (a_X : Int) (a_Y : Int) (a_Z : Int) (b_C : Int) (b_X : Int) (b_Y : Int) (b_Z : Int) : Option (Int) :=
  bif !decide (a_X = b_X) then
    (s_l1Sign (IntKind.wrap IntKind.i64 (a_X - b_X))).bind fun r0 =>
    some r0
  else
    bif !decide (a_Y = b_Y) then
      (s_l1Sign (IntKind.wrap IntKind.i64 (a_Y - b_Y))).bind fun r1 =>
      some r1
    else
      (s_l1Sign (IntKind.wrap IntKind.i64 (a_Z - b_Z))).bind fun r2 =>
      some r2
theorem Ms_poOrder (k : Nat) (a_C : Int) (a_X : Int) (a_Y : Int) (a_Z : Int) (b_C : Int) (b_X : Int) (b_Y : Int) (b_Z : Int) : Le (f197 k a_C a_X a_Y a_Z b_C b_X b_Y b_Z) (f197 (k + 1) a_C a_X a_Y a_Z b_C b_X b_Y b_Z) := by
  unfold f197
  repeat' first | with_reducible exact Le.rfl _ | with_reducible exact Ms_l1Sign _ _ | with_reducible refine Le.cond ?_ ?_ | with_reducible refine Le.bind ?_ fun _ => ?_
theorem Rs_poOrder (a_C : Int) (a_X : Int) (a_Y : Int) (a_Z : Int) (b_C : Int) (b_X : Int) (b_Y : Int) (b_Z : Int) : Lim (fun k => f197 k a_C a_X a_Y a_Z b_C b_X b_Y b_Z) (s_poOrder a_C a_X a_Y a_Z b_C b_X b_Y b_Z) := by
  unfold f197 s_poOrder
  repeat' first | with_reducible exact Lim.ret _ | with_reducible exact Rs_l1Sign _ | with_reducible refine Lim.cond ?_ ?_ | with_reducible refine Lim.bind ?_ fun _ => ?_

-- spec.poGood
theorem MFs_poGood_1002 (k : Nat) {r1002 q1002 : List (Int × Int × Int × Int) → List (Int × Int × Int × Int) → Int → Int → Option (Bool)} (h1002 : ∀ (p : List (Int × Int × Int × Int)) (t5 : List (Int × Int × Int × Int)) (t6 : Int) (t7 : Int), Le (r1002 p t5 t6 t7) (q1002 p t5 t6 t7)) (p : List (Int × Int × Int × Int)) (t5 : List (Int × Int × Int × Int)) (t6 : Int) (t7 : Int) : Le (F184_1002 k r1002 p t5 t6 t7) (F184_1002 (k + 1) q1002 p t5 t6 t7) := by
  unfold F184_1002
  repeat' first | with_reducible exact Le.rfl _ | with_reducible exact Ms_poTerm _ _ _ _ _ | with_reducible exact Ms_poOrder _ _ _ _ _ _ _ _ _ | with_reducible exact h1002 _ _ _ _ | with_reducible refine Le.cond ?_ ?_ | with_reducible refine Le.bind ?_ fun _ => ?_
theorem Mls_poGood : ∀ k : Nat, ∀ (p : List (Int × Int × Int × Int)) (t5 : List (Int × Int × Int × Int)) (t6 : Int) (t7 : Int), Le ((l184 k) p t5 t6 t7) ((l184 (k + 1)) p t5 t6 t7)
  | 0 => fun p t5 t6 t7 => Le.no _
  | k + 1 => by
    have h := Mls_poGood k
    exact fun p t5 t6 t7 => MFs_poGood_1002 k h p t5 t6 t7
noncomputable def s_poGood_1002 (p : List (Int × Int × Int × Int)) (t5 : List (Int × Int × Int × Int)) (t6 : Int) (t7 : Int) : Option (Bool) := lim fun k => (l184 k) p t5 t6 t7
theorem Rls_poGood_1002 (p : List (Int × Int × Int × Int)) (t5 : List (Int × Int × Int × Int)) (t6 : Int) (t7 : Int) : Lim (fun k => (l184 k) p t5 t6 t7) (s_poGood_1002 p t5 t6 t7) := Lim.of_mono fun k => Mls_poGood k p t5 t6 t7
theorem Es_poGood_1002 (p : List (Int × Int × Int × Int)) (t5 : List (Int × Int × Int × Int)) (t6 : Int) (t7 : Int) : s_poGood_1002 p t5 t6 t7 =
  bif decide (t7 < t6) then
    bif boundA t7 (List.length t5) then
      (s_poTerm (List.getD t5 (Int.toNat t7) (0, 0, 0, 0)).fst (List.getD t5 (Int.toNat t7) (0, 0, 0, 0)).snd.fst (List.getD t5 (Int.toNat t7) (0, 0, 0, 0)).snd.snd.fst (List.getD t5 (Int.toNat t7) (0, 0, 0, 0)).snd.snd.snd).bind fun r0 =>
      bif !r0 then
        some false
      else
        bif decide ((List.getD t5 (Int.toNat t7) (0, 0, 0, 0)).fst = 0) then
          some false
        else
          bif decide (0 < t7) then
            bif boundA (IntKind.wrap IntKind.i64 (t7 - 1)) (List.length p) then
              (s_poOrder (List.getD p (Int.toNat (IntKind.wrap IntKind.i64 (t7 - 1))) (0, 0, 0, 0)).fst (List.getD p (Int.toNat (IntKind.wrap IntKind.i64 (t7 - 1))) (0, 0, 0, 0)).snd.fst (List.getD p (Int.toNat (IntKind.wrap IntKind.i64 (t7 - 1))) (0, 0, 0, 0)).snd.snd.fst (List.getD p (Int.toNat (IntKind.wrap IntKind.i64 (t7 - 1))) (0, 0, 0, 0)).snd.snd.snd (List.getD t5 (Int.toNat t7) (0, 0, 0, 0)).fst (List.getD t5 (Int.toNat t7) (0, 0, 0, 0)).snd.fst (List.getD t5 (Int.toNat t7) (0, 0, 0, 0)).snd.snd.fst (List.getD t5 (Int.toNat t7) (0, 0, 0, 0)).snd.snd.snd).bind fun r1 =>
              bif decide (0 ≤ r1) then
                some false
              else
                s_poGood_1002 p t5 t6 (IntKind.wrap IntKind.i64 (t7 + 1))
            else
              none
          else
            s_poGood_1002 p t5 t6 (IntKind.wrap IntKind.i64 (t7 + 1))
    else
      none
  else
    some (decide ((↑(List.length p) : Int) ≤ 20)) := by
  refine Lim.uniq (Lim.shift (Rls_poGood_1002 p t5 t6 t7)) (?_ : Lim (fun k => F184_1002 k ((l184 k)) p t5 t6 t7) _)
  unfold F184_1002
  repeat' first | with_reducible exact Lim.ret _ | with_reducible exact Rs_poTerm _ _ _ _ | with_reducible exact Rs_poOrder _ _ _ _ _ _ _ _ | with_reducible exact Rls_poGood_1002 _ _ _ _ | with_reducible refine Lim.cond ?_ ?_ | with_reducible refine Lim.bind ?_ fun _ => ?_
noncomputable def s_poGood (p : List (Int × Int × Int × Int)) : Option (Bool) :=
  s_poGood_1002 p p ((↑(List.length p) : Int)) (0)
theorem Ms_poGood (k : Nat) (p : List (Int × Int × Int × Int)) : Le (f184 k p) (f184 (k + 1) p) := by
  have h := Mls_poGood k
  unfold f184 F184
  repeat' first | with_reducible exact Le.rfl _ | with_reducible exact h _ _ _ _ | with_reducible refine Le.cond ?_ ?_ | with_reducible refine Le.bind ?_ fun _ => ?_
theorem Rs_poGood (p : List (Int × Int × Int × Int)) : Lim (fun k => f184 k p) (s_poGood p) := by
  unfold f184 F184 s_poGood
  repeat' first | with_reducible exact Lim.ret _ | with_reducible exact Rls_poGood_1002 _ _ _ _ | with_reducible refine Lim.cond ?_ ?_ | with_reducible refine Lim.bind ?_ fun _ => ?_

-- spec.l1Most
noncomputable def s_l1Most (a : Int) (b : Int) : Option (Int) :=
  bif decide (b < a) then
    some a
  else
    some b
theorem Ms_l1Most (k : Nat) (a : Int) (b : Int) : Le (f162 k a b) (f162 (k + 1) a b) := by
  unfold f162
  repeat' first | with_reducible exact Le.rfl _ | with_reducible refine Le.cond ?_ ?_ | with_reducible refine Le.bind ?_ fun _ => ?_
theorem Rs_l1Most (a : Int) (b : Int) : Lim (fun k => f162 k a b) (s_l1Most a b) := by
  unfold f162 s_l1Most
  repeat' first | with_reducible exact Lim.ret _ | with_reducible refine Lim.cond ?_ ?_ | with_reducible refine Lim.bind ?_ fun _ => ?_

-- spec.poPower
noncomputable def s_poPower (t_C : Int) (t_X : Int) (t_Y : Int) (t_Z : Int) (k_ : Int) : Option (Int) :=
  bif decide (k_ = 0) then
    some t_X
  else
    bif decide (k_ = 1) then
      some t_Y
    else
      some t_Z
theorem Ms_poPower (k : Nat) (t_C : Int) (t_X : Int) (t_Y : Int) (t_Z : Int) (k_ : Int) : Le (f198 k t_C t_X t_Y t_Z k_) (f198 (k + 1) t_C t_X t_Y t_Z k_) := by
  unfold f198
  repeat' first | with_reducible exact Le.rfl _ | with_reducible refine Le.cond ?_ ?_ | with_reducible refine Le.bind ?_ fun _ => ?_
theorem Rs_poPower (t_C : Int) (t_X : Int) (t_Y : Int) (t_Z : Int) (k_ : Int) : Lim (fun k => f198 k t_C t_X t_Y t_Z k_) (s_poPower t_C t_X t_Y t_Z k_) := by
  unfold f198 s_poPower
  repeat' first | with_reducible exact Lim.ret _ | with_reducible refine Lim.cond ?_ ?_ | with_reducible refine Lim.bind ?_ fun _ => ?_

-- spec.poDegreeIn
theorem MFs_poDegreeIn_1003 (k : Nat) {r1003 q1003 : Int → Int → List (Int × Int × Int × Int) → Int → Int → Option (Int)} (h1003 : ∀ (k_ : Int) (most : Int) (t8 : List (Int × Int × Int × Int)) (t9 : Int) (t10 : Int), Le (r1003 k_ most t8 t9 t10) (q1003 k_ most t8 t9 t10)) (k_ : Int) (most : Int) (t8 : List (Int × Int × Int × Int)) (t9 : Int) (t10 : Int) : Le (F185_1003 k r1003 k_ most t8 t9 t10) (F185_1003 (k + 1) q1003 k_ most t8 t9 t10) := by
  unfold F185_1003
  repeat' first | with_reducible exact Le.rfl _ | with_reducible exact Ms_l1Most _ _ _ | with_reducible exact Ms_poPower _ _ _ _ _ _ | with_reducible exact h1003 _ _ _ _ _ | with_reducible refine Le.cond ?_ ?_ | with_reducible refine Le.bind ?_ fun _ => ?_
theorem Mls_poDegreeIn : ∀ k : Nat, ∀ (k_ : Int) (most : Int) (t8 : List (Int × Int × Int × Int)) (t9 : Int) (t10 : Int), Le ((l185 k) k_ most t8 t9 t10) ((l185 (k + 1)) k_ most t8 t9 t10)
  | 0 => fun k_ most t8 t9 t10 => Le.no _
  | k + 1 => by
    have h := Mls_poDegreeIn k
    exact fun k_ most t8 t9 t10 => MFs_poDegreeIn_1003 k h k_ most t8 t9 t10
noncomputable def s_poDegreeIn_1003 (k_ : Int) (most : Int) (t8 : List (Int × Int × Int × Int)) (t9 : Int) (t10 : Int) : Option (Int) := lim fun k => (l185 k) k_ most t8 t9 t10
theorem Rls_poDegreeIn_1003 (k_ : Int) (most : Int) (t8 : List (Int × Int × Int × Int)) (t9 : Int) (t10 : Int) : Lim (fun k => (l185 k) k_ most t8 t9 t10) (s_poDegreeIn_1003 k_ most t8 t9 t10) := Lim.of_mono fun k => Mls_poDegreeIn k k_ most t8 t9 t10
theorem Es_poDegreeIn_1003 (k_ : Int) (most : Int) (t8 : List (Int × Int × Int × Int)) (t9 : Int) (t10 : Int) : s_poDegreeIn_1003 k_ most t8 t9 t10 =
  bif decide (t10 < t9) then
    bif boundA t10 (List.length t8) then
      (s_poPower (List.getD t8 (Int.toNat t10) (0, 0, 0, 0)).fst (List.getD t8 (Int.toNat t10) (0, 0, 0, 0)).snd.fst (List.getD t8 (Int.toNat t10) (0, 0, 0, 0)).snd.snd.fst (List.getD t8 (Int.toNat t10) (0, 0, 0, 0)).snd.snd.snd k_).bind fun r0 =>
      (s_l1Most most r0).bind fun r1 =>
      s_poDegreeIn_1003 k_ r1 t8 t9 (IntKind.wrap IntKind.i64 (t10 + 1))
    else
      none
  else
    some most := by
  refine Lim.uniq (Lim.shift (Rls_poDegreeIn_1003 k_ most t8 t9 t10)) (?_ : Lim (fun k => F185_1003 k ((l185 k)) k_ most t8 t9 t10) _)
  unfold F185_1003
  repeat' first | with_reducible exact Lim.ret _ | with_reducible exact Rs_l1Most _ _ | with_reducible exact Rs_poPower _ _ _ _ _ | with_reducible exact Rls_poDegreeIn_1003 _ _ _ _ _ | with_reducible refine Lim.cond ?_ ?_ | with_reducible refine Lim.bind ?_ fun _ => ?_
noncomputable def s_poDegreeIn (p : List (Int × Int × Int × Int)) (k_ : Int) : Option (Int) :=
  s_poDegreeIn_1003 k_ (-1) p ((↑(List.length p) : Int)) (0)
theorem Ms_poDegreeIn (k : Nat) (p : List (Int × Int × Int × Int)) (k_ : Int) : Le (f185 k p k_) (f185 (k + 1) p k_) := by
  have h := Mls_poDegreeIn k
  unfold f185 F185
  repeat' first | with_reducible exact Le.rfl _ | with_reducible exact h _ _ _ _ _ | with_reducible refine Le.cond ?_ ?_ | with_reducible refine Le.bind ?_ fun _ => ?_
theorem Rs_poDegreeIn (p : List (Int × Int × Int × Int)) (k_ : Int) : Lim (fun k => f185 k p k_) (s_poDegreeIn p k_) := by
  unfold f185 F185 s_poDegreeIn
  repeat' first | with_reducible exact Lim.ret _ | with_reducible exact Rls_poDegreeIn_1003 _ _ _ _ _ | with_reducible refine Lim.cond ?_ ?_ | with_reducible refine Lim.bind ?_ fun _ => ?_

-- spec.poSystem
theorem MFs_poSystem_1002 (k : Nat) {r1002 q1002 : List (List (Int × Int × Int × Int)) → List (List (Int × Int × Int × Int)) → Int → Int → Option (Bool)} (h1002 : ∀ (s : List (List (Int × Int × Int × Int))) (t6 : List (List (Int × Int × Int × Int))) (t7 : Int) (t8 : Int), Le (r1002 s t6 t7 t8) (q1002 s t6 t7 t8)) {r1007 q1007 : List (List (Int × Int × Int × Int)) → List (Int × Int × Int × Int) → Int → List (List (Int × Int × Int × Int)) → Int → Int → Option (Bool)} (h1007 : ∀ (s : List (List (Int × Int × Int × Int))) (p : List (Int × Int × Int × Int)) (k_ : Int) (t6 : List (List (Int × Int × Int × Int))) (t7 : Int) (t8 : Int), Le (r1007 s p k_ t6 t7 t8) (q1007 s p k_ t6 t7 t8)) (s : List (List (Int × Int × Int × Int))) (t6 : List (List (Int × Int × Int × Int))) (t7 : Int) (t8 : Int) : Le (F158_1002 k r1002 r1007 s t6 t7 t8) (F158_1002 (k + 1) q1002 q1007 s t6 t7 t8) := by
  unfold F158_1002
  repeat' first | with_reducible exact Le.rfl _ | with_reducible exact Ms_poGood _ _ | with_reducible exact Ms_l1In _ _ _ _ | with_reducible exact h1002 _ _ _ _ | with_reducible exact h1007 _ _ _ _ _ _ | with_reducible refine Le.cond ?_ ?_ | with_reducible refine Le.bind ?_ fun _ => ?_
theorem MFs_poSystem_1007 (k : Nat) {r1002 q1002 : List (List (Int × Int × Int × Int)) → List (List (Int × Int × Int × Int)) → Int → Int → Option (Bool)} (h1002 : ∀ (s : List (List (Int × Int × Int × Int))) (t6 : List (List (Int × Int × Int × Int))) (t7 : Int) (t8 : Int), Le (r1002 s t6 t7 t8) (q1002 s t6 t7 t8)) {r1007 q1007 : List (List (Int × Int × Int × Int)) → List (Int × Int × Int × Int) → Int → List (List (Int × Int × Int × Int)) → Int → Int → Option (Bool)} (h1007 : ∀ (s : List (List (Int × Int × Int × Int))) (p : List (Int × Int × Int × Int)) (k_ : Int) (t6 : List (List (Int × Int × Int × Int))) (t7 : Int) (t8 : Int), Le (r1007 s p k_ t6 t7 t8) (q1007 s p k_ t6 t7 t8)) (s : List (List (Int × Int × Int × Int))) (p : List (Int × Int × Int × Int)) (k_ : Int) (t6 : List (List (Int × Int × Int × Int))) (t7 : Int) (t8 : Int) : Le (F158_1007 k r1002 r1007 s p k_ t6 t7 t8) (F158_1007 (k + 1) q1002 q1007 s p k_ t6 t7 t8) := by
  unfold F158_1007
  repeat' first | with_reducible exact Le.rfl _ | with_reducible exact Ms_poDegreeIn _ _ _ | with_reducible exact h1002 _ _ _ _ | with_reducible exact h1007 _ _ _ _ _ _ | with_reducible refine Le.cond ?_ ?_ | with_reducible refine Le.bind ?_ fun _ => ?_
theorem Mls_poSystem : ∀ k : Nat, (∀ (s : List (List (Int × Int × Int × Int))) (t6 : List (List (Int × Int × Int × Int))) (t7 : Int) (t8 : Int), Le ((l158 k).1 s t6 t7 t8) ((l158 (k + 1)).1 s t6 t7 t8)) ∧ (∀ (s : List (List (Int × Int × Int × Int))) (p : List (Int × Int × Int × Int)) (k_ : Int) (t6 : List (List (Int × Int × Int × Int))) (t7 : Int) (t8 : Int), Le ((l158 k).2 s p k_ t6 t7 t8) ((l158 (k + 1)).2 s p k_ t6 t7 t8))
  | 0 => ⟨fun s t6 t7 t8 => Le.no _, fun s p k_ t6 t7 t8 => Le.no _⟩
  | k + 1 => by
    have h := Mls_poSystem k
    exact ⟨fun s t6 t7 t8 => MFs_poSystem_1002 k h.1 h.2 s t6 t7 t8, fun s p k_ t6 t7 t8 => MFs_poSystem_1007 k h.1 h.2 s p k_ t6 t7 t8⟩
noncomputable def s_poSystem_1002 (s : List (List (Int × Int × Int × Int))) (t6 : List (List (Int × Int × Int × Int))) (t7 : Int) (t8 : Int) : Option (Bool) := lim fun k => (l158 k).1 s t6 t7 t8
theorem Rls_poSystem_1002 (s : List (List (Int × Int × Int × Int))) (t6 : List (List (Int × Int × Int × Int))) (t7 : Int) (t8 : Int) : Lim (fun k => (l158 k).1 s t6 t7 t8) (s_poSystem_1002 s t6 t7 t8) := Lim.of_mono fun k => (Mls_poSystem k).1 s t6 t7 t8
noncomputable def s_poSystem_1007 (s : List (List (Int × Int × Int × Int))) (p : List (Int × Int × Int × Int)) (k_ : Int) (t6 : List (List (Int × Int × Int × Int))) (t7 : Int) (t8 : Int) : Option (Bool) := lim fun k => (l158 k).2 s p k_ t6 t7 t8
theorem Rls_poSystem_1007 (s : List (List (Int × Int × Int × Int))) (p : List (Int × Int × Int × Int)) (k_ : Int) (t6 : List (List (Int × Int × Int × Int))) (t7 : Int) (t8 : Int) : Lim (fun k => (l158 k).2 s p k_ t6 t7 t8) (s_poSystem_1007 s p k_ t6 t7 t8) := Lim.of_mono fun k => (Mls_poSystem k).2 s p k_ t6 t7 t8
theorem Es_poSystem_1002 (s : List (List (Int × Int × Int × Int))) (t6 : List (List (Int × Int × Int × Int))) (t7 : Int) (t8 : Int) : s_poSystem_1002 s t6 t7 t8 =
  bif decide (t8 < t7) then
    bif boundA t8 (List.length t6) then
      (s_poGood (List.getD t6 (Int.toNat t8) [])).bind fun r0 =>
      bif !r0 then
        some false
      else
        s_poSystem_1007 s (List.getD t6 (Int.toNat t8) []) ((↑(List.length s) : Int)) t6 t7 t8
    else
      none
  else
    (s_l1In (↑(List.length s) : Int) 1 3).bind fun r1 =>
    some r1 := by
  refine Lim.uniq (Lim.shift (Rls_poSystem_1002 s t6 t7 t8)) (?_ : Lim (fun k => F158_1002 k ((l158 k).1) ((l158 k).2) s t6 t7 t8) _)
  unfold F158_1002
  repeat' first | with_reducible exact Lim.ret _ | with_reducible exact Rs_poGood _ | with_reducible exact Rs_l1In _ _ _ | with_reducible exact Rls_poSystem_1002 _ _ _ _ | with_reducible exact Rls_poSystem_1007 _ _ _ _ _ _ | with_reducible refine Lim.cond ?_ ?_ | with_reducible refine Lim.bind ?_ fun _ => ?_
theorem Es_poSystem_1007 (s : List (List (Int × Int × Int × Int))) (p : List (Int × Int × Int × Int)) (k_ : Int) (t6 : List (List (Int × Int × Int × Int))) (t7 : Int) (t8 : Int) : s_poSystem_1007 s p k_ t6 t7 t8 =
  bif decide (k_ < 3) then
    (s_poDegreeIn p k_).bind fun r0 =>
    bif decide (0 < r0) then
      some false
    else
      s_poSystem_1007 s p (IntKind.wrap IntKind.i64 (k_ + 1)) t6 t7 t8
  else
    s_poSystem_1002 s t6 t7 (IntKind.wrap IntKind.i64 (t8 + 1)) := by
  refine Lim.uniq (Lim.shift (Rls_poSystem_1007 s p k_ t6 t7 t8)) (?_ : Lim (fun k => F158_1007 k ((l158 k).1) ((l158 k).2) s p k_ t6 t7 t8) _)
  unfold F158_1007
  repeat' first | with_reducible exact Lim.ret _ | with_reducible exact Rs_poDegreeIn _ _ | with_reducible exact Rls_poSystem_1002 _ _ _ _ | with_reducible exact Rls_poSystem_1007 _ _ _ _ _ _ | with_reducible refine Lim.cond ?_ ?_ | with_reducible refine Lim.bind ?_ fun _ => ?_
noncomputable def s_poSystem (s : List (List (Int × Int × Int × Int))) : Option (Bool) :=
  s_poSystem_1002 s s ((↑(List.length s) : Int)) (0)
theorem Ms_poSystem (k : Nat) (s : List (List (Int × Int × Int × Int))) : Le (f158 k s) (f158 (k + 1) s) := by
  have h := Mls_poSystem k
  unfold f158 F158
  repeat' first | with_reducible exact Le.rfl _ | with_reducible exact h.1 _ _ _ _ | with_reducible exact h.2 _ _ _ _ _ _ | with_reducible refine Le.cond ?_ ?_ | with_reducible refine Le.bind ?_ fun _ => ?_
theorem Rs_poSystem (s : List (List (Int × Int × Int × Int))) : Lim (fun k => f158 k s) (s_poSystem s) := by
  unfold f158 F158 s_poSystem
  repeat' first | with_reducible exact Lim.ret _ | with_reducible exact Rls_poSystem_1002 _ _ _ _ | with_reducible exact Rls_poSystem_1007 _ _ _ _ _ _ | with_reducible refine Lim.cond ?_ ?_ | with_reducible refine Lim.bind ?_ fun _ => ?_

-- spec.vaBoth
noncomputable def s_vaBoth (s : List (List (Int × Int × Int × Int))) (b_K : Int) (b_Low : List (Int)) (b_High : List (Int)) : Option (Bool) :=
  (s_poSystem s).bind fun r0 =>
  bif r0 then
    (s_bxGood b_K b_Low b_High).bind fun r1 =>
    bif r1 then
      some (decide ((↑(List.length s) : Int) = (↑(List.length b_Low) : Int)))
    else
      some false
  else
    some false
theorem Ms_vaBoth (k : Nat) (s : List (List (Int × Int × Int × Int))) (b_K : Int) (b_Low : List (Int)) (b_High : List (Int)) : Le (f125 k s b_K b_Low b_High) (f125 (k + 1) s b_K b_Low b_High) := by
  unfold f125
  repeat' first | with_reducible exact Le.rfl _ | with_reducible exact Ms_bxGood _ _ _ _ | with_reducible exact Ms_poSystem _ _ | with_reducible refine Le.cond ?_ ?_ | with_reducible refine Le.bind ?_ fun _ => ?_
theorem Rs_vaBoth (s : List (List (Int × Int × Int × Int))) (b_K : Int) (b_Low : List (Int)) (b_High : List (Int)) : Lim (fun k => f125 k s b_K b_Low b_High) (s_vaBoth s b_K b_Low b_High) := by
  unfold f125 s_vaBoth
  repeat' first | with_reducible exact Lim.ret _ | with_reducible exact Rs_bxGood _ _ _ | with_reducible exact Rs_poSystem _ | with_reducible refine Lim.cond ?_ ?_ | with_reducible refine Lim.bind ?_ fun _ => ?_

-- spec.caEntry
noncomputable def s_caEntry (e_Name : ByteArray) (e_System : List (List (Int × Int × Int × Int))) (e_Box_K : Int) (e_Box_Low : List (Int)) (e_Box_High : List (Int)) (e_Least : Int) (e_Most : Int) (e_Version : Int) : Option (Bool) :=
  (s_caName e_Name).bind fun r0 =>
  bif r0 then
    (s_vaBoth e_System e_Box_K e_Box_Low e_Box_High).bind fun r1 =>
    bif r1 then
      (s_l1In e_Most 0 64).bind fun r2 =>
      bif r2 then
        (s_l1In e_Least 0 e_Most).bind fun r3 =>
        bif r3 then
          (s_l1In e_Version 1 999).bind fun r4 =>
          some r4
        else
          some false
      else
        some false
    else
      some false
  else
    some false
theorem Ms_caEntry (k : Nat) (e_Name : ByteArray) (e_System : List (List (Int × Int × Int × Int))) (e_Box_K : Int) (e_Box_Low : List (Int)) (e_Box_High : List (Int)) (e_Least : Int) (e_Most : Int) (e_Version : Int) : Le (f91 k e_Name e_System e_Box_K e_Box_Low e_Box_High e_Least e_Most e_Version) (f91 (k + 1) e_Name e_System e_Box_K e_Box_Low e_Box_High e_Least e_Most e_Version) := by
  unfold f91
  repeat' first | with_reducible exact Le.rfl _ | with_reducible exact Ms_caName _ _ | with_reducible exact Ms_vaBoth _ _ _ _ _ | with_reducible exact Ms_l1In _ _ _ _ | with_reducible refine Le.cond ?_ ?_ | with_reducible refine Le.bind ?_ fun _ => ?_
theorem Rs_caEntry (e_Name : ByteArray) (e_System : List (List (Int × Int × Int × Int))) (e_Box_K : Int) (e_Box_Low : List (Int)) (e_Box_High : List (Int)) (e_Least : Int) (e_Most : Int) (e_Version : Int) : Lim (fun k => f91 k e_Name e_System e_Box_K e_Box_Low e_Box_High e_Least e_Most e_Version) (s_caEntry e_Name e_System e_Box_K e_Box_Low e_Box_High e_Least e_Most e_Version) := by
  unfold f91 s_caEntry
  repeat' first | with_reducible exact Lim.ret _ | with_reducible exact Rs_caName _ | with_reducible exact Rs_vaBoth _ _ _ _ | with_reducible exact Rs_l1In _ _ _ | with_reducible refine Lim.cond ?_ ?_ | with_reducible refine Lim.bind ?_ fun _ => ?_

-- spec.IsEntry
noncomputable def s_IsEntry (e_Name : ByteArray) (e_System : List (List (Int × Int × Int × Int))) (e_Box_K : Int) (e_Box_Low : List (Int)) (e_Box_High : List (Int)) (e_Least : Int) (e_Most : Int) (e_Version : Int) : Option (Bool) :=
  (s_caEntry e_Name e_System e_Box_K e_Box_Low e_Box_High e_Least e_Most e_Version).bind fun r0 =>
  some r0
theorem Ms_IsEntry (k : Nat) (e_Name : ByteArray) (e_System : List (List (Int × Int × Int × Int))) (e_Box_K : Int) (e_Box_Low : List (Int)) (e_Box_High : List (Int)) (e_Least : Int) (e_Most : Int) (e_Version : Int) : Le (f46 k e_Name e_System e_Box_K e_Box_Low e_Box_High e_Least e_Most e_Version) (f46 (k + 1) e_Name e_System e_Box_K e_Box_Low e_Box_High e_Least e_Most e_Version) := by
  unfold f46
  repeat' first | with_reducible exact Le.rfl _ | with_reducible exact Ms_caEntry _ _ _ _ _ _ _ _ _ | with_reducible refine Le.cond ?_ ?_ | with_reducible refine Le.bind ?_ fun _ => ?_
theorem Rs_IsEntry (e_Name : ByteArray) (e_System : List (List (Int × Int × Int × Int))) (e_Box_K : Int) (e_Box_Low : List (Int)) (e_Box_High : List (Int)) (e_Least : Int) (e_Most : Int) (e_Version : Int) : Lim (fun k => f46 k e_Name e_System e_Box_K e_Box_Low e_Box_High e_Least e_Most e_Version) (s_IsEntry e_Name e_System e_Box_K e_Box_Low e_Box_High e_Least e_Most e_Version) := by
  unfold f46 s_IsEntry
  repeat' first | with_reducible exact Lim.ret _ | with_reducible exact Rs_caEntry _ _ _ _ _ _ _ _ | with_reducible refine Lim.cond ?_ ?_ | with_reducible refine Lim.bind ?_ fun _ => ?_

-- laws.roomBehind
noncomputable def w_roomBehind (n : Int) : Option (Int) :=
  bif decide (Int.tmod n 6 = 5) then
    some (0)
  else
    bif decide (Int.tmod n 3 = 0) then
      some (1)
    else
      some n
theorem Mw_roomBehind (k : Nat) (n : Int) : Le (f65 k n) (f65 (k + 1) n) := by
  unfold f65
  repeat' first | with_reducible exact Le.rfl _ | with_reducible refine Le.cond ?_ ?_ | with_reducible refine Le.bind ?_ fun _ => ?_
theorem Rw_roomBehind (n : Int) : Lim (fun k => f65 k n) (w_roomBehind n) := by
  unfold f65 w_roomBehind
  repeat' first | with_reducible exact Lim.ret _ | with_reducible refine Lim.cond ?_ ?_ | with_reducible refine Lim.bind ?_ fun _ => ?_

-- laws.toIntS
theorem MFw_toIntS_1005 (k : Nat) {r1005 q1005 : List Int → List Int → Int → Option (List (Int) × Nat)} (h1005 : ∀ (a : List Int) (outs : List Int) (i : Int), Le (r1005 a outs i) (q1005 a outs i)) {r1009 q1009 : List Int → List Int → Int → Option (List (Int) × Nat)} (h1009 : ∀ (a : List Int) (outs : List Int) (i : Int), Le (r1009 a outs i) (q1009 a outs i)) (a : List Int) (outs : List Int) (i : Int) : Le (F15_1005 k r1005 r1009 a outs i) (F15_1005 (k + 1) q1005 q1009 a outs i) := by
  unfold F15_1005
  repeat' first | with_reducible exact Le.rfl _ | with_reducible exact h1005 _ _ _ | with_reducible exact h1009 _ _ _ | with_reducible refine Le.cond ?_ ?_ | with_reducible refine Le.bind ?_ fun _ => ?_
theorem MFw_toIntS_1009 (k : Nat) {r1005 q1005 : List Int → List Int → Int → Option (List (Int) × Nat)} (h1005 : ∀ (a : List Int) (outs : List Int) (i : Int), Le (r1005 a outs i) (q1005 a outs i)) {r1009 q1009 : List Int → List Int → Int → Option (List (Int) × Nat)} (h1009 : ∀ (a : List Int) (outs : List Int) (i : Int), Le (r1009 a outs i) (q1009 a outs i)) (a : List Int) (outs : List Int) (i : Int) : Le (F15_1009 k r1005 r1009 a outs i) (F15_1009 (k + 1) q1005 q1009 a outs i) := by
  unfold F15_1009
  repeat' first | with_reducible exact Le.rfl _ | with_reducible exact h1005 _ _ _ | with_reducible exact h1009 _ _ _ | with_reducible refine Le.cond ?_ ?_ | with_reducible refine Le.bind ?_ fun _ => ?_
theorem Mlw_toIntS : ∀ k : Nat, (∀ (a : List Int) (outs : List Int) (i : Int), Le ((l15 k).1 a outs i) ((l15 (k + 1)).1 a outs i)) ∧ (∀ (a : List Int) (outs : List Int) (i : Int), Le ((l15 k).2 a outs i) ((l15 (k + 1)).2 a outs i))
  | 0 => ⟨fun a outs i => Le.no _, fun a outs i => Le.no _⟩
  | k + 1 => by
    have h := Mlw_toIntS k
    exact ⟨fun a outs i => MFw_toIntS_1005 k h.1 h.2 a outs i, fun a outs i => MFw_toIntS_1009 k h.1 h.2 a outs i⟩
noncomputable def w_toIntS_1005 (a : List Int) (outs : List Int) (i : Int) : Option (List (Int) × Nat) := lim fun k => (l15 k).1 a outs i
theorem Rlw_toIntS_1005 (a : List Int) (outs : List Int) (i : Int) : Lim (fun k => (l15 k).1 a outs i) (w_toIntS_1005 a outs i) := Lim.of_mono fun k => (Mlw_toIntS k).1 a outs i
noncomputable def w_toIntS_1009 (a : List Int) (outs : List Int) (i : Int) : Option (List (Int) × Nat) := lim fun k => (l15 k).2 a outs i
theorem Rlw_toIntS_1009 (a : List Int) (outs : List Int) (i : Int) : Lim (fun k => (l15 k).2 a outs i) (w_toIntS_1009 a outs i) := Lim.of_mono fun k => (Mlw_toIntS k).2 a outs i
theorem Ew_toIntS_1005 (a : List Int) (outs : List Int) (i : Int) : w_toIntS_1005 a outs i =
  bif decide (i < (↑(List.length a) : Int)) then
    bif boundA i (List.length a) then
      bif boundA i (List.length outs) then
        bif Nat.blt (Int.toNat i) (List.length outs) then
          w_toIntS_1005 a (List.set outs (Int.toNat i) (List.getD a (Int.toNat i) 0)) (IntKind.wrap IntKind.i64 (i + 1))
        else
          none
      else
        none
    else
      none
  else
    w_toIntS_1009 a outs ((↑(List.length a) : Int)) := by
  refine Lim.uniq (Lim.shift (Rlw_toIntS_1005 a outs i)) (?_ : Lim (fun k => F15_1005 k ((l15 k).1) ((l15 k).2) a outs i) _)
  unfold F15_1005
  repeat' first | with_reducible exact Lim.ret _ | with_reducible exact Rlw_toIntS_1005 _ _ _ | with_reducible exact Rlw_toIntS_1009 _ _ _ | with_reducible refine Lim.cond ?_ ?_ | with_reducible refine Lim.bind ?_ fun _ => ?_
theorem Ew_toIntS_1009 (a : List Int) (outs : List Int) (i : Int) : w_toIntS_1009 a outs i =
  bif decide (i < (↑(List.length outs) : Int)) then
    bif boundA i (List.length outs) then
      bif Nat.blt (Int.toNat i) (List.length outs) then
        w_toIntS_1009 a (List.set outs (Int.toNat i) (-7000000000000000101)) (IntKind.wrap IntKind.i64 (i + 1))
      else
        none
    else
      none
  else
    bif boundE (↑(List.length a) : Int) (List.length outs) then
      some ((outs, Option.getD (some (Int.toNat (↑(List.length a) : Int))) (List.length outs)))
    else
      none := by
  refine Lim.uniq (Lim.shift (Rlw_toIntS_1009 a outs i)) (?_ : Lim (fun k => F15_1009 k ((l15 k).1) ((l15 k).2) a outs i) _)
  unfold F15_1009
  repeat' first | with_reducible exact Lim.ret _ | with_reducible exact Rlw_toIntS_1005 _ _ _ | with_reducible exact Rlw_toIntS_1009 _ _ _ | with_reducible refine Lim.cond ?_ ?_ | with_reducible refine Lim.bind ?_ fun _ => ?_
noncomputable def w_toIntS (a : List (Int)) (bare : Bool) : Option (List (Int) × Nat) :=
  bif bare then
    bif decide ((↑(List.length a) : Int) = 0) then
      some (([], 0))
    else
      (w_roomBehind (↑(List.length a) : Int)).bind fun r0 =>
      bif decide (0 ≤ IntKind.wrap IntKind.i64 ((↑(List.length a) : Int) + r0)) then
        bif decide (IntKind.wrap IntKind.i64 ((↑(List.length a) : Int) + r0) ≤ IntKind.wrap IntKind.i64 ((↑(List.length a) : Int) + r0)) then
          bif decide (IntKind.wrap IntKind.i64 ((↑(List.length a) : Int) + r0) * (↑8 : Int) ≤ 140737488355328) then
            w_toIntS_1005 a (List.replicate (Int.toNat (IntKind.wrap IntKind.i64 ((↑(List.length a) : Int) + r0))) (dflt (Ty.int IntKind.i64))) (0)
          else
            none
        else
          none
      else
        none
  else
    (w_roomBehind (↑(List.length a) : Int)).bind fun r1 =>
    bif decide (0 ≤ IntKind.wrap IntKind.i64 ((↑(List.length a) : Int) + r1)) then
      bif decide (IntKind.wrap IntKind.i64 ((↑(List.length a) : Int) + r1) ≤ IntKind.wrap IntKind.i64 ((↑(List.length a) : Int) + r1)) then
        bif decide (IntKind.wrap IntKind.i64 ((↑(List.length a) : Int) + r1) * (↑8 : Int) ≤ 140737488355328) then
          w_toIntS_1005 a (List.replicate (Int.toNat (IntKind.wrap IntKind.i64 ((↑(List.length a) : Int) + r1))) (dflt (Ty.int IntKind.i64))) (0)
        else
          none
      else
        none
    else
      none
theorem Mw_toIntS (k : Nat) (a : List (Int)) (bare : Bool) : Le (f15 k a bare) (f15 (k + 1) a bare) := by
  have h := Mlw_toIntS k
  unfold f15 F15
  repeat' first | with_reducible exact Le.rfl _ | with_reducible exact Mw_roomBehind _ _ | with_reducible exact h.1 _ _ _ | with_reducible exact h.2 _ _ _ | with_reducible refine Le.cond ?_ ?_ | with_reducible refine Le.bind ?_ fun _ => ?_
theorem Rw_toIntS (a : List (Int)) (bare : Bool) : Lim (fun k => f15 k a bare) (w_toIntS a bare) := by
  unfold f15 F15 w_toIntS
  repeat' first | with_reducible exact Lim.ret _ | with_reducible exact Rw_roomBehind _ | with_reducible exact Rlw_toIntS_1005 _ _ _ | with_reducible exact Rlw_toIntS_1009 _ _ _ | with_reducible refine Lim.cond ?_ ?_ | with_reducible refine Lim.bind ?_ fun _ => ?_

-- laws.toBox
noncomputable def w_toBox (a_K : Int) (a_Low : List (Int)) (a_High : List (Int)) (bare : Bool) : Option (Int × (List (Int) × Nat) × List (Int) × Nat) :=
  (w_toIntS a_Low bare).bind fun r0 =>
  (w_toIntS a_High bare).bind fun r1 =>
  some ((a_K, (r0.fst, Option.getD (some r0.snd) (List.length r0.fst)), r1.fst, Option.getD (some r1.snd) (List.length r1.fst)))
theorem Mw_toBox (k : Nat) (a_K : Int) (a_Low : List (Int)) (a_High : List (Int)) (bare : Bool) : Le (f55 k a_K a_Low a_High bare) (f55 (k + 1) a_K a_Low a_High bare) := by
  unfold f55
  repeat' first | with_reducible exact Le.rfl _ | with_reducible exact Mw_toIntS _ _ _ | with_reducible refine Le.cond ?_ ?_ | with_reducible refine Le.bind ?_ fun _ => ?_
theorem Rw_toBox (a_K : Int) (a_Low : List (Int)) (a_High : List (Int)) (bare : Bool) : Lim (fun k => f55 k a_K a_Low a_High bare) (w_toBox a_K a_Low a_High bare) := by
  unfold f55 w_toBox
  repeat' first | with_reducible exact Lim.ret _ | with_reducible exact Rw_toIntS _ _ | with_reducible refine Lim.cond ?_ ?_ | with_reducible refine Lim.bind ?_ fun _ => ?_

-- laws.fillerTerm
noncomputable def w_fillerTerm  : Option (Int × Int × Int × Int) :=
  some ((-7000000000000000101, -7000000000000000101, -7000000000000000101, -7000000000000000101))
theorem Mw_fillerTerm (k : Nat)  : Le (f127 k ) (f127 (k + 1) ) := by
  unfold f127
  repeat' first | with_reducible exact Le.rfl _ | with_reducible refine Le.cond ?_ ?_ | with_reducible refine Le.bind ?_ fun _ => ?_
theorem Rw_fillerTerm  : Lim (fun k => f127 k ) (w_fillerTerm ) := by
  unfold f127 w_fillerTerm
  repeat' first | with_reducible exact Lim.ret _ | with_reducible refine Lim.cond ?_ ?_ | with_reducible refine Lim.bind ?_ fun _ => ?_

-- laws.toTerm
noncomputable def w_toTerm (a_C : Int) (a_X : Int) (a_Y : Int) (a_Z : Int) : Option (Int × Int × Int × Int) :=
  some ((a_C, a_X, a_Y, a_Z))
theorem Mw_toTerm (k : Nat) (a_C : Int) (a_X : Int) (a_Y : Int) (a_Z : Int) : Le (f159 k a_C a_X a_Y a_Z) (f159 (k + 1) a_C a_X a_Y a_Z) := by
  unfold f159
  repeat' first | with_reducible exact Le.rfl _ | with_reducible refine Le.cond ?_ ?_ | with_reducible refine Le.bind ?_ fun _ => ?_
theorem Rw_toTerm (a_C : Int) (a_X : Int) (a_Y : Int) (a_Z : Int) : Lim (fun k => f159 k a_C a_X a_Y a_Z) (w_toTerm a_C a_X a_Y a_Z) := by
  unfold f159 w_toTerm
  repeat' first | with_reducible exact Lim.ret _ | with_reducible refine Lim.cond ?_ ?_ | with_reducible refine Lim.bind ?_ fun _ => ?_

-- laws.toTermS
theorem MFw_toTermS_1005 (k : Nat) {r1005 q1005 : List (Int × Int × Int × Int) → List (Int × Int × Int × Int) → Int → Option (List (Int × Int × Int × Int) × Nat)} (h1005 : ∀ (a : List (Int × Int × Int × Int)) (outs : List (Int × Int × Int × Int)) (i : Int), Le (r1005 a outs i) (q1005 a outs i)) {r1009 q1009 : List (Int × Int × Int × Int) → List (Int × Int × Int × Int) → Int → Option (List (Int × Int × Int × Int) × Nat)} (h1009 : ∀ (a : List (Int × Int × Int × Int)) (outs : List (Int × Int × Int × Int)) (i : Int), Le (r1009 a outs i) (q1009 a outs i)) (a : List (Int × Int × Int × Int)) (outs : List (Int × Int × Int × Int)) (i : Int) : Le (F126_1005 k r1005 r1009 a outs i) (F126_1005 (k + 1) q1005 q1009 a outs i) := by
  unfold F126_1005
  repeat' first | with_reducible exact Le.rfl _ | with_reducible exact h1005 _ _ _ | with_reducible exact h1009 _ _ _ | with_reducible refine Le.cond ?_ ?_ | with_reducible refine Le.bind ?_ fun _ => ?_
theorem MFw_toTermS_1009 (k : Nat) {r1005 q1005 : List (Int × Int × Int × Int) → List (Int × Int × Int × Int) → Int → Option (List (Int × Int × Int × Int) × Nat)} (h1005 : ∀ (a : List (Int × Int × Int × Int)) (outs : List (Int × Int × Int × Int)) (i : Int), Le (r1005 a outs i) (q1005 a outs i)) {r1009 q1009 : List (Int × Int × Int × Int) → List (Int × Int × Int × Int) → Int → Option (List (Int × Int × Int × Int) × Nat)} (h1009 : ∀ (a : List (Int × Int × Int × Int)) (outs : List (Int × Int × Int × Int)) (i : Int), Le (r1009 a outs i) (q1009 a outs i)) (a : List (Int × Int × Int × Int)) (outs : List (Int × Int × Int × Int)) (i : Int) : Le (F126_1009 k r1005 r1009 a outs i) (F126_1009 (k + 1) q1005 q1009 a outs i) := by
  unfold F126_1009
  repeat' first | with_reducible exact Le.rfl _ | with_reducible exact h1005 _ _ _ | with_reducible exact h1009 _ _ _ | with_reducible refine Le.cond ?_ ?_ | with_reducible refine Le.bind ?_ fun _ => ?_
theorem Mlw_toTermS : ∀ k : Nat, (∀ (a : List (Int × Int × Int × Int)) (outs : List (Int × Int × Int × Int)) (i : Int), Le ((l126 k).1 a outs i) ((l126 (k + 1)).1 a outs i)) ∧ (∀ (a : List (Int × Int × Int × Int)) (outs : List (Int × Int × Int × Int)) (i : Int), Le ((l126 k).2 a outs i) ((l126 (k + 1)).2 a outs i))
  | 0 => ⟨fun a outs i => Le.no _, fun a outs i => Le.no _⟩
  | k + 1 => by
    have h := Mlw_toTermS k
    exact ⟨fun a outs i => MFw_toTermS_1005 k h.1 h.2 a outs i, fun a outs i => MFw_toTermS_1009 k h.1 h.2 a outs i⟩
noncomputable def w_toTermS_1005 (a : List (Int × Int × Int × Int)) (outs : List (Int × Int × Int × Int)) (i : Int) : Option (List (Int × Int × Int × Int) × Nat) := lim fun k => (l126 k).1 a outs i
theorem Rlw_toTermS_1005 (a : List (Int × Int × Int × Int)) (outs : List (Int × Int × Int × Int)) (i : Int) : Lim (fun k => (l126 k).1 a outs i) (w_toTermS_1005 a outs i) := Lim.of_mono fun k => (Mlw_toTermS k).1 a outs i
noncomputable def w_toTermS_1009 (a : List (Int × Int × Int × Int)) (outs : List (Int × Int × Int × Int)) (i : Int) : Option (List (Int × Int × Int × Int) × Nat) := lim fun k => (l126 k).2 a outs i
theorem Rlw_toTermS_1009 (a : List (Int × Int × Int × Int)) (outs : List (Int × Int × Int × Int)) (i : Int) : Lim (fun k => (l126 k).2 a outs i) (w_toTermS_1009 a outs i) := Lim.of_mono fun k => (Mlw_toTermS k).2 a outs i
theorem Ew_toTermS_1005 (a : List (Int × Int × Int × Int)) (outs : List (Int × Int × Int × Int)) (i : Int) : w_toTermS_1005 a outs i =
  bif decide (i < (↑(List.length a) : Int)) then
    bif boundA i (List.length a) then
      bif boundA i (List.length outs) then
        bif Nat.blt (Int.toNat i) (List.length outs) then
          w_toTermS_1005 a (List.set outs (Int.toNat i) ((List.getD a (Int.toNat i) (0, 0, 0, 0)).fst, (List.getD a (Int.toNat i) (0, 0, 0, 0)).snd.fst, (List.getD a (Int.toNat i) (0, 0, 0, 0)).snd.snd.fst, (List.getD a (Int.toNat i) (0, 0, 0, 0)).snd.snd.snd)) (IntKind.wrap IntKind.i64 (i + 1))
        else
          none
      else
        none
    else
      none
  else
    w_toTermS_1009 a outs ((↑(List.length a) : Int)) := by
  refine Lim.uniq (Lim.shift (Rlw_toTermS_1005 a outs i)) (?_ : Lim (fun k => F126_1005 k ((l126 k).1) ((l126 k).2) a outs i) _)
  unfold F126_1005
  repeat' first | with_reducible exact Lim.ret _ | with_reducible exact Rlw_toTermS_1005 _ _ _ | with_reducible exact Rlw_toTermS_1009 _ _ _ | with_reducible refine Lim.cond ?_ ?_ | with_reducible refine Lim.bind ?_ fun _ => ?_
theorem Ew_toTermS_1009 (a : List (Int × Int × Int × Int)) (outs : List (Int × Int × Int × Int)) (i : Int) : w_toTermS_1009 a outs i =
  bif decide (i < (↑(List.length outs) : Int)) then
    bif boundA i (List.length outs) then
      bif Nat.blt (Int.toNat i) (List.length outs) then
        w_toTermS_1009 a (List.set outs (Int.toNat i) (-7000000000000000101, -7000000000000000101, -7000000000000000101, -7000000000000000101)) (IntKind.wrap IntKind.i64 (i + 1))
      else
        none
    else
      none
  else
    bif boundE (↑(List.length a) : Int) (List.length outs) then
      some ((outs, Option.getD (some (Int.toNat (↑(List.length a) : Int))) (List.length outs)))
    else
      none := by
  refine Lim.uniq (Lim.shift (Rlw_toTermS_1009 a outs i)) (?_ : Lim (fun k => F126_1009 k ((l126 k).1) ((l126 k).2) a outs i) _)
  unfold F126_1009
  repeat' first | with_reducible exact Lim.ret _ | with_reducible exact Rlw_toTermS_1005 _ _ _ | with_reducible exact Rlw_toTermS_1009 _ _ _ | with_reducible refine Lim.cond ?_ ?_ | with_reducible refine Lim.bind ?_ fun _ => ?_
noncomputable def w_toTermS (a : List (Int × Int × Int × Int)) (bare : Bool) : Option (List (Int × Int × Int × Int) × Nat) :=
  bif bare then
    bif decide ((↑(List.length a) : Int) = 0) then
      some (([], 0))
    else
      (w_roomBehind (↑(List.length a) : Int)).bind fun r0 =>
      bif decide (0 ≤ IntKind.wrap IntKind.i64 ((↑(List.length a) : Int) + r0)) then
        bif decide (IntKind.wrap IntKind.i64 ((↑(List.length a) : Int) + r0) ≤ IntKind.wrap IntKind.i64 ((↑(List.length a) : Int) + r0)) then
          bif decide (IntKind.wrap IntKind.i64 ((↑(List.length a) : Int) + r0) * (↑32 : Int) ≤ 140737488355328) then
            w_toTermS_1005 a (List.replicate (Int.toNat (IntKind.wrap IntKind.i64 ((↑(List.length a) : Int) + r0))) (dflt (Ty.pair (Ty.int IntKind.i64) (Ty.pair (Ty.int IntKind.i64) (Ty.pair (Ty.int IntKind.i64) (Ty.int IntKind.i64)))))) (0)
          else
            none
        else
          none
      else
        none
  else
    (w_roomBehind (↑(List.length a) : Int)).bind fun r1 =>
    bif decide (0 ≤ IntKind.wrap IntKind.i64 ((↑(List.length a) : Int) + r1)) then
      bif decide (IntKind.wrap IntKind.i64 ((↑(List.length a) : Int) + r1) ≤ IntKind.wrap IntKind.i64 ((↑(List.length a) : Int) + r1)) then
        bif decide (IntKind.wrap IntKind.i64 ((↑(List.length a) : Int) + r1) * (↑32 : Int) ≤ 140737488355328) then
          w_toTermS_1005 a (List.replicate (Int.toNat (IntKind.wrap IntKind.i64 ((↑(List.length a) : Int) + r1))) (dflt (Ty.pair (Ty.int IntKind.i64) (Ty.pair (Ty.int IntKind.i64) (Ty.pair (Ty.int IntKind.i64) (Ty.int IntKind.i64)))))) (0)
        else
          none
      else
        none
    else
      none
theorem Mw_toTermS (k : Nat) (a : List (Int × Int × Int × Int)) (bare : Bool) : Le (f126 k a bare) (f126 (k + 1) a bare) := by
  have h := Mlw_toTermS k
  unfold f126 F126
  repeat' first | with_reducible exact Le.rfl _ | with_reducible exact Mw_roomBehind _ _ | with_reducible exact h.1 _ _ _ | with_reducible exact h.2 _ _ _ | with_reducible refine Le.cond ?_ ?_ | with_reducible refine Le.bind ?_ fun _ => ?_
theorem Rw_toTermS (a : List (Int × Int × Int × Int)) (bare : Bool) : Lim (fun k => f126 k a bare) (w_toTermS a bare) := by
  unfold f126 F126 w_toTermS
  repeat' first | with_reducible exact Lim.ret _ | with_reducible exact Rw_roomBehind _ | with_reducible exact Rlw_toTermS_1005 _ _ _ | with_reducible exact Rlw_toTermS_1009 _ _ _ | with_reducible refine Lim.cond ?_ ?_ | with_reducible refine Lim.bind ?_ fun _ => ?_

-- laws.toTermSS
theorem MFw_toTermSS_1005 (k : Nat) {r1005 q1005 : List (List (Int × Int × Int × Int)) → Bool → List (List (Int × Int × Int × Int) × Nat) → Int → Option (List (List (Int × Int × Int × Int) × Nat) × Nat)} (h1005 : ∀ (a : List (List (Int × Int × Int × Int))) (bare : Bool) (outs : List (List (Int × Int × Int × Int) × Nat)) (i : Int), Le (r1005 a bare outs i) (q1005 a bare outs i)) {r1009 q1009 : List (List (Int × Int × Int × Int)) → List (List (Int × Int × Int × Int) × Nat) → Int → Option (List (List (Int × Int × Int × Int) × Nat) × Nat)} (h1009 : ∀ (a : List (List (Int × Int × Int × Int))) (outs : List (List (Int × Int × Int × Int) × Nat)) (i : Int), Le (r1009 a outs i) (q1009 a outs i)) (a : List (List (Int × Int × Int × Int))) (bare : Bool) (outs : List (List (Int × Int × Int × Int) × Nat)) (i : Int) : Le (F92_1005 k r1005 r1009 a bare outs i) (F92_1005 (k + 1) q1005 q1009 a bare outs i) := by
  unfold F92_1005
  repeat' first | with_reducible exact Le.rfl _ | with_reducible exact Mw_toTermS _ _ _ | with_reducible exact h1005 _ _ _ _ | with_reducible exact h1009 _ _ _ | with_reducible refine Le.cond ?_ ?_ | with_reducible refine Le.bind ?_ fun _ => ?_
theorem MFw_toTermSS_1009 (k : Nat) {r1005 q1005 : List (List (Int × Int × Int × Int)) → Bool → List (List (Int × Int × Int × Int) × Nat) → Int → Option (List (List (Int × Int × Int × Int) × Nat) × Nat)} (h1005 : ∀ (a : List (List (Int × Int × Int × Int))) (bare : Bool) (outs : List (List (Int × Int × Int × Int) × Nat)) (i : Int), Le (r1005 a bare outs i) (q1005 a bare outs i)) {r1009 q1009 : List (List (Int × Int × Int × Int)) → List (List (Int × Int × Int × Int) × Nat) → Int → Option (List (List (Int × Int × Int × Int) × Nat) × Nat)} (h1009 : ∀ (a : List (List (Int × Int × Int × Int))) (outs : List (List (Int × Int × Int × Int) × Nat)) (i : Int), Le (r1009 a outs i) (q1009 a outs i)) (a : List (List (Int × Int × Int × Int))) (outs : List (List (Int × Int × Int × Int) × Nat)) (i : Int) : Le (F92_1009 k r1005 r1009 a outs i) (F92_1009 (k + 1) q1005 q1009 a outs i) := by
  unfold F92_1009
  repeat' first | with_reducible exact Le.rfl _ | with_reducible exact h1005 _ _ _ _ | with_reducible exact h1009 _ _ _ | with_reducible refine Le.cond ?_ ?_ | with_reducible refine Le.bind ?_ fun _ => ?_
theorem Mlw_toTermSS : ∀ k : Nat, (∀ (a : List (List (Int × Int × Int × Int))) (bare : Bool) (outs : List (List (Int × Int × Int × Int) × Nat)) (i : Int), Le ((l92 k).1 a bare outs i) ((l92 (k + 1)).1 a bare outs i)) ∧ (∀ (a : List (List (Int × Int × Int × Int))) (outs : List (List (Int × Int × Int × Int) × Nat)) (i : Int), Le ((l92 k).2 a outs i) ((l92 (k + 1)).2 a outs i))
  | 0 => ⟨fun a bare outs i => Le.no _, fun a outs i => Le.no _⟩
  | k + 1 => by
    have h := Mlw_toTermSS k
    exact ⟨fun a bare outs i => MFw_toTermSS_1005 k h.1 h.2 a bare outs i, fun a outs i => MFw_toTermSS_1009 k h.1 h.2 a outs i⟩
noncomputable def w_toTermSS_1005 (a : List (List (Int × Int × Int × Int))) (bare : Bool) (outs : List (List (Int × Int × Int × Int) × Nat)) (i : Int) : Option (List (List (Int × Int × Int × Int) × Nat) × Nat) := lim fun k => (l92 k).1 a bare outs i
theorem Rlw_toTermSS_1005 (a : List (List (Int × Int × Int × Int))) (bare : Bool) (outs : List (List (Int × Int × Int × Int) × Nat)) (i : Int) : Lim (fun k => (l92 k).1 a bare outs i) (w_toTermSS_1005 a bare outs i) := Lim.of_mono fun k => (Mlw_toTermSS k).1 a bare outs i
noncomputable def w_toTermSS_1009 (a : List (List (Int × Int × Int × Int))) (outs : List (List (Int × Int × Int × Int) × Nat)) (i : Int) : Option (List (List (Int × Int × Int × Int) × Nat) × Nat) := lim fun k => (l92 k).2 a outs i
theorem Rlw_toTermSS_1009 (a : List (List (Int × Int × Int × Int))) (outs : List (List (Int × Int × Int × Int) × Nat)) (i : Int) : Lim (fun k => (l92 k).2 a outs i) (w_toTermSS_1009 a outs i) := Lim.of_mono fun k => (Mlw_toTermSS k).2 a outs i
theorem Ew_toTermSS_1005 (a : List (List (Int × Int × Int × Int))) (bare : Bool) (outs : List (List (Int × Int × Int × Int) × Nat)) (i : Int) : w_toTermSS_1005 a bare outs i =
  bif decide (i < (↑(List.length a) : Int)) then
    bif boundA i (List.length a) then
      (w_toTermS (List.getD a (Int.toNat i) []) bare).bind fun r0 =>
      bif boundA i (List.length outs) then
        bif Nat.blt (Int.toNat i) (List.length outs) then
          w_toTermSS_1005 a bare (List.set outs (Int.toNat i) (r0.fst, r0.snd)) (IntKind.wrap IntKind.i64 (i + 1))
        else
          none
      else
        none
    else
      none
  else
    w_toTermSS_1009 a outs ((↑(List.length a) : Int)) := by
  refine Lim.uniq (Lim.shift (Rlw_toTermSS_1005 a bare outs i)) (?_ : Lim (fun k => F92_1005 k ((l92 k).1) ((l92 k).2) a bare outs i) _)
  unfold F92_1005
  repeat' first | with_reducible exact Lim.ret _ | with_reducible exact Rw_toTermS _ _ | with_reducible exact Rlw_toTermSS_1005 _ _ _ _ | with_reducible exact Rlw_toTermSS_1009 _ _ _ | with_reducible refine Lim.cond ?_ ?_ | with_reducible refine Lim.bind ?_ fun _ => ?_
theorem Ew_toTermSS_1009 (a : List (List (Int × Int × Int × Int))) (outs : List (List (Int × Int × Int × Int) × Nat)) (i : Int) : w_toTermSS_1009 a outs i =
  bif decide (i < (↑(List.length outs) : Int)) then
    bif boundA i (List.length outs) then
      bif Nat.blt (Int.toNat i) (List.length outs) then
        w_toTermSS_1009 a (List.set outs (Int.toNat i) ([(-7000000000000000101, -7000000000000000101, -7000000000000000101, -7000000000000000101)], List.length [(-7000000000000000101, -7000000000000000101, -7000000000000000101, -7000000000000000101)])) (IntKind.wrap IntKind.i64 (i + 1))
      else
        none
    else
      none
  else
    bif boundE (↑(List.length a) : Int) (List.length outs) then
      some ((outs, Option.getD (some (Int.toNat (↑(List.length a) : Int))) (List.length outs)))
    else
      none := by
  refine Lim.uniq (Lim.shift (Rlw_toTermSS_1009 a outs i)) (?_ : Lim (fun k => F92_1009 k ((l92 k).1) ((l92 k).2) a outs i) _)
  unfold F92_1009
  repeat' first | with_reducible exact Lim.ret _ | with_reducible exact Rlw_toTermSS_1005 _ _ _ _ | with_reducible exact Rlw_toTermSS_1009 _ _ _ | with_reducible refine Lim.cond ?_ ?_ | with_reducible refine Lim.bind ?_ fun _ => ?_
noncomputable def w_toTermSS (a : List (List (Int × Int × Int × Int))) (bare : Bool) : Option (List (List (Int × Int × Int × Int) × Nat) × Nat) :=
  bif bare then
    bif decide ((↑(List.length a) : Int) = 0) then
      some (([], 0))
    else
      (w_roomBehind (↑(List.length a) : Int)).bind fun r0 =>
      bif decide (0 ≤ IntKind.wrap IntKind.i64 ((↑(List.length a) : Int) + r0)) then
        bif decide (IntKind.wrap IntKind.i64 ((↑(List.length a) : Int) + r0) ≤ IntKind.wrap IntKind.i64 ((↑(List.length a) : Int) + r0)) then
          bif decide (IntKind.wrap IntKind.i64 ((↑(List.length a) : Int) + r0) * (↑24 : Int) ≤ 140737488355328) then
            w_toTermSS_1005 a bare (List.replicate (Int.toNat (IntKind.wrap IntKind.i64 ((↑(List.length a) : Int) + r0))) (dflt (Ty.vslice 136 (Ty.pair (Ty.int IntKind.i64) (Ty.pair (Ty.int IntKind.i64) (Ty.pair (Ty.int IntKind.i64) (Ty.int IntKind.i64))))))) (0)
          else
            none
        else
          none
      else
        none
  else
    (w_roomBehind (↑(List.length a) : Int)).bind fun r1 =>
    bif decide (0 ≤ IntKind.wrap IntKind.i64 ((↑(List.length a) : Int) + r1)) then
      bif decide (IntKind.wrap IntKind.i64 ((↑(List.length a) : Int) + r1) ≤ IntKind.wrap IntKind.i64 ((↑(List.length a) : Int) + r1)) then
        bif decide (IntKind.wrap IntKind.i64 ((↑(List.length a) : Int) + r1) * (↑24 : Int) ≤ 140737488355328) then
          w_toTermSS_1005 a bare (List.replicate (Int.toNat (IntKind.wrap IntKind.i64 ((↑(List.length a) : Int) + r1))) (dflt (Ty.vslice 136 (Ty.pair (Ty.int IntKind.i64) (Ty.pair (Ty.int IntKind.i64) (Ty.pair (Ty.int IntKind.i64) (Ty.int IntKind.i64))))))) (0)
        else
          none
      else
        none
    else
      none
theorem Mw_toTermSS (k : Nat) (a : List (List (Int × Int × Int × Int))) (bare : Bool) : Le (f92 k a bare) (f92 (k + 1) a bare) := by
  have h := Mlw_toTermSS k
  unfold f92 F92
  repeat' first | with_reducible exact Le.rfl _ | with_reducible exact Mw_roomBehind _ _ | with_reducible exact h.1 _ _ _ _ | with_reducible exact h.2 _ _ _ | with_reducible refine Le.cond ?_ ?_ | with_reducible refine Le.bind ?_ fun _ => ?_
theorem Rw_toTermSS (a : List (List (Int × Int × Int × Int))) (bare : Bool) : Lim (fun k => f92 k a bare) (w_toTermSS a bare) := by
  unfold f92 F92 w_toTermSS
  repeat' first | with_reducible exact Lim.ret _ | with_reducible exact Rw_roomBehind _ | with_reducible exact Rlw_toTermSS_1005 _ _ _ _ | with_reducible exact Rlw_toTermSS_1009 _ _ _ | with_reducible refine Lim.cond ?_ ?_ | with_reducible refine Lim.bind ?_ fun _ => ?_

-- laws.toEntry
noncomputable def w_toEntry (a_Name : ByteArray) (a_System : List (List (Int × Int × Int × Int))) (a_Box_K : Int) (a_Box_Low : List (Int)) (a_Box_High : List (Int)) (a_Least : Int) (a_Most : Int) (a_Version : Int) (bare : Bool) : Option (ByteArray × (List (List (Int × Int × Int × Int) × Nat) × Nat) × (Int × (List (Int) × Nat) × List (Int) × Nat) × Int × Int × Int) :=
  (w_toTermSS a_System bare).bind fun r0 =>
  (w_toBox a_Box_K a_Box_Low a_Box_High bare).bind fun r1 =>
  some ((a_Name, (r0.fst, Option.getD (some r0.snd) (List.length r0.fst)), (r1.fst, (r1.snd.fst.fst, Option.getD (some r1.snd.fst.snd) (List.length r1.snd.fst.fst)), r1.snd.snd.fst, Option.getD (some r1.snd.snd.snd) (List.length r1.snd.snd.fst)), a_Least, a_Most, a_Version))
theorem Mw_toEntry (k : Nat) (a_Name : ByteArray) (a_System : List (List (Int × Int × Int × Int))) (a_Box_K : Int) (a_Box_Low : List (Int)) (a_Box_High : List (Int)) (a_Least : Int) (a_Most : Int) (a_Version : Int) (bare : Bool) : Le (f47 k a_Name a_System a_Box_K a_Box_Low a_Box_High a_Least a_Most a_Version bare) (f47 (k + 1) a_Name a_System a_Box_K a_Box_Low a_Box_High a_Least a_Most a_Version bare) := by
  unfold f47
  repeat' first | with_reducible exact Le.rfl _ | with_reducible exact Mw_toBox _ _ _ _ _ | with_reducible exact Mw_toTermSS _ _ _ | with_reducible refine Le.cond ?_ ?_ | with_reducible refine Le.bind ?_ fun _ => ?_
theorem Rw_toEntry (a_Name : ByteArray) (a_System : List (List (Int × Int × Int × Int))) (a_Box_K : Int) (a_Box_Low : List (Int)) (a_Box_High : List (Int)) (a_Least : Int) (a_Most : Int) (a_Version : Int) (bare : Bool) : Lim (fun k => f47 k a_Name a_System a_Box_K a_Box_Low a_Box_High a_Least a_Most a_Version bare) (w_toEntry a_Name a_System a_Box_K a_Box_Low a_Box_High a_Least a_Most a_Version bare) := by
  unfold f47 w_toEntry
  repeat' first | with_reducible exact Lim.ret _ | with_reducible exact Rw_toBox _ _ _ _ | with_reducible exact Rw_toTermSS _ _ | with_reducible refine Lim.cond ?_ ?_ | with_reducible refine Lim.bind ?_ fun _ => ?_

-- impl.inside
noncomputable def i_inside (n : Int) (low : Int) (high : Int) : Option (Bool) :=
  bif decide (low ≤ n) then
    some (decide (n ≤ high))
  else
    some false
theorem Mi_inside (k : Nat) (n : Int) (low : Int) (high : Int) : Le (f74 k n low high) (f74 (k + 1) n low high) := by
  unfold f74
  repeat' first | with_reducible exact Le.rfl _ | with_reducible refine Le.cond ?_ ?_ | with_reducible refine Le.bind ?_ fun _ => ?_
theorem Ri_inside (n : Int) (low : Int) (high : Int) : Lim (fun k => f74 k n low high) (i_inside n low high) := by
  unfold f74 i_inside
  repeat' first | with_reducible exact Lim.ret _ | with_reducible refine Lim.cond ?_ ?_ | with_reducible refine Lim.bind ?_ fun _ => ?_

-- impl.isBox
theorem MFi_isBox_1005 (k : Nat) {r1005 q1005 : Int × List Int × List Int → Int → Bool → List Int → Int → Int → Option (Bool)} (h1005 : ∀ (L : Int × List Int × List Int) (t : Int) (t4 : Bool) (t48 : List Int) (t49 : Int) (t50 : Int), Le (r1005 L t t4 t48 t49 t50) (q1005 L t t4 t48 t49 t50)) (L : Int × List Int × List Int) (t : Int) (t4 : Bool) (t48 : List Int) (t49 : Int) (t50 : Int) : Le (F103_1005 k r1005 L t t4 t48 t49 t50) (F103_1005 (k + 1) q1005 L t t4 t48 t49 t50) := by
  unfold F103_1005
  repeat' first | with_reducible exact Le.rfl _ | with_reducible exact Mi_inside _ _ _ _ | with_reducible exact h1005 _ _ _ _ _ _ | with_reducible refine Le.cond ?_ ?_ | with_reducible refine Le.bind ?_ fun _ => ?_
theorem Mli_isBox : ∀ k : Nat, ∀ (L : Int × List Int × List Int) (t : Int) (t4 : Bool) (t48 : List Int) (t49 : Int) (t50 : Int), Le ((l103 k) L t t4 t48 t49 t50) ((l103 (k + 1)) L t t4 t48 t49 t50)
  | 0 => fun L t t4 t48 t49 t50 => Le.no _
  | k + 1 => by
    have h := Mli_isBox k
    exact fun L t t4 t48 t49 t50 => MFi_isBox_1005 k h L t t4 t48 t49 t50
noncomputable def i_isBox_1005 (L : Int × List Int × List Int) (t : Int) (t4 : Bool) (t48 : List Int) (t49 : Int) (t50 : Int) : Option (Bool) := lim fun k => (l103 k) L t t4 t48 t49 t50
theorem Rli_isBox_1005 (L : Int × List Int × List Int) (t : Int) (t4 : Bool) (t48 : List Int) (t49 : Int) (t50 : Int) : Lim (fun k => (l103 k) L t t4 t48 t49 t50) (i_isBox_1005 L t t4 t48 t49 t50) := Lim.of_mono fun k => Mli_isBox k L t t4 t48 t49 t50
theorem Ei_isBox_1005 (L : Int × List Int × List Int) (t : Int) (t4 : Bool) (t48 : List Int) (t49 : Int) (t50 : Int) : i_isBox_1005 L t t4 t48 t49 t50 =
  bif decide (t50 < t49) then
    bif boundA t50 (List.length t48) then
      (i_inside (List.getD t48 (Int.toNat t50) 0) (IntKind.wrap IntKind.i64 (0 - t)) t).bind fun r0 =>
      bif !r0 then
        some false
      else
        bif boundA t50 (List.length L.snd.snd) then
          (i_inside (List.getD L.snd.snd (Int.toNat t50) 0) (IntKind.wrap IntKind.i64 (List.getD t48 (Int.toNat t50) 0 + 1)) t).bind fun r1 =>
          bif !r1 then
            some false
          else
            bif t4 then
              i_isBox_1005 L t true t48 t49 (IntKind.wrap IntKind.i64 (t50 + 1))
            else
              bif !decide (Int.tmod (List.getD t48 (Int.toNat t50) 0) 2 = 0) then
                i_isBox_1005 L t true t48 t49 (IntKind.wrap IntKind.i64 (t50 + 1))
              else
                bif boundA t50 (List.length L.snd.snd) then
                  i_isBox_1005 L t (!decide (Int.tmod (List.getD L.snd.snd (Int.toNat t50) 0) 2 = 0)) t48 t49 (IntKind.wrap IntKind.i64 (t50 + 1))
                else
                  none
        else
          none
    else
      none
  else
    some t4 := by
  refine Lim.uniq (Lim.shift (Rli_isBox_1005 L t t4 t48 t49 t50)) (?_ : Lim (fun k => F103_1005 k ((l103 k)) L t t4 t48 t49 t50) _)
  unfold F103_1005
  repeat' first | with_reducible exact Lim.ret _ | with_reducible exact Ri_inside _ _ _ | with_reducible exact Rli_isBox_1005 _ _ _ _ _ _ | with_reducible refine Lim.cond ?_ ?_ | with_reducible refine Lim.bind ?_ fun _ => ?_
noncomputable def i_isBox (L : Int × (List (Int)) × List (Int)) : Option (Bool) :=
  (i_inside L.fst 0 8).bind fun r0 =>
  bif !r0 then
    some false
  else
    (i_inside (↑(List.length L.snd.fst) : Int) 1 3).bind fun r1 =>
    bif !r1 then
      some false
    else
      bif !decide ((↑(List.length L.snd.snd) : Int) = (↑(List.length L.snd.fst) : Int)) then
        some false
      else
        bif !decide (L.fst < 0) then
          i_isBox_1005 L (IntKind.wrap IntKind.i64 (8 * 2 ^ min (Int.toNat L.fst) (IntKind.bits IntKind.i64))) (decide (L.fst = 0)) (L.snd.fst) ((↑(List.length L.snd.fst) : Int)) (0)
        else
          none
theorem Mi_isBox (k : Nat) (L : Int × (List (Int)) × List (Int)) : Le (f103 k L) (f103 (k + 1) L) := by
  have h := Mli_isBox k
  unfold f103 F103
  repeat' first | with_reducible exact Le.rfl _ | with_reducible exact Mi_inside _ _ _ _ | with_reducible exact h _ _ _ _ _ _ | with_reducible refine Le.cond ?_ ?_ | with_reducible refine Le.bind ?_ fun _ => ?_
theorem Ri_isBox (L : Int × (List (Int)) × List (Int)) : Lim (fun k => f103 k L) (i_isBox L) := by
  unfold f103 F103 i_isBox
  repeat' first | with_reducible exact Lim.ret _ | with_reducible exact Ri_inside _ _ _ | with_reducible exact Rli_isBox_1005 _ _ _ _ _ _ | with_reducible refine Lim.cond ?_ ?_ | with_reducible refine Lim.bind ?_ fun _ => ?_

-- impl.Term).degree
noncomputable def i_Term_degree (t_C : Int) (t_X : Int) (t_Y : Int) (t_Z : Int) : Option (Int) :=
  some (IntKind.wrap IntKind.i64 (IntKind.wrap IntKind.i64 (t_X + t_Y) + t_Z))
theorem Mi_Term_degree (k : Nat) (t_C : Int) (t_X : Int) (t_Y : Int) (t_Z : Int) : Le (f206 k t_C t_X t_Y t_Z) (f206 (k + 1) t_C t_X t_Y t_Z) := by
  unfold f206
  repeat' first | with_reducible exact Le.rfl _ | with_reducible refine Le.cond ?_ ?_ | with_reducible refine Le.bind ?_ fun _ => ?_
theorem Ri_Term_degree (t_C : Int) (t_X : Int) (t_Y : Int) (t_Z : Int) : Lim (fun k => f206 k t_C t_X t_Y t_Z) (i_Term_degree t_C t_X t_Y t_Z) := by
  unfold f206 i_Term_degree
  repeat' first | with_reducible exact Lim.ret _ | with_reducible refine Lim.cond ?_ ?_ | with_reducible refine Lim.bind ?_ fun _ => ?_

-- impl.hasDegree
noncomputable def i_hasDegree (t_C : Int) (t_X : Int) (t_Y : Int) (t_Z : Int) : Option (Bool) :=
  (i_inside t_X 0 4).bind fun r0 =>
  bif r0 then
    (i_inside t_Y 0 4).bind fun r1 =>
    bif r1 then
      (i_inside t_Z 0 4).bind fun r2 =>
      bif r2 then
        some (decide (IntKind.wrap IntKind.i64 (IntKind.wrap IntKind.i64 (t_X + t_Y) + t_Z) ≤ 4))
      else
        some false
    else
      some false
  else
    some false
theorem Mi_hasDegree (k : Nat) (t_C : Int) (t_X : Int) (t_Y : Int) (t_Z : Int) : Le (f199 k t_C t_X t_Y t_Z) (f199 (k + 1) t_C t_X t_Y t_Z) := by
  unfold f199
  repeat' first | with_reducible exact Le.rfl _ | with_reducible exact Mi_inside _ _ _ _ | with_reducible refine Le.cond ?_ ?_ | with_reducible refine Le.bind ?_ fun _ => ?_
theorem Ri_hasDegree (t_C : Int) (t_X : Int) (t_Y : Int) (t_Z : Int) : Lim (fun k => f199 k t_C t_X t_Y t_Z) (i_hasDegree t_C t_X t_Y t_Z) := by
  unfold f199 i_hasDegree
  repeat' first | with_reducible exact Lim.ret _ | with_reducible exact Ri_inside _ _ _ | with_reducible refine Lim.cond ?_ ?_ | with_reducible refine Lim.bind ?_ fun _ => ?_

-- cmp.Or[int]
theorem MFcmp_Or_int_1003 (k : Nat) {r1003 q1003 : Int → List Int → Int → Int → Option (Int)} (h1003 : ∀ (zero : Int) (t6 : List Int) (t7 : Int) (t8 : Int), Le (r1003 zero t6 t7 t8) (q1003 zero t6 t7 t8)) (zero : Int) (t6 : List Int) (t7 : Int) (t8 : Int) : Le (F203_1003 k r1003 zero t6 t7 t8) (F203_1003 (k + 1) q1003 zero t6 t7 t8) := by
  unfold F203_1003
  repeat' first | with_reducible exact Le.rfl _ | with_reducible exact h1003 _ _ _ _ | with_reducible refine Le.cond ?_ ?_ | with_reducible refine Le.bind ?_ fun _ => ?_
theorem Mlcmp_Or_int : ∀ k : Nat, ∀ (zero : Int) (t6 : List Int) (t7 : Int) (t8 : Int), Le ((l203 k) zero t6 t7 t8) ((l203 (k + 1)) zero t6 t7 t8)
  | 0 => fun zero t6 t7 t8 => Le.no _
  | k + 1 => by
    have h := Mlcmp_Or_int k
    exact fun zero t6 t7 t8 => MFcmp_Or_int_1003 k h zero t6 t7 t8
noncomputable def cmp_Or_int_1003 (zero : Int) (t6 : List Int) (t7 : Int) (t8 : Int) : Option (Int) := lim fun k => (l203 k) zero t6 t7 t8
theorem Rlcmp_Or_int_1003 (zero : Int) (t6 : List Int) (t7 : Int) (t8 : Int) : Lim (fun k => (l203 k) zero t6 t7 t8) (cmp_Or_int_1003 zero t6 t7 t8) := Lim.of_mono fun k => Mlcmp_Or_int k zero t6 t7 t8
theorem Ecmp_Or_int_1003 (zero : Int) (t6 : List Int) (t7 : Int) (t8 : Int) : cmp_Or_int_1003 zero t6 t7 t8 =
  bif decide (t8 < t7) then
    bif boundA t8 (List.length t6) then
      bif !decide (List.getD t6 (Int.toNat t8) 0 = zero) then
        some (List.getD t6 (Int.toNat t8) 0)
      else
        cmp_Or_int_1003 zero t6 t7 (IntKind.wrap IntKind.i64 (t8 + 1))
    else
      none
  else
    some zero := by
  refine Lim.uniq (Lim.shift (Rlcmp_Or_int_1003 zero t6 t7 t8)) (?_ : Lim (fun k => F203_1003 k ((l203 k)) zero t6 t7 t8) _)
  unfold F203_1003
  repeat' first | with_reducible exact Lim.ret _ | with_reducible exact Rlcmp_Or_int_1003 _ _ _ _ | with_reducible refine Lim.cond ?_ ?_ | with_reducible refine Lim.bind ?_ fun _ => ?_
noncomputable def cmp_Or_int (vals : List (Int)) : Option (Int) :=
  cmp_Or_int_1003 (0) vals ((↑(List.length vals) : Int)) (0)
theorem Mcmp_Or_int (k : Nat) (vals : List (Int)) : Le (f203 k vals) (f203 (k + 1) vals) := by
  have h := Mlcmp_Or_int k
  unfold f203 F203
  repeat' first | with_reducible exact Le.rfl _ | with_reducible exact h _ _ _ _ | with_reducible refine Le.cond ?_ ?_ | with_reducible refine Le.bind ?_ fun _ => ?_
theorem Rcmp_Or_int (vals : List (Int)) : Lim (fun k => f203 k vals) (cmp_Or_int vals) := by
  unfold f203 F203 cmp_Or_int
  repeat' first | with_reducible exact Lim.ret _ | with_reducible exact Rlcmp_Or_int_1003 _ _ _ _ | with_reducible refine Lim.cond ?_ ?_ | with_reducible refine Lim.bind ?_ fun _ => ?_

-- cmp.isNaN[int]
noncomputable def cmp_isNaN_int (x : Int) : Option (Bool) :=
  some (!decide (x = x))
theorem Mcmp_isNaN_int (k : Nat) (x : Int) : Le (f209 k x) (f209 (k + 1) x) := by
  unfold f209
  repeat' first | with_reducible exact Le.rfl _ | with_reducible refine Le.cond ?_ ?_ | with_reducible refine Le.bind ?_ fun _ => ?_
theorem Rcmp_isNaN_int (x : Int) : Lim (fun k => f209 k x) (cmp_isNaN_int x) := by
  unfold f209 cmp_isNaN_int
  repeat' first | with_reducible exact Lim.ret _ | with_reducible refine Lim.cond ?_ ?_ | with_reducible refine Lim.bind ?_ fun _ => ?_

-- cmp.Compare[int]
noncomputable def cmp_Compare_int (x : Int) (y : Int) : Option (Int) :=
  bif !decide (x = x) then
    bif !decide (y = y) then
      some (0)
    else
      some (-1)
  else
    bif !decide (y = y) then
      some (1)
    else
      bif decide (x < y) then
        some (-1)
      else
        bif decide (y < x) then
          some (1)
        else
          some (0)
theorem Mcmp_Compare_int (k : Nat) (x : Int) (y : Int) : Le (f207 k x y) (f207 (k + 1) x y) := by
  unfold f207
  repeat' first | with_reducible exact Le.rfl _ | with_reducible refine Le.cond ?_ ?_ | with_reducible refine Le.bind ?_ fun _ => ?_
theorem Rcmp_Compare_int (x : Int) (y : Int) : Lim (fun k => f207 k x y) (cmp_Compare_int x y) := by
  unfold f207 cmp_Compare_int
  repeat' first | with_reducible exact Lim.ret _ | with_reducible refine Lim.cond ?_ ?_ | with_reducible refine Lim.bind ?_ fun _ => ?_

-- impl.compareTerms
noncomputable def i_compareTerms (a_C : Int) (a_X : Int) (a_Y : Int) (a_Z : Int) (b_C : Int) (b_X : Int) (b_Y : Int) (b_Z : Int) : Option (Int) :=
  (cmp_Compare_int a_X b_X).bind fun r0 =>
  (cmp_Compare_int a_Y b_Y).bind fun r1 =>
  (cmp_Compare_int a_Z b_Z).bind fun r2 =>
  (cmp_Or_int [r0, r1, r2]).bind fun r3 =>
  some r3
theorem Mi_compareTerms (k : Nat) (a_C : Int) (a_X : Int) (a_Y : Int) (a_Z : Int) (b_C : Int) (b_X : Int) (b_Y : Int) (b_Z : Int) : Le (f200 k a_C a_X a_Y a_Z b_C b_X b_Y b_Z) (f200 (k + 1) a_C a_X a_Y a_Z b_C b_X b_Y b_Z) := by
  unfold f200
  repeat' first | with_reducible exact Le.rfl _ | with_reducible exact Mcmp_Or_int _ _ | with_reducible exact Mcmp_Compare_int _ _ _ | with_reducible refine Le.cond ?_ ?_ | with_reducible refine Le.bind ?_ fun _ => ?_
theorem Ri_compareTerms (a_C : Int) (a_X : Int) (a_Y : Int) (a_Z : Int) (b_C : Int) (b_X : Int) (b_Y : Int) (b_Z : Int) : Lim (fun k => f200 k a_C a_X a_Y a_Z b_C b_X b_Y b_Z) (i_compareTerms a_C a_X a_Y a_Z b_C b_X b_Y b_Z) := by
  unfold f200 i_compareTerms
  repeat' first | with_reducible exact Lim.ret _ | with_reducible exact Rcmp_Or_int _ | with_reducible exact Rcmp_Compare_int _ _ | with_reducible refine Lim.cond ?_ ?_ | with_reducible refine Lim.bind ?_ fun _ => ?_

-- impl.isPoly
theorem MFi_isPoly_1002 (k : Nat) {r1002 q1002 : List (Int × Int × Int × Int) → List (Int × Int × Int × Int) → Int → Int → Option (Bool)} (h1002 : ∀ (p : List (Int × Int × Int × Int)) (t5 : List (Int × Int × Int × Int)) (t6 : Int) (t7 : Int), Le (r1002 p t5 t6 t7) (q1002 p t5 t6 t7)) (p : List (Int × Int × Int × Int)) (t5 : List (Int × Int × Int × Int)) (t6 : Int) (t7 : Int) : Le (F186_1002 k r1002 p t5 t6 t7) (F186_1002 (k + 1) q1002 p t5 t6 t7) := by
  unfold F186_1002
  repeat' first | with_reducible exact Le.rfl _ | with_reducible exact Mi_hasDegree _ _ _ _ _ | with_reducible exact Mi_compareTerms _ _ _ _ _ _ _ _ _ | with_reducible exact Mi_inside _ _ _ _ | with_reducible exact h1002 _ _ _ _ | with_reducible refine Le.cond ?_ ?_ | with_reducible refine Le.bind ?_ fun _ => ?_
theorem Mli_isPoly : ∀ k : Nat, ∀ (p : List (Int × Int × Int × Int)) (t5 : List (Int × Int × Int × Int)) (t6 : Int) (t7 : Int), Le ((l186 k) p t5 t6 t7) ((l186 (k + 1)) p t5 t6 t7)
  | 0 => fun p t5 t6 t7 => Le.no _
  | k + 1 => by
    have h := Mli_isPoly k
    exact fun p t5 t6 t7 => MFi_isPoly_1002 k h p t5 t6 t7
noncomputable def i_isPoly_1002 (p : List (Int × Int × Int × Int)) (t5 : List (Int × Int × Int × Int)) (t6 : Int) (t7 : Int) : Option (Bool) := lim fun k => (l186 k) p t5 t6 t7
theorem Rli_isPoly_1002 (p : List (Int × Int × Int × Int)) (t5 : List (Int × Int × Int × Int)) (t6 : Int) (t7 : Int) : Lim (fun k => (l186 k) p t5 t6 t7) (i_isPoly_1002 p t5 t6 t7) := Lim.of_mono fun k => Mli_isPoly k p t5 t6 t7
theorem Ei_isPoly_1002 (p : List (Int × Int × Int × Int)) (t5 : List (Int × Int × Int × Int)) (t6 : Int) (t7 : Int) : i_isPoly_1002 p t5 t6 t7 =
  bif decide (t7 < t6) then
    bif boundA t7 (List.length t5) then
      bif decide ((List.getD t5 (Int.toNat t7) (0, 0, 0, 0)).fst = 0) then
        some false
      else
        (i_inside (List.getD t5 (Int.toNat t7) (0, 0, 0, 0)).fst (-1000) 1000).bind fun r0 =>
        bif !r0 then
          some false
        else
          (i_hasDegree (List.getD t5 (Int.toNat t7) (0, 0, 0, 0)).fst (List.getD t5 (Int.toNat t7) (0, 0, 0, 0)).snd.fst (List.getD t5 (Int.toNat t7) (0, 0, 0, 0)).snd.snd.fst (List.getD t5 (Int.toNat t7) (0, 0, 0, 0)).snd.snd.snd).bind fun r1 =>
          bif !r1 then
            some false
          else
            bif decide (0 < t7) then
              bif boundA (IntKind.wrap IntKind.i64 (t7 - 1)) (List.length p) then
                (i_compareTerms (List.getD p (Int.toNat (IntKind.wrap IntKind.i64 (t7 - 1))) (0, 0, 0, 0)).fst (List.getD p (Int.toNat (IntKind.wrap IntKind.i64 (t7 - 1))) (0, 0, 0, 0)).snd.fst (List.getD p (Int.toNat (IntKind.wrap IntKind.i64 (t7 - 1))) (0, 0, 0, 0)).snd.snd.fst (List.getD p (Int.toNat (IntKind.wrap IntKind.i64 (t7 - 1))) (0, 0, 0, 0)).snd.snd.snd (List.getD t5 (Int.toNat t7) (0, 0, 0, 0)).fst (List.getD t5 (Int.toNat t7) (0, 0, 0, 0)).snd.fst (List.getD t5 (Int.toNat t7) (0, 0, 0, 0)).snd.snd.fst (List.getD t5 (Int.toNat t7) (0, 0, 0, 0)).snd.snd.snd).bind fun r2 =>
                bif decide (0 ≤ r2) then
                  some false
                else
                  i_isPoly_1002 p t5 t6 (IntKind.wrap IntKind.i64 (t7 + 1))
              else
                none
            else
              i_isPoly_1002 p t5 t6 (IntKind.wrap IntKind.i64 (t7 + 1))
    else
      none
  else
    some (decide ((↑(List.length p) : Int) ≤ 20)) := by
  refine Lim.uniq (Lim.shift (Rli_isPoly_1002 p t5 t6 t7)) (?_ : Lim (fun k => F186_1002 k ((l186 k)) p t5 t6 t7) _)
  unfold F186_1002
  repeat' first | with_reducible exact Lim.ret _ | with_reducible exact Ri_hasDegree _ _ _ _ | with_reducible exact Ri_compareTerms _ _ _ _ _ _ _ _ | with_reducible exact Ri_inside _ _ _ | with_reducible exact Rli_isPoly_1002 _ _ _ _ | with_reducible refine Lim.cond ?_ ?_ | with_reducible refine Lim.bind ?_ fun _ => ?_
noncomputable def i_isPoly (p : List (Int × Int × Int × Int)) : Option (Bool) :=
  i_isPoly_1002 p p ((↑(List.length p) : Int)) (0)
theorem Mi_isPoly (k : Nat) (p : List (Int × Int × Int × Int)) : Le (f186 k p) (f186 (k + 1) p) := by
  have h := Mli_isPoly k
  unfold f186 F186
  repeat' first | with_reducible exact Le.rfl _ | with_reducible exact h _ _ _ _ | with_reducible refine Le.cond ?_ ?_ | with_reducible refine Le.bind ?_ fun _ => ?_
theorem Ri_isPoly (p : List (Int × Int × Int × Int)) : Lim (fun k => f186 k p) (i_isPoly p) := by
  unfold f186 F186 i_isPoly
  repeat' first | with_reducible exact Lim.ret _ | with_reducible exact Rli_isPoly_1002 _ _ _ _ | with_reducible refine Lim.cond ?_ ?_ | with_reducible refine Lim.bind ?_ fun _ => ?_

-- impl.Term).exponents
noncomputable def i_Term_exponents (t_C : Int) (t_X : Int) (t_Y : Int) (t_Z : Int) : Option (Int × Int × Int) :=
  some ((t_X, t_Y, t_Z))
theorem Mi_Term_exponents (k : Nat) (t_C : Int) (t_X : Int) (t_Y : Int) (t_Z : Int) : Le (f201 k t_C t_X t_Y t_Z) (f201 (k + 1) t_C t_X t_Y t_Z) := by
  unfold f201
  repeat' first | with_reducible exact Le.rfl _ | with_reducible refine Le.cond ?_ ?_ | with_reducible refine Le.bind ?_ fun _ => ?_
theorem Ri_Term_exponents (t_C : Int) (t_X : Int) (t_Y : Int) (t_Z : Int) : Lim (fun k => f201 k t_C t_X t_Y t_Z) (i_Term_exponents t_C t_X t_Y t_Z) := by
  unfold f201 i_Term_exponents
  repeat' first | with_reducible exact Lim.ret _ | with_reducible refine Lim.cond ?_ ?_ | with_reducible refine Lim.bind ?_ fun _ => ?_

-- impl.needsAtMost
theorem MFi_needsAtMost_1002 (k : Nat) {r1002 q1002 : Int → List (Int × Int × Int × Int) → Int → Int → Option (Bool)} (h1002 : ∀ (n : Int) (t9 : List (Int × Int × Int × Int)) (t10 : Int) (t11 : Int), Le (r1002 n t9 t10 t11) (q1002 n t9 t10 t11)) {r1005 q1005 : Int → List (Int × Int × Int × Int) → Int → Int → Int → Int → Int → Int → Option (Bool)} (h1005 : ∀ (n : Int) (t9 : List (Int × Int × Int × Int)) (t10 : Int) (t11 : Int) (t16_0 : Int) (t16_1 : Int) (t16_2 : Int) (t17 : Int), Le (r1005 n t9 t10 t11 t16_0 t16_1 t16_2 t17) (q1005 n t9 t10 t11 t16_0 t16_1 t16_2 t17)) (n : Int) (t9 : List (Int × Int × Int × Int)) (t10 : Int) (t11 : Int) : Le (F187_1002 k r1002 r1005 n t9 t10 t11) (F187_1002 (k + 1) q1002 q1005 n t9 t10 t11) := by
  unfold F187_1002
  repeat' first | with_reducible exact Le.rfl _ | with_reducible exact h1002 _ _ _ _ | with_reducible exact h1005 _ _ _ _ _ _ _ _ | with_reducible refine Le.cond ?_ ?_ | with_reducible refine Le.bind ?_ fun _ => ?_
theorem MFi_needsAtMost_1005 (k : Nat) {r1002 q1002 : Int → List (Int × Int × Int × Int) → Int → Int → Option (Bool)} (h1002 : ∀ (n : Int) (t9 : List (Int × Int × Int × Int)) (t10 : Int) (t11 : Int), Le (r1002 n t9 t10 t11) (q1002 n t9 t10 t11)) {r1005 q1005 : Int → List (Int × Int × Int × Int) → Int → Int → Int → Int → Int → Int → Option (Bool)} (h1005 : ∀ (n : Int) (t9 : List (Int × Int × Int × Int)) (t10 : Int) (t11 : Int) (t16_0 : Int) (t16_1 : Int) (t16_2 : Int) (t17 : Int), Le (r1005 n t9 t10 t11 t16_0 t16_1 t16_2 t17) (q1005 n t9 t10 t11 t16_0 t16_1 t16_2 t17)) (n : Int) (t9 : List (Int × Int × Int × Int)) (t10 : Int) (t11 : Int) (t16_0 : Int) (t16_1 : Int) (t16_2 : Int) (t17 : Int) : Le (F187_1005 k r1002 r1005 n t9 t10 t11 t16_0 t16_1 t16_2 t17) (F187_1005 (k + 1) q1002 q1005 n t9 t10 t11 t16_0 t16_1 t16_2 t17) := by
  unfold F187_1005
  repeat' first | with_reducible exact Le.rfl _ | with_reducible exact h1002 _ _ _ _ | with_reducible exact h1005 _ _ _ _ _ _ _ _ | with_reducible refine Le.cond ?_ ?_ | with_reducible refine Le.bind ?_ fun _ => ?_
theorem Mli_needsAtMost : ∀ k : Nat, (∀ (n : Int) (t9 : List (Int × Int × Int × Int)) (t10 : Int) (t11 : Int), Le ((l187 k).1 n t9 t10 t11) ((l187 (k + 1)).1 n t9 t10 t11)) ∧ (∀ (n : Int) (t9 : List (Int × Int × Int × Int)) (t10 : Int) (t11 : Int) (t16_0 : Int) (t16_1 : Int) (t16_2 : Int) (t17 : Int), Le ((l187 k).2 n t9 t10 t11 t16_0 t16_1 t16_2 t17) ((l187 (k + 1)).2 n t9 t10 t11 t16_0 t16_1 t16_2 t17))
  | 0 => ⟨fun n t9 t10 t11 => Le.no _, fun n t9 t10 t11 t16_0 t16_1 t16_2 t17 => Le.no _⟩
  | k + 1 => by
    have h := Mli_needsAtMost k
    exact ⟨fun n t9 t10 t11 => MFi_needsAtMost_1002 k h.1 h.2 n t9 t10 t11, fun n t9 t10 t11 t16_0 t16_1 t16_2 t17 => MFi_needsAtMost_1005 k h.1 h.2 n t9 t10 t11 t16_0 t16_1 t16_2 t17⟩
noncomputable def i_needsAtMost_1002 (n : Int) (t9 : List (Int × Int × Int × Int)) (t10 : Int) (t11 : Int) : Option (Bool) := lim fun k => (l187 k).1 n t9 t10 t11
theorem Rli_needsAtMost_1002 (n : Int) (t9 : List (Int × Int × Int × Int)) (t10 : Int) (t11 : Int) : Lim (fun k => (l187 k).1 n t9 t10 t11) (i_needsAtMost_1002 n t9 t10 t11) := Lim.of_mono fun k => (Mli_needsAtMost k).1 n t9 t10 t11
noncomputable def i_needsAtMost_1005 (n : Int) (t9 : List (Int × Int × Int × Int)) (t10 : Int) (t11 : Int) (t16_0 : Int) (t16_1 : Int) (t16_2 : Int) (t17 : Int) : Option (Bool) := lim fun k => (l187 k).2 n t9 t10 t11 t16_0 t16_1 t16_2 t17
theorem Rli_needsAtMost_1005 (n : Int) (t9 : List (Int × Int × Int × Int)) (t10 : Int) (t11 : Int) (t16_0 : Int) (t16_1 : Int) (t16_2 : Int) (t17 : Int) : Lim (fun k => (l187 k).2 n t9 t10 t11 t16_0 t16_1 t16_2 t17) (i_needsAtMost_1005 n t9 t10 t11 t16_0 t16_1 t16_2 t17) := Lim.of_mono fun k => (Mli_needsAtMost k).2 n t9 t10 t11 t16_0 t16_1 t16_2 t17
theorem Ei_needsAtMost_1002 (n : Int) (t9 : List (Int × Int × Int × Int)) (t10 : Int) (t11 : Int) : i_needsAtMost_1002 n t9 t10 t11 =
  bif decide (t11 < t10) then
    bif boundA t11 (List.length t9) then
      i_needsAtMost_1005 n t9 t10 t11 ((List.getD t9 (Int.toNat t11) (0, 0, 0, 0)).snd.fst) ((List.getD t9 (Int.toNat t11) (0, 0, 0, 0)).snd.snd.fst) ((List.getD t9 (Int.toNat t11) (0, 0, 0, 0)).snd.snd.snd) (0)
    else
      none
  else
    some true := by
  refine Lim.uniq (Lim.shift (Rli_needsAtMost_1002 n t9 t10 t11)) (?_ : Lim (fun k => F187_1002 k ((l187 k).1) ((l187 k).2) n t9 t10 t11) _)
  unfold F187_1002
  repeat' first | with_reducible exact Lim.ret _ | with_reducible exact Rli_needsAtMost_1002 _ _ _ _ | with_reducible exact Rli_needsAtMost_1005 _ _ _ _ _ _ _ _ | with_reducible refine Lim.cond ?_ ?_ | with_reducible refine Lim.bind ?_ fun _ => ?_
theorem Ei_needsAtMost_1005 (n : Int) (t9 : List (Int × Int × Int × Int)) (t10 : Int) (t11 : Int) (t16_0 : Int) (t16_1 : Int) (t16_2 : Int) (t17 : Int) : i_needsAtMost_1005 n t9 t10 t11 t16_0 t16_1 t16_2 t17 =
  bif decide (t17 < 3) then
    bif boundA t17 (List.length [t16_0, t16_1, t16_2]) then
      bif decide (n ≤ t17) then
        bif decide (0 < List.getD [t16_0, t16_1, t16_2] (Int.toNat t17) 0) then
          some false
        else
          i_needsAtMost_1005 n t9 t10 t11 t16_0 t16_1 t16_2 (IntKind.wrap IntKind.i64 (t17 + 1))
      else
        i_needsAtMost_1005 n t9 t10 t11 t16_0 t16_1 t16_2 (IntKind.wrap IntKind.i64 (t17 + 1))
    else
      none
  else
    i_needsAtMost_1002 n t9 t10 (IntKind.wrap IntKind.i64 (t11 + 1)) := by
  refine Lim.uniq (Lim.shift (Rli_needsAtMost_1005 n t9 t10 t11 t16_0 t16_1 t16_2 t17)) (?_ : Lim (fun k => F187_1005 k ((l187 k).1) ((l187 k).2) n t9 t10 t11 t16_0 t16_1 t16_2 t17) _)
  unfold F187_1005
  repeat' first | with_reducible exact Lim.ret _ | with_reducible exact Rli_needsAtMost_1002 _ _ _ _ | with_reducible exact Rli_needsAtMost_1005 _ _ _ _ _ _ _ _ | with_reducible refine Lim.cond ?_ ?_ | with_reducible refine Lim.bind ?_ fun _ => ?_
noncomputable def i_needsAtMost (p : List (Int × Int × Int × Int)) (n : Int) : Option (Bool) :=
  i_needsAtMost_1002 n p ((↑(List.length p) : Int)) (0)
theorem Mi_needsAtMost (k : Nat) (p : List (Int × Int × Int × Int)) (n : Int) : Le (f187 k p n) (f187 (k + 1) p n) := by
  have h := Mli_needsAtMost k
  unfold f187 F187
  repeat' first | with_reducible exact Le.rfl _ | with_reducible exact h.1 _ _ _ _ | with_reducible exact h.2 _ _ _ _ _ _ _ _ | with_reducible refine Le.cond ?_ ?_ | with_reducible refine Le.bind ?_ fun _ => ?_
theorem Ri_needsAtMost (p : List (Int × Int × Int × Int)) (n : Int) : Lim (fun k => f187 k p n) (i_needsAtMost p n) := by
  unfold f187 F187 i_needsAtMost
  repeat' first | with_reducible exact Lim.ret _ | with_reducible exact Rli_needsAtMost_1002 _ _ _ _ | with_reducible exact Rli_needsAtMost_1005 _ _ _ _ _ _ _ _ | with_reducible refine Lim.cond ?_ ?_ | with_reducible refine Lim.bind ?_ fun _ => ?_

-- impl.isSystem
theorem MFi_isSystem_1002 (k : Nat) {r1002 q1002 : List (List (Int × Int × Int × Int)) → List (List (Int × Int × Int × Int)) → Int → Int → Option (Bool)} (h1002 : ∀ (s : List (List (Int × Int × Int × Int))) (t5 : List (List (Int × Int × Int × Int))) (t6 : Int) (t7 : Int), Le (r1002 s t5 t6 t7) (q1002 s t5 t6 t7)) (s : List (List (Int × Int × Int × Int))) (t5 : List (List (Int × Int × Int × Int))) (t6 : Int) (t7 : Int) : Le (F160_1002 k r1002 s t5 t6 t7) (F160_1002 (k + 1) q1002 s t5 t6 t7) := by
  unfold F160_1002
  repeat' first | with_reducible exact Le.rfl _ | with_reducible exact Mi_isPoly _ _ | with_reducible exact Mi_needsAtMost _ _ _ | with_reducible exact Mi_inside _ _ _ _ | with_reducible exact h1002 _ _ _ _ | with_reducible refine Le.cond ?_ ?_ | with_reducible refine Le.bind ?_ fun _ => ?_
theorem Mli_isSystem : ∀ k : Nat, ∀ (s : List (List (Int × Int × Int × Int))) (t5 : List (List (Int × Int × Int × Int))) (t6 : Int) (t7 : Int), Le ((l160 k) s t5 t6 t7) ((l160 (k + 1)) s t5 t6 t7)
  | 0 => fun s t5 t6 t7 => Le.no _
  | k + 1 => by
    have h := Mli_isSystem k
    exact fun s t5 t6 t7 => MFi_isSystem_1002 k h s t5 t6 t7
noncomputable def i_isSystem_1002 (s : List (List (Int × Int × Int × Int))) (t5 : List (List (Int × Int × Int × Int))) (t6 : Int) (t7 : Int) : Option (Bool) := lim fun k => (l160 k) s t5 t6 t7
theorem Rli_isSystem_1002 (s : List (List (Int × Int × Int × Int))) (t5 : List (List (Int × Int × Int × Int))) (t6 : Int) (t7 : Int) : Lim (fun k => (l160 k) s t5 t6 t7) (i_isSystem_1002 s t5 t6 t7) := Lim.of_mono fun k => Mli_isSystem k s t5 t6 t7
theorem Ei_isSystem_1002 (s : List (List (Int × Int × Int × Int))) (t5 : List (List (Int × Int × Int × Int))) (t6 : Int) (t7 : Int) : i_isSystem_1002 s t5 t6 t7 =
  bif decide (t7 < t6) then
    bif boundA t7 (List.length t5) then
      (i_isPoly (List.getD t5 (Int.toNat t7) [])).bind fun r0 =>
      bif !r0 then
        some false
      else
        (i_needsAtMost (List.getD t5 (Int.toNat t7) []) (↑(List.length s) : Int)).bind fun r1 =>
        bif !r1 then
          some false
        else
          i_isSystem_1002 s t5 t6 (IntKind.wrap IntKind.i64 (t7 + 1))
    else
      none
  else
    (i_inside (↑(List.length s) : Int) 1 3).bind fun r2 =>
    some r2 := by
  refine Lim.uniq (Lim.shift (Rli_isSystem_1002 s t5 t6 t7)) (?_ : Lim (fun k => F160_1002 k ((l160 k)) s t5 t6 t7) _)
  unfold F160_1002
  repeat' first | with_reducible exact Lim.ret _ | with_reducible exact Ri_isPoly _ | with_reducible exact Ri_needsAtMost _ _ | with_reducible exact Ri_inside _ _ _ | with_reducible exact Rli_isSystem_1002 _ _ _ _ | with_reducible refine Lim.cond ?_ ?_ | with_reducible refine Lim.bind ?_ fun _ => ?_
noncomputable def i_isSystem (s : List (List (Int × Int × Int × Int))) : Option (Bool) :=
  i_isSystem_1002 s s ((↑(List.length s) : Int)) (0)
theorem Mi_isSystem (k : Nat) (s : List (List (Int × Int × Int × Int))) : Le (f160 k s) (f160 (k + 1) s) := by
  have h := Mli_isSystem k
  unfold f160 F160
  repeat' first | with_reducible exact Le.rfl _ | with_reducible exact h _ _ _ _ | with_reducible refine Le.cond ?_ ?_ | with_reducible refine Le.bind ?_ fun _ => ?_
theorem Ri_isSystem (s : List (List (Int × Int × Int × Int))) : Lim (fun k => f160 k s) (i_isSystem s) := by
  unfold f160 F160 i_isSystem
  repeat' first | with_reducible exact Lim.ret _ | with_reducible exact Rli_isSystem_1002 _ _ _ _ | with_reducible refine Lim.cond ?_ ?_ | with_reducible refine Lim.bind ?_ fun _ => ?_

-- impl.systemOver
noncomputable def i_systemOver (s : List (List (Int × Int × Int × Int))) (b : Int × (List (Int)) × List (Int)) : Option (Bool) :=
  (i_isSystem s).bind fun r0 =>
  bif r0 then
    (i_isBox b).bind fun r1 =>
    bif r1 then
      some (decide ((↑(List.length s) : Int) = (↑(List.length b.snd.fst) : Int)))
    else
      some false
  else
    some false
theorem Mi_systemOver (k : Nat) (s : List (List (Int × Int × Int × Int))) (b : Int × (List (Int)) × List (Int)) : Le (f128 k s b) (f128 (k + 1) s b) := by
  unfold f128
  repeat' first | with_reducible exact Le.rfl _ | with_reducible exact Mi_isBox _ _ | with_reducible exact Mi_isSystem _ _ | with_reducible refine Le.cond ?_ ?_ | with_reducible refine Le.bind ?_ fun _ => ?_
theorem Ri_systemOver (s : List (List (Int × Int × Int × Int))) (b : Int × (List (Int)) × List (Int)) : Lim (fun k => f128 k s b) (i_systemOver s b) := by
  unfold f128 i_systemOver
  repeat' first | with_reducible exact Lim.ret _ | with_reducible exact Ri_isBox _ | with_reducible exact Ri_isSystem _ | with_reducible refine Lim.cond ?_ ?_ | with_reducible refine Lim.bind ?_ fun _ => ?_

-- impl.isEntry
theorem MFi_isEntry_1002 (k : Nat) {r1002 q1002 : ByteArray × List (List (Int × Int × Int × Int)) × (Int × List Int × List Int) × Int × Int × Int → Int → Int → Option (Bool)} (h1002 : ∀ (L : ByteArray × List (List (Int × Int × Int × Int)) × (Int × List Int × List Int) × Int × Int × Int) (r : Int) (r_9 : Int), Le (r1002 L r r_9) (q1002 L r r_9)) (L : ByteArray × List (List (Int × Int × Int × Int)) × (Int × List Int × List Int) × Int × Int × Int) (r : Int) (r_9 : Int) : Le (F93_1002 k r1002 L r r_9) (F93_1002 (k + 1) q1002 L r r_9) := by
  unfold F93_1002
  repeat' first | with_reducible exact Le.rfl _ | with_reducible exact Mi_systemOver _ _ _ | with_reducible exact Mi_inside _ _ _ _ | with_reducible exact h1002 _ _ _ | with_reducible refine Le.cond ?_ ?_ | with_reducible refine Le.bind ?_ fun _ => ?_
theorem Mli_isEntry : ∀ k : Nat, ∀ (L : ByteArray × List (List (Int × Int × Int × Int)) × (Int × List Int × List Int) × Int × Int × Int) (r : Int) (r_9 : Int), Le ((l93 k) L r r_9) ((l93 (k + 1)) L r r_9)
  | 0 => fun L r r_9 => Le.no _
  | k + 1 => by
    have h := Mli_isEntry k
    exact fun L r r_9 => MFi_isEntry_1002 k h L r r_9
noncomputable def i_isEntry_1002 (L : ByteArray × List (List (Int × Int × Int × Int)) × (Int × List Int × List Int) × Int × Int × Int) (r : Int) (r_9 : Int) : Option (Bool) := lim fun k => (l93 k) L r r_9
theorem Rli_isEntry_1002 (L : ByteArray × List (List (Int × Int × Int × Int)) × (Int × List Int × List Int) × Int × Int × Int) (r : Int) (r_9 : Int) : Lim (fun k => (l93 k) L r r_9) (i_isEntry_1002 L r r_9) := Lim.of_mono fun k => Mli_isEntry k L r r_9
theorem Ei_isEntry_1002 (L : ByteArray × List (List (Int × Int × Int × Int)) × (Int × List Int × List Int) × Int × Int × Int) (r : Int) (r_9 : Int) : i_isEntry_1002 L r r_9 =
  bif decide (r_9 < r) then
    bif boundA r_9 (ByteArray.size L.fst) then
      bif decide ((↑(UInt8.toNat (Array.getD L.fst.data (Int.toNat r_9) 0)) : Int) < 97) then
        some false
      else
        bif boundA r_9 (ByteArray.size L.fst) then
          bif decide (122 < (↑(UInt8.toNat (Array.getD L.fst.data (Int.toNat r_9) 0)) : Int)) then
            some false
          else
            i_isEntry_1002 L r (IntKind.wrap IntKind.i64 (r_9 + 1))
        else
          none
    else
      none
  else
    (i_inside (↑(ByteArray.size L.fst) : Int) 1 8).bind fun r0 =>
    bif r0 then
      (i_systemOver L.snd.fst L.snd.snd.fst).bind fun r1 =>
      bif r1 then
        (i_inside L.snd.snd.snd.fst 0 L.snd.snd.snd.snd.fst).bind fun r2 =>
        bif r2 then
          bif decide (L.snd.snd.snd.snd.fst ≤ 64) then
            (i_inside L.snd.snd.snd.snd.snd 1 999).bind fun r3 =>
            some r3
          else
            some false
        else
          some false
      else
        some false
    else
      some false := by
  refine Lim.uniq (Lim.shift (Rli_isEntry_1002 L r r_9)) (?_ : Lim (fun k => F93_1002 k ((l93 k)) L r r_9) _)
  unfold F93_1002
  repeat' first | with_reducible exact Lim.ret _ | with_reducible exact Ri_systemOver _ _ | with_reducible exact Ri_inside _ _ _ | with_reducible exact Rli_isEntry_1002 _ _ _ | with_reducible refine Lim.cond ?_ ?_ | with_reducible refine Lim.bind ?_ fun _ => ?_
noncomputable def i_isEntry (L : ByteArray × (List (List (Int × Int × Int × Int))) × (Int × (List (Int)) × List (Int)) × Int × Int × Int) : Option (Bool) :=
  i_isEntry_1002 L ((↑(ByteArray.size L.fst) : Int)) (0)
theorem Mi_isEntry (k : Nat) (L : ByteArray × (List (List (Int × Int × Int × Int))) × (Int × (List (Int)) × List (Int)) × Int × Int × Int) : Le (f93 k L) (f93 (k + 1) L) := by
  have h := Mli_isEntry k
  unfold f93 F93
  repeat' first | with_reducible exact Le.rfl _ | with_reducible exact h _ _ _ | with_reducible refine Le.cond ?_ ?_ | with_reducible refine Le.bind ?_ fun _ => ?_
theorem Ri_isEntry (L : ByteArray × (List (List (Int × Int × Int × Int))) × (Int × (List (Int)) × List (Int)) × Int × Int × Int) : Lim (fun k => f93 k L) (i_isEntry L) := by
  unfold f93 F93 i_isEntry
  repeat' first | with_reducible exact Lim.ret _ | with_reducible exact Rli_isEntry_1002 _ _ _ | with_reducible refine Lim.cond ?_ ?_ | with_reducible refine Lim.bind ?_ fun _ => ?_

-- impl.IsEntry
noncomputable def i_IsEntry (e_Name : ByteArray) (e_System : List (List (Int × Int × Int × Int))) (e_Box_K : Int) (e_Box_Low : List (Int)) (e_Box_High : List (Int)) (e_Least : Int) (e_Most : Int) (e_Version : Int) : Option (Bool) :=
  (i_isEntry (e_Name, e_System, (e_Box_K, e_Box_Low, e_Box_High), e_Least, e_Most, e_Version)).bind fun r0 =>
  some r0
theorem Mi_IsEntry (k : Nat) (e_Name : ByteArray) (e_System : List (List (Int × Int × Int × Int))) (e_Box_K : Int) (e_Box_Low : List (Int)) (e_Box_High : List (Int)) (e_Least : Int) (e_Most : Int) (e_Version : Int) : Le (f48 k e_Name e_System e_Box_K e_Box_Low e_Box_High e_Least e_Most e_Version) (f48 (k + 1) e_Name e_System e_Box_K e_Box_Low e_Box_High e_Least e_Most e_Version) := by
  unfold f48
  repeat' first | with_reducible exact Le.rfl _ | with_reducible exact Mi_isEntry _ _ | with_reducible refine Le.cond ?_ ?_ | with_reducible refine Le.bind ?_ fun _ => ?_
theorem Ri_IsEntry (e_Name : ByteArray) (e_System : List (List (Int × Int × Int × Int))) (e_Box_K : Int) (e_Box_Low : List (Int)) (e_Box_High : List (Int)) (e_Least : Int) (e_Most : Int) (e_Version : Int) : Lim (fun k => f48 k e_Name e_System e_Box_K e_Box_Low e_Box_High e_Least e_Most e_Version) (i_IsEntry e_Name e_System e_Box_K e_Box_Low e_Box_High e_Least e_Most e_Version) := by
  unfold f48 i_IsEntry
  repeat' first | with_reducible exact Lim.ret _ | with_reducible exact Ri_isEntry _ | with_reducible refine Lim.cond ?_ ?_ | with_reducible refine Lim.bind ?_ fun _ => ?_

-- laws.eqIntS
theorem MFw_eqIntS_1004 (k : Nat) {r1004 q1004 : List Int → List Int → Int → Option (Bool)} (h1004 : ∀ (a : List Int) (b : List Int) (i : Int), Le (r1004 a b i) (q1004 a b i)) (a : List Int) (b : List Int) (i : Int) : Le (F17_1004 k r1004 a b i) (F17_1004 (k + 1) q1004 a b i) := by
  unfold F17_1004
  repeat' first | with_reducible exact Le.rfl _ | with_reducible exact h1004 _ _ _ | with_reducible refine Le.cond ?_ ?_ | with_reducible refine Le.bind ?_ fun _ => ?_
theorem Mlw_eqIntS : ∀ k : Nat, ∀ (a : List Int) (b : List Int) (i : Int), Le ((l17 k) a b i) ((l17 (k + 1)) a b i)
  | 0 => fun a b i => Le.no _
  | k + 1 => by
    have h := Mlw_eqIntS k
    exact fun a b i => MFw_eqIntS_1004 k h a b i
noncomputable def w_eqIntS_1004 (a : List Int) (b : List Int) (i : Int) : Option (Bool) := lim fun k => (l17 k) a b i
theorem Rlw_eqIntS_1004 (a : List Int) (b : List Int) (i : Int) : Lim (fun k => (l17 k) a b i) (w_eqIntS_1004 a b i) := Lim.of_mono fun k => Mlw_eqIntS k a b i
theorem Ew_eqIntS_1004 (a : List Int) (b : List Int) (i : Int) : w_eqIntS_1004 a b i =
  bif decide (i < (↑(List.length a) : Int)) then
    bif boundA i (List.length a) then
      bif boundA i (List.length b) then
        bif !decide (List.getD a (Int.toNat i) 0 = List.getD b (Int.toNat i) 0) then
          some false
        else
          w_eqIntS_1004 a b (IntKind.wrap IntKind.i64 (i + 1))
      else
        none
    else
      none
  else
    some true := by
  refine Lim.uniq (Lim.shift (Rlw_eqIntS_1004 a b i)) (?_ : Lim (fun k => F17_1004 k ((l17 k)) a b i) _)
  unfold F17_1004
  repeat' first | with_reducible exact Lim.ret _ | with_reducible exact Rlw_eqIntS_1004 _ _ _ | with_reducible refine Lim.cond ?_ ?_ | with_reducible refine Lim.bind ?_ fun _ => ?_
noncomputable def w_eqIntS (a : List (Int)) (b : List (Int)) : Option (Bool) :=
  bif !decide ((↑(List.length a) : Int) = (↑(List.length b) : Int)) then
    some false
  else
    w_eqIntS_1004 a b (0)
theorem Mw_eqIntS (k : Nat) (a : List (Int)) (b : List (Int)) : Le (f17 k a b) (f17 (k + 1) a b) := by
  have h := Mlw_eqIntS k
  unfold f17 F17
  repeat' first | with_reducible exact Le.rfl _ | with_reducible exact h _ _ _ | with_reducible refine Le.cond ?_ ?_ | with_reducible refine Le.bind ?_ fun _ => ?_
theorem Rw_eqIntS (a : List (Int)) (b : List (Int)) : Lim (fun k => f17 k a b) (w_eqIntS a b) := by
  unfold f17 F17 w_eqIntS
  repeat' first | with_reducible exact Lim.ret _ | with_reducible exact Rlw_eqIntS_1004 _ _ _ | with_reducible refine Lim.cond ?_ ?_ | with_reducible refine Lim.bind ?_ fun _ => ?_

-- laws.intactIntS
noncomputable def w_intactIntS (x : List (Int)) (x_n : Nat) (y : List (Int)) (y_n : Nat) : Option (Bool) :=
  (w_roomBehind (↑y_n : Int)).bind fun r0 =>
  bif decide ((↑x_n : Int) = (↑y_n : Int)) then
    bif boundE (IntKind.wrap IntKind.i64 ((↑y_n : Int) + r0)) (List.length x) then
      bif decide (0 ≤ 0) && decide (0 ≤ IntKind.wrap IntKind.i64 ((↑y_n : Int) + r0)) then
        bif boundE (IntKind.wrap IntKind.i64 ((↑y_n : Int) + r0)) (List.length y) then
          bif decide (0 ≤ 0) && decide (0 ≤ IntKind.wrap IntKind.i64 ((↑y_n : Int) + r0)) then
            (w_eqIntS (List.drop (Int.toNat 0) (List.take (Int.toNat (IntKind.wrap IntKind.i64 ((↑y_n : Int) + r0))) x)) (List.drop (Int.toNat 0) (List.take (Int.toNat (IntKind.wrap IntKind.i64 ((↑y_n : Int) + r0))) y))).bind fun r1 =>
            some r1
          else
            none
        else
          none
      else
        none
    else
      none
  else
    some false
theorem Mw_intactIntS (k : Nat) (x : List (Int)) (x_n : Nat) (y : List (Int)) (y_n : Nat) : Le (f18 k x x_n y y_n) (f18 (k + 1) x x_n y y_n) := by
  unfold f18
  repeat' first | with_reducible exact Le.rfl _ | with_reducible exact Mw_eqIntS _ _ _ | with_reducible exact Mw_roomBehind _ _ | with_reducible refine Le.cond ?_ ?_ | with_reducible refine Le.bind ?_ fun _ => ?_
theorem Rw_intactIntS (x : List (Int)) (x_n : Nat) (y : List (Int)) (y_n : Nat) : Lim (fun k => f18 k x x_n y y_n) (w_intactIntS x x_n y y_n) := by
  unfold f18 w_intactIntS
  repeat' first | with_reducible exact Lim.ret _ | with_reducible exact Rw_eqIntS _ _ | with_reducible exact Rw_roomBehind _ | with_reducible refine Lim.cond ?_ ?_ | with_reducible refine Lim.bind ?_ fun _ => ?_

-- laws.intactBox
noncomputable def w_intactBox (x_K : Int) (x_Low : List (Int)) (x_Low_n : Nat) (x_High : List (Int)) (x_High_n : Nat) (y_K : Int) (y_Low : List (Int)) (y_Low_n : Nat) (y_High : List (Int)) (y_High_n : Nat) : Option (Bool) :=
  bif !decide (x_K = y_K) then
    some false
  else
    (w_intactIntS x_Low x_Low_n y_Low y_Low_n).bind fun r0 =>
    bif !r0 then
      some false
    else
      (w_intactIntS x_High x_High_n y_High y_High_n).bind fun r1 =>
      bif !r1 then
        some false
      else
        some true
theorem Mw_intactBox (k : Nat) (x_K : Int) (x_Low : List (Int)) (x_Low_n : Nat) (x_High : List (Int)) (x_High_n : Nat) (y_K : Int) (y_Low : List (Int)) (y_Low_n : Nat) (y_High : List (Int)) (y_High_n : Nat) : Le (f58 k x_K x_Low x_Low_n x_High x_High_n y_K y_Low y_Low_n y_High y_High_n) (f58 (k + 1) x_K x_Low x_Low_n x_High x_High_n y_K y_Low y_Low_n y_High y_High_n) := by
  unfold f58
  repeat' first | with_reducible exact Le.rfl _ | with_reducible exact Mw_intactIntS _ _ _ _ _ | with_reducible refine Le.cond ?_ ?_ | with_reducible refine Le.bind ?_ fun _ => ?_
theorem Rw_intactBox (x_K : Int) (x_Low : List (Int)) (x_Low_n : Nat) (x_High : List (Int)) (x_High_n : Nat) (y_K : Int) (y_Low : List (Int)) (y_Low_n : Nat) (y_High : List (Int)) (y_High_n : Nat) : Lim (fun k => f58 k x_K x_Low x_Low_n x_High x_High_n y_K y_Low y_Low_n y_High y_High_n) (w_intactBox x_K x_Low x_Low_n x_High x_High_n y_K y_Low y_Low_n y_High y_High_n) := by
  unfold f58 w_intactBox
  repeat' first | with_reducible exact Lim.ret _ | with_reducible exact Rw_intactIntS _ _ _ _ | with_reducible refine Lim.cond ?_ ?_ | with_reducible refine Lim.bind ?_ fun _ => ?_

-- laws.eqTerm
noncomputable def w_eqTerm (a_C : Int) (a_X : Int) (a_Y : Int) (a_Z : Int) (b_C : Int) (b_X : Int) (b_Y : Int) (b_Z : Int) : Option (Bool) :=
  bif !decide (a_C = b_C) then
    some false
  else
    bif !decide (a_X = b_X) then
      some false
    else
      bif !decide (a_Y = b_Y) then
        some false
      else
        bif !decide (a_Z = b_Z) then
          some false
        else
          some true
theorem Mw_eqTerm (k : Nat) (a_C : Int) (a_X : Int) (a_Y : Int) (a_Z : Int) (b_C : Int) (b_X : Int) (b_Y : Int) (b_Z : Int) : Le (f188 k a_C a_X a_Y a_Z b_C b_X b_Y b_Z) (f188 (k + 1) a_C a_X a_Y a_Z b_C b_X b_Y b_Z) := by
  unfold f188
  repeat' first | with_reducible exact Le.rfl _ | with_reducible refine Le.cond ?_ ?_ | with_reducible refine Le.bind ?_ fun _ => ?_
theorem Rw_eqTerm (a_C : Int) (a_X : Int) (a_Y : Int) (a_Z : Int) (b_C : Int) (b_X : Int) (b_Y : Int) (b_Z : Int) : Lim (fun k => f188 k a_C a_X a_Y a_Z b_C b_X b_Y b_Z) (w_eqTerm a_C a_X a_Y a_Z b_C b_X b_Y b_Z) := by
  unfold f188 w_eqTerm
  repeat' first | with_reducible exact Lim.ret _ | with_reducible refine Lim.cond ?_ ?_ | with_reducible refine Lim.bind ?_ fun _ => ?_

-- laws.eqTermS
theorem MFw_eqTermS_1004 (k : Nat) {r1004 q1004 : List (Int × Int × Int × Int) → List (Int × Int × Int × Int) → Int → Option (Bool)} (h1004 : ∀ (a : List (Int × Int × Int × Int)) (b : List (Int × Int × Int × Int)) (i : Int), Le (r1004 a b i) (q1004 a b i)) (a : List (Int × Int × Int × Int)) (b : List (Int × Int × Int × Int)) (i : Int) : Le (F161_1004 k r1004 a b i) (F161_1004 (k + 1) q1004 a b i) := by
  unfold F161_1004
  repeat' first | with_reducible exact Le.rfl _ | with_reducible exact Mw_eqTerm _ _ _ _ _ _ _ _ _ | with_reducible exact h1004 _ _ _ | with_reducible refine Le.cond ?_ ?_ | with_reducible refine Le.bind ?_ fun _ => ?_
theorem Mlw_eqTermS : ∀ k : Nat, ∀ (a : List (Int × Int × Int × Int)) (b : List (Int × Int × Int × Int)) (i : Int), Le ((l161 k) a b i) ((l161 (k + 1)) a b i)
  | 0 => fun a b i => Le.no _
  | k + 1 => by
    have h := Mlw_eqTermS k
    exact fun a b i => MFw_eqTermS_1004 k h a b i
noncomputable def w_eqTermS_1004 (a : List (Int × Int × Int × Int)) (b : List (Int × Int × Int × Int)) (i : Int) : Option (Bool) := lim fun k => (l161 k) a b i
theorem Rlw_eqTermS_1004 (a : List (Int × Int × Int × Int)) (b : List (Int × Int × Int × Int)) (i : Int) : Lim (fun k => (l161 k) a b i) (w_eqTermS_1004 a b i) := Lim.of_mono fun k => Mlw_eqTermS k a b i
theorem Ew_eqTermS_1004 (a : List (Int × Int × Int × Int)) (b : List (Int × Int × Int × Int)) (i : Int) : w_eqTermS_1004 a b i =
  bif decide (i < (↑(List.length a) : Int)) then
    bif boundA i (List.length a) then
      bif boundA i (List.length b) then
        (w_eqTerm (List.getD a (Int.toNat i) (0, 0, 0, 0)).fst (List.getD a (Int.toNat i) (0, 0, 0, 0)).snd.fst (List.getD a (Int.toNat i) (0, 0, 0, 0)).snd.snd.fst (List.getD a (Int.toNat i) (0, 0, 0, 0)).snd.snd.snd (List.getD b (Int.toNat i) (0, 0, 0, 0)).fst (List.getD b (Int.toNat i) (0, 0, 0, 0)).snd.fst (List.getD b (Int.toNat i) (0, 0, 0, 0)).snd.snd.fst (List.getD b (Int.toNat i) (0, 0, 0, 0)).snd.snd.snd).bind fun r0 =>
        bif !r0 then
          some false
        else
          w_eqTermS_1004 a b (IntKind.wrap IntKind.i64 (i + 1))
      else
        none
    else
      none
  else
    some true := by
  refine Lim.uniq (Lim.shift (Rlw_eqTermS_1004 a b i)) (?_ : Lim (fun k => F161_1004 k ((l161 k)) a b i) _)
  unfold F161_1004
  repeat' first | with_reducible exact Lim.ret _ | with_reducible exact Rw_eqTerm _ _ _ _ _ _ _ _ | with_reducible exact Rlw_eqTermS_1004 _ _ _ | with_reducible refine Lim.cond ?_ ?_ | with_reducible refine Lim.bind ?_ fun _ => ?_
noncomputable def w_eqTermS (a : List (Int × Int × Int × Int)) (b : List (Int × Int × Int × Int)) : Option (Bool) :=
  bif !decide ((↑(List.length a) : Int) = (↑(List.length b) : Int)) then
    some false
  else
    w_eqTermS_1004 a b (0)
theorem Mw_eqTermS (k : Nat) (a : List (Int × Int × Int × Int)) (b : List (Int × Int × Int × Int)) : Le (f161 k a b) (f161 (k + 1) a b) := by
  have h := Mlw_eqTermS k
  unfold f161 F161
  repeat' first | with_reducible exact Le.rfl _ | with_reducible exact h _ _ _ | with_reducible refine Le.cond ?_ ?_ | with_reducible refine Le.bind ?_ fun _ => ?_
theorem Rw_eqTermS (a : List (Int × Int × Int × Int)) (b : List (Int × Int × Int × Int)) : Lim (fun k => f161 k a b) (w_eqTermS a b) := by
  unfold f161 F161 w_eqTermS
  repeat' first | with_reducible exact Lim.ret _ | with_reducible exact Rlw_eqTermS_1004 _ _ _ | with_reducible refine Lim.cond ?_ ?_ | with_reducible refine Lim.bind ?_ fun _ => ?_

-- laws.intactTermS
noncomputable def w_intactTermS (x : List (Int × Int × Int × Int)) (x_n : Nat) (y : List (Int × Int × Int × Int)) (y_n : Nat) : Option (Bool) :=
  (w_roomBehind (↑y_n : Int)).bind fun r0 =>
  bif decide ((↑x_n : Int) = (↑y_n : Int)) then
    bif boundE (IntKind.wrap IntKind.i64 ((↑y_n : Int) + r0)) (List.length x) then
      bif decide (0 ≤ 0) && decide (0 ≤ IntKind.wrap IntKind.i64 ((↑y_n : Int) + r0)) then
        bif boundE (IntKind.wrap IntKind.i64 ((↑y_n : Int) + r0)) (List.length y) then
          bif decide (0 ≤ 0) && decide (0 ≤ IntKind.wrap IntKind.i64 ((↑y_n : Int) + r0)) then
            (w_eqTermS (List.drop (Int.toNat 0) (List.take (Int.toNat (IntKind.wrap IntKind.i64 ((↑y_n : Int) + r0))) x)) (List.drop (Int.toNat 0) (List.take (Int.toNat (IntKind.wrap IntKind.i64 ((↑y_n : Int) + r0))) y))).bind fun r1 =>
            some r1
          else
            none
        else
          none
      else
        none
    else
      none
  else
    some false
theorem Mw_intactTermS (k : Nat) (x : List (Int × Int × Int × Int)) (x_n : Nat) (y : List (Int × Int × Int × Int)) (y_n : Nat) : Le (f129 k x x_n y y_n) (f129 (k + 1) x x_n y y_n) := by
  unfold f129
  repeat' first | with_reducible exact Le.rfl _ | with_reducible exact Mw_eqTermS _ _ _ | with_reducible exact Mw_roomBehind _ _ | with_reducible refine Le.cond ?_ ?_ | with_reducible refine Le.bind ?_ fun _ => ?_
theorem Rw_intactTermS (x : List (Int × Int × Int × Int)) (x_n : Nat) (y : List (Int × Int × Int × Int)) (y_n : Nat) : Lim (fun k => f129 k x x_n y y_n) (w_intactTermS x x_n y y_n) := by
  unfold f129 w_intactTermS
  repeat' first | with_reducible exact Lim.ret _ | with_reducible exact Rw_eqTermS _ _ | with_reducible exact Rw_roomBehind _ | with_reducible refine Lim.cond ?_ ?_ | with_reducible refine Lim.bind ?_ fun _ => ?_

-- laws.eqTermSS
theorem MFw_eqTermSS_1004 (k : Nat) {r1004 q1004 : List (List (Int × Int × Int × Int)) → List (List (Int × Int × Int × Int)) → Int → Option (Bool)} (h1004 : ∀ (a : List (List (Int × Int × Int × Int))) (b : List (List (Int × Int × Int × Int))) (i : Int), Le (r1004 a b i) (q1004 a b i)) (a : List (List (Int × Int × Int × Int))) (b : List (List (Int × Int × Int × Int))) (i : Int) : Le (F130_1004 k r1004 a b i) (F130_1004 (k + 1) q1004 a b i) := by
  unfold F130_1004
  repeat' first | with_reducible exact Le.rfl _ | with_reducible exact Mw_eqTermS _ _ _ | with_reducible exact h1004 _ _ _ | with_reducible refine Le.cond ?_ ?_ | with_reducible refine Le.bind ?_ fun _ => ?_
theorem Mlw_eqTermSS : ∀ k : Nat, ∀ (a : List (List (Int × Int × Int × Int))) (b : List (List (Int × Int × Int × Int))) (i : Int), Le ((l130 k) a b i) ((l130 (k + 1)) a b i)
  | 0 => fun a b i => Le.no _
  | k + 1 => by
    have h := Mlw_eqTermSS k
    exact fun a b i => MFw_eqTermSS_1004 k h a b i
noncomputable def w_eqTermSS_1004 (a : List (List (Int × Int × Int × Int))) (b : List (List (Int × Int × Int × Int))) (i : Int) : Option (Bool) := lim fun k => (l130 k) a b i
theorem Rlw_eqTermSS_1004 (a : List (List (Int × Int × Int × Int))) (b : List (List (Int × Int × Int × Int))) (i : Int) : Lim (fun k => (l130 k) a b i) (w_eqTermSS_1004 a b i) := Lim.of_mono fun k => Mlw_eqTermSS k a b i
theorem Ew_eqTermSS_1004 (a : List (List (Int × Int × Int × Int))) (b : List (List (Int × Int × Int × Int))) (i : Int) : w_eqTermSS_1004 a b i =
  bif decide (i < (↑(List.length a) : Int)) then
    bif boundA i (List.length a) then
      bif boundA i (List.length b) then
        (w_eqTermS (List.getD a (Int.toNat i) []) (List.getD b (Int.toNat i) [])).bind fun r0 =>
        bif !r0 then
          some false
        else
          w_eqTermSS_1004 a b (IntKind.wrap IntKind.i64 (i + 1))
      else
        none
    else
      none
  else
    some true := by
  refine Lim.uniq (Lim.shift (Rlw_eqTermSS_1004 a b i)) (?_ : Lim (fun k => F130_1004 k ((l130 k)) a b i) _)
  unfold F130_1004
  repeat' first | with_reducible exact Lim.ret _ | with_reducible exact Rw_eqTermS _ _ | with_reducible exact Rlw_eqTermSS_1004 _ _ _ | with_reducible refine Lim.cond ?_ ?_ | with_reducible refine Lim.bind ?_ fun _ => ?_
noncomputable def w_eqTermSS (a : List (List (Int × Int × Int × Int))) (b : List (List (Int × Int × Int × Int))) : Option (Bool) :=
  bif !decide ((↑(List.length a) : Int) = (↑(List.length b) : Int)) then
    some false
  else
    w_eqTermSS_1004 a b (0)
theorem Mw_eqTermSS (k : Nat) (a : List (List (Int × Int × Int × Int))) (b : List (List (Int × Int × Int × Int))) : Le (f130 k a b) (f130 (k + 1) a b) := by
  have h := Mlw_eqTermSS k
  unfold f130 F130
  repeat' first | with_reducible exact Le.rfl _ | with_reducible exact h _ _ _ | with_reducible refine Le.cond ?_ ?_ | with_reducible refine Le.bind ?_ fun _ => ?_
theorem Rw_eqTermSS (a : List (List (Int × Int × Int × Int))) (b : List (List (Int × Int × Int × Int))) : Lim (fun k => f130 k a b) (w_eqTermSS a b) := by
  unfold f130 F130 w_eqTermSS
  repeat' first | with_reducible exact Lim.ret _ | with_reducible exact Rlw_eqTermSS_1004 _ _ _ | with_reducible refine Lim.cond ?_ ?_ | with_reducible refine Lim.bind ?_ fun _ => ?_

-- laws.intactTermSS
theorem MFw_intactTermSS_1005 (k : Nat) {r1005 q1005 : List (List (Int × Int × Int × Int) × Nat) → Nat → List (List (Int × Int × Int × Int) × Nat) → Nat → Int → Int → Option (Bool)} (h1005 : ∀ (x : List (List (Int × Int × Int × Int) × Nat)) (x_n : Nat) (y : List (List (Int × Int × Int × Int) × Nat)) (y_n : Nat) (n : Int) (i : Int), Le (r1005 x x_n y y_n n i) (q1005 x x_n y y_n n i)) (x : List (List (Int × Int × Int × Int) × Nat)) (x_n : Nat) (y : List (List (Int × Int × Int × Int) × Nat)) (y_n : Nat) (n : Int) (i : Int) : Le (F94_1005 k r1005 x x_n y y_n n i) (F94_1005 (k + 1) q1005 x x_n y y_n n i) := by
  unfold F94_1005
  repeat' first | with_reducible exact Le.rfl _ | with_reducible exact Mw_intactTermS _ _ _ _ _ | with_reducible exact Mw_eqTermSS _ _ _ | with_reducible exact h1005 _ _ _ _ _ _ | with_reducible refine Le.cond ?_ ?_ | with_reducible refine Le.bind ?_ fun _ => ?_
theorem Mlw_intactTermSS : ∀ k : Nat, ∀ (x : List (List (Int × Int × Int × Int) × Nat)) (x_n : Nat) (y : List (List (Int × Int × Int × Int) × Nat)) (y_n : Nat) (n : Int) (i : Int), Le ((l94 k) x x_n y y_n n i) ((l94 (k + 1)) x x_n y y_n n i)
  | 0 => fun x x_n y y_n n i => Le.no _
  | k + 1 => by
    have h := Mlw_intactTermSS k
    exact fun x x_n y y_n n i => MFw_intactTermSS_1005 k h x x_n y y_n n i
noncomputable def w_intactTermSS_1005 (x : List (List (Int × Int × Int × Int) × Nat)) (x_n : Nat) (y : List (List (Int × Int × Int × Int) × Nat)) (y_n : Nat) (n : Int) (i : Int) : Option (Bool) := lim fun k => (l94 k) x x_n y y_n n i
theorem Rlw_intactTermSS_1005 (x : List (List (Int × Int × Int × Int) × Nat)) (x_n : Nat) (y : List (List (Int × Int × Int × Int) × Nat)) (y_n : Nat) (n : Int) (i : Int) : Lim (fun k => (l94 k) x x_n y y_n n i) (w_intactTermSS_1005 x x_n y y_n n i) := Lim.of_mono fun k => Mlw_intactTermSS k x x_n y y_n n i
theorem Ew_intactTermSS_1005 (x : List (List (Int × Int × Int × Int) × Nat)) (x_n : Nat) (y : List (List (Int × Int × Int × Int) × Nat)) (y_n : Nat) (n : Int) (i : Int) : w_intactTermSS_1005 x x_n y y_n n i =
  bif decide (i < (↑y_n : Int)) then
    bif boundA i x_n then
      bif boundA i y_n then
        (w_intactTermS (List.getD x (Int.toNat i) ([], 0)).fst (List.getD x (Int.toNat i) ([], 0)).snd (List.getD y (Int.toNat i) ([], 0)).fst (List.getD y (Int.toNat i) ([], 0)).snd).bind fun r0 =>
        bif !r0 then
          some false
        else
          w_intactTermSS_1005 x x_n y y_n n (IntKind.wrap IntKind.i64 (i + 1))
      else
        none
    else
      none
  else
    bif boundE n (List.length x) then
      bif decide (0 ≤ (↑y_n : Int)) && decide ((↑y_n : Int) ≤ n) then
        bif boundE n (List.length y) then
          bif decide (0 ≤ (↑y_n : Int)) && decide ((↑y_n : Int) ≤ n) then
            (w_eqTermSS (List.map (fun (x : T (Ty.vslice 136 (Ty.pair (Ty.int IntKind.i64) (Ty.pair (Ty.int IntKind.i64) (Ty.pair (Ty.int IntKind.i64) (Ty.int IntKind.i64)))))) => List.map (fun (x : T (Ty.pair (Ty.int IntKind.i64) (Ty.pair (Ty.int IntKind.i64) (Ty.pair (Ty.int IntKind.i64) (Ty.int IntKind.i64))))) => (x.fst, x.snd.fst, x.snd.snd.fst, x.snd.snd.snd)) (List.take x.snd x.fst)) (List.drop (Int.toNat (↑y_n : Int)) (List.take (Int.toNat n) x))) (List.map (fun (x : T (Ty.vslice 136 (Ty.pair (Ty.int IntKind.i64) (Ty.pair (Ty.int IntKind.i64) (Ty.pair (Ty.int IntKind.i64) (Ty.int IntKind.i64)))))) => List.map (fun (x : T (Ty.pair (Ty.int IntKind.i64) (Ty.pair (Ty.int IntKind.i64) (Ty.pair (Ty.int IntKind.i64) (Ty.int IntKind.i64))))) => (x.fst, x.snd.fst, x.snd.snd.fst, x.snd.snd.snd)) (List.take x.snd x.fst)) (List.drop (Int.toNat (↑y_n : Int)) (List.take (Int.toNat n) y)))).bind fun r1 =>
            some r1
          else
            none
        else
          none
      else
        none
    else
      none := by
  refine Lim.uniq (Lim.shift (Rlw_intactTermSS_1005 x x_n y y_n n i)) (?_ : Lim (fun k => F94_1005 k ((l94 k)) x x_n y y_n n i) _)
  unfold F94_1005
  repeat' first | with_reducible exact Lim.ret _ | with_reducible exact Rw_intactTermS _ _ _ _ | with_reducible exact Rw_eqTermSS _ _ | with_reducible exact Rlw_intactTermSS_1005 _ _ _ _ _ _ | with_reducible refine Lim.cond ?_ ?_ | with_reducible refine Lim.bind ?_ fun _ => ?_
noncomputable def w_intactTermSS (x : List (List (Int × Int × Int × Int) × Nat)) (x_n : Nat) (y : List (List (Int × Int × Int × Int) × Nat)) (y_n : Nat) : Option (Bool) :=
  (w_roomBehind (↑y_n : Int)).bind fun r0 =>
  bif !decide ((↑x_n : Int) = (↑y_n : Int)) then
    some false
  else
    w_intactTermSS_1005 x x_n y y_n (IntKind.wrap IntKind.i64 ((↑y_n : Int) + r0)) (0)
theorem Mw_intactTermSS (k : Nat) (x : List (List (Int × Int × Int × Int) × Nat)) (x_n : Nat) (y : List (List (Int × Int × Int × Int) × Nat)) (y_n : Nat) : Le (f94 k x x_n y y_n) (f94 (k + 1) x x_n y y_n) := by
  have h := Mlw_intactTermSS k
  unfold f94 F94
  repeat' first | with_reducible exact Le.rfl _ | with_reducible exact Mw_roomBehind _ _ | with_reducible exact h _ _ _ _ _ _ | with_reducible refine Le.cond ?_ ?_ | with_reducible refine Le.bind ?_ fun _ => ?_
theorem Rw_intactTermSS (x : List (List (Int × Int × Int × Int) × Nat)) (x_n : Nat) (y : List (List (Int × Int × Int × Int) × Nat)) (y_n : Nat) : Lim (fun k => f94 k x x_n y y_n) (w_intactTermSS x x_n y y_n) := by
  unfold f94 F94 w_intactTermSS
  repeat' first | with_reducible exact Lim.ret _ | with_reducible exact Rw_roomBehind _ | with_reducible exact Rlw_intactTermSS_1005 _ _ _ _ _ _ | with_reducible refine Lim.cond ?_ ?_ | with_reducible refine Lim.bind ?_ fun _ => ?_

-- laws.intactEntry
noncomputable def w_intactEntry (x_Name : ByteArray) (x_System : List (List (Int × Int × Int × Int) × Nat)) (x_System_n : Nat) (x_Box_K : Int) (x_Box_Low : List (Int)) (x_Box_Low_n : Nat) (x_Box_High : List (Int)) (x_Box_High_n : Nat) (x_Least : Int) (x_Most : Int) (x_Version : Int) (y_Name : ByteArray) (y_System : List (List (Int × Int × Int × Int) × Nat)) (y_System_n : Nat) (y_Box_K : Int) (y_Box_Low : List (Int)) (y_Box_Low_n : Nat) (y_Box_High : List (Int)) (y_Box_High_n : Nat) (y_Least : Int) (y_Most : Int) (y_Version : Int) : Option (Bool) :=
  bif !ByteArray.toList x_Name == ByteArray.toList y_Name then
    some false
  else
    (w_intactTermSS x_System x_System_n y_System y_System_n).bind fun r0 =>
    bif !r0 then
      some false
    else
      (w_intactBox x_Box_K x_Box_Low x_Box_Low_n x_Box_High x_Box_High_n y_Box_K y_Box_Low y_Box_Low_n y_Box_High y_Box_High_n).bind fun r1 =>
      bif !r1 then
        some false
      else
        bif !decide (x_Least = y_Least) then
          some false
        else
          bif !decide (x_Most = y_Most) then
            some false
          else
            bif !decide (x_Version = y_Version) then
              some false
            else
              some true
theorem Mw_intactEntry (k : Nat) (x_Name : ByteArray) (x_System : List (List (Int × Int × Int × Int) × Nat)) (x_System_n : Nat) (x_Box_K : Int) (x_Box_Low : List (Int)) (x_Box_Low_n : Nat) (x_Box_High : List (Int)) (x_Box_High_n : Nat) (x_Least : Int) (x_Most : Int) (x_Version : Int) (y_Name : ByteArray) (y_System : List (List (Int × Int × Int × Int) × Nat)) (y_System_n : Nat) (y_Box_K : Int) (y_Box_Low : List (Int)) (y_Box_Low_n : Nat) (y_Box_High : List (Int)) (y_Box_High_n : Nat) (y_Least : Int) (y_Most : Int) (y_Version : Int) : Le (f49 k x_Name x_System x_System_n x_Box_K x_Box_Low x_Box_Low_n x_Box_High x_Box_High_n x_Least x_Most x_Version y_Name y_System y_System_n y_Box_K y_Box_Low y_Box_Low_n y_Box_High y_Box_High_n y_Least y_Most y_Version) (f49 (k + 1) x_Name x_System x_System_n x_Box_K x_Box_Low x_Box_Low_n x_Box_High x_Box_High_n x_Least x_Most x_Version y_Name y_System y_System_n y_Box_K y_Box_Low y_Box_Low_n y_Box_High y_Box_High_n y_Least y_Most y_Version) := by
  unfold f49
  repeat' first | with_reducible exact Le.rfl _ | with_reducible exact Mw_intactBox _ _ _ _ _ _ _ _ _ _ _ | with_reducible exact Mw_intactTermSS _ _ _ _ _ | with_reducible refine Le.cond ?_ ?_ | with_reducible refine Le.bind ?_ fun _ => ?_
theorem Rw_intactEntry (x_Name : ByteArray) (x_System : List (List (Int × Int × Int × Int) × Nat)) (x_System_n : Nat) (x_Box_K : Int) (x_Box_Low : List (Int)) (x_Box_Low_n : Nat) (x_Box_High : List (Int)) (x_Box_High_n : Nat) (x_Least : Int) (x_Most : Int) (x_Version : Int) (y_Name : ByteArray) (y_System : List (List (Int × Int × Int × Int) × Nat)) (y_System_n : Nat) (y_Box_K : Int) (y_Box_Low : List (Int)) (y_Box_Low_n : Nat) (y_Box_High : List (Int)) (y_Box_High_n : Nat) (y_Least : Int) (y_Most : Int) (y_Version : Int) : Lim (fun k => f49 k x_Name x_System x_System_n x_Box_K x_Box_Low x_Box_Low_n x_Box_High x_Box_High_n x_Least x_Most x_Version y_Name y_System y_System_n y_Box_K y_Box_Low y_Box_Low_n y_Box_High y_Box_High_n y_Least y_Most y_Version) (w_intactEntry x_Name x_System x_System_n x_Box_K x_Box_Low x_Box_Low_n x_Box_High x_Box_High_n x_Least x_Most x_Version y_Name y_System y_System_n y_Box_K y_Box_Low y_Box_Low_n y_Box_High y_Box_High_n y_Least y_Most y_Version) := by
  unfold f49 w_intactEntry
  repeat' first | with_reducible exact Lim.ret _ | with_reducible exact Rw_intactBox _ _ _ _ _ _ _ _ _ _ | with_reducible exact Rw_intactTermSS _ _ _ _ | with_reducible refine Lim.cond ?_ ?_ | with_reducible refine Lim.bind ?_ fun _ => ?_

-- laws.FnExactIsEntry
noncomputable def w_FnExactIsEntry (aE_Name : ByteArray) (aE_System : List (List (Int × Int × Int × Int))) (aE_Box_K : Int) (aE_Box_Low : List (Int)) (aE_Box_High : List (Int)) (aE_Least : Int) (aE_Most : Int) (aE_Version : Int) : Option (Bool) :=
  (w_szEntry aE_Name aE_System aE_Box_K aE_Box_Low aE_Box_High aE_Least aE_Most aE_Version 1000000).bind fun r0 =>
  bif decide (r0 < 0) then
    some true
  else
    (w_toEntry aE_Name aE_System aE_Box_K aE_Box_Low aE_Box_High aE_Least aE_Most aE_Version false).bind fun r1 =>
    (s_IsEntry r1.fst (List.map (fun (x : T (Ty.vslice 136 (Ty.pair (Ty.int IntKind.i64) (Ty.pair (Ty.int IntKind.i64) (Ty.pair (Ty.int IntKind.i64) (Ty.int IntKind.i64)))))) => List.map (fun (x : T (Ty.pair (Ty.int IntKind.i64) (Ty.pair (Ty.int IntKind.i64) (Ty.pair (Ty.int IntKind.i64) (Ty.int IntKind.i64))))) => (x.fst, x.snd.fst, x.snd.snd.fst, x.snd.snd.snd)) (List.take x.snd x.fst)) (List.take r1.snd.fst.snd r1.snd.fst.fst)) r1.snd.snd.fst.fst (List.take r1.snd.snd.fst.snd.fst.snd r1.snd.snd.fst.snd.fst.fst) (List.take r1.snd.snd.fst.snd.snd.snd r1.snd.snd.fst.snd.snd.fst) r1.snd.snd.snd.fst r1.snd.snd.snd.snd.fst r1.snd.snd.snd.snd.snd).bind fun r2 =>
    (w_toEntry aE_Name aE_System aE_Box_K aE_Box_Low aE_Box_High aE_Least aE_Most aE_Version false).bind fun r3 =>
    (i_IsEntry r3.fst (List.map (fun (x : T (Ty.vslice 136 (Ty.pair (Ty.int IntKind.i64) (Ty.pair (Ty.int IntKind.i64) (Ty.pair (Ty.int IntKind.i64) (Ty.int IntKind.i64)))))) => List.map (fun (x : T (Ty.pair (Ty.int IntKind.i64) (Ty.pair (Ty.int IntKind.i64) (Ty.pair (Ty.int IntKind.i64) (Ty.int IntKind.i64))))) => (x.fst, x.snd.fst, x.snd.snd.fst, x.snd.snd.snd)) (List.take x.snd x.fst)) (List.take r3.snd.fst.snd r3.snd.fst.fst)) r3.snd.snd.fst.fst (List.take r3.snd.snd.fst.snd.fst.snd r3.snd.snd.fst.snd.fst.fst) (List.take r3.snd.snd.fst.snd.snd.snd r3.snd.snd.fst.snd.snd.fst) r3.snd.snd.snd.fst r3.snd.snd.snd.snd.fst r3.snd.snd.snd.snd.snd).bind fun r4 =>
    bif !r4 == r2 then
      some false
    else
      (w_toEntry aE_Name aE_System aE_Box_K aE_Box_Low aE_Box_High aE_Least aE_Most aE_Version false).bind fun r5 =>
      (w_intactEntry r3.fst r3.snd.fst.fst r3.snd.fst.snd r3.snd.snd.fst.fst r3.snd.snd.fst.snd.fst.fst r3.snd.snd.fst.snd.fst.snd r3.snd.snd.fst.snd.snd.fst r3.snd.snd.fst.snd.snd.snd r3.snd.snd.snd.fst r3.snd.snd.snd.snd.fst r3.snd.snd.snd.snd.snd r5.fst r5.snd.fst.fst r5.snd.fst.snd r5.snd.snd.fst.fst r5.snd.snd.fst.snd.fst.fst r5.snd.snd.fst.snd.fst.snd r5.snd.snd.fst.snd.snd.fst r5.snd.snd.fst.snd.snd.snd r5.snd.snd.snd.fst r5.snd.snd.snd.snd.fst r5.snd.snd.snd.snd.snd).bind fun r6 =>
      bif !r6 then
        some false
      else
        (w_toEntry aE_Name aE_System aE_Box_K aE_Box_Low aE_Box_High aE_Least aE_Most aE_Version true).bind fun r7 =>
        (i_IsEntry r7.fst (List.map (fun (x : T (Ty.vslice 136 (Ty.pair (Ty.int IntKind.i64) (Ty.pair (Ty.int IntKind.i64) (Ty.pair (Ty.int IntKind.i64) (Ty.int IntKind.i64)))))) => List.map (fun (x : T (Ty.pair (Ty.int IntKind.i64) (Ty.pair (Ty.int IntKind.i64) (Ty.pair (Ty.int IntKind.i64) (Ty.int IntKind.i64))))) => (x.fst, x.snd.fst, x.snd.snd.fst, x.snd.snd.snd)) (List.take x.snd x.fst)) (List.take r7.snd.fst.snd r7.snd.fst.fst)) r7.snd.snd.fst.fst (List.take r7.snd.snd.fst.snd.fst.snd r7.snd.snd.fst.snd.fst.fst) (List.take r7.snd.snd.fst.snd.snd.snd r7.snd.snd.fst.snd.snd.fst) r7.snd.snd.snd.fst r7.snd.snd.snd.snd.fst r7.snd.snd.snd.snd.snd).bind fun r8 =>
        bif !r8 == r2 then
          some false
        else
          some true
theorem Mw_FnExactIsEntry (k : Nat) (aE_Name : ByteArray) (aE_System : List (List (Int × Int × Int × Int))) (aE_Box_K : Int) (aE_Box_Low : List (Int)) (aE_Box_High : List (Int)) (aE_Least : Int) (aE_Most : Int) (aE_Version : Int) : Le (f11 k aE_Name aE_System aE_Box_K aE_Box_Low aE_Box_High aE_Least aE_Most aE_Version) (f11 (k + 1) aE_Name aE_System aE_Box_K aE_Box_Low aE_Box_High aE_Least aE_Most aE_Version) := by
  unfold f11
  repeat' first | with_reducible exact Le.rfl _ | with_reducible exact Mw_szEntry _ _ _ _ _ _ _ _ _ _ | with_reducible exact Ms_IsEntry _ _ _ _ _ _ _ _ _ | with_reducible exact Mw_toEntry _ _ _ _ _ _ _ _ _ _ | with_reducible exact Mi_IsEntry _ _ _ _ _ _ _ _ _ | with_reducible exact Mw_intactEntry _ _ _ _ _ _ _ _ _ _ _ _ _ _ _ _ _ _ _ _ _ _ _ | with_reducible refine Le.cond ?_ ?_ | with_reducible refine Le.bind ?_ fun _ => ?_
theorem Rw_FnExactIsEntry (aE_Name : ByteArray) (aE_System : List (List (Int × Int × Int × Int))) (aE_Box_K : Int) (aE_Box_Low : List (Int)) (aE_Box_High : List (Int)) (aE_Least : Int) (aE_Most : Int) (aE_Version : Int) : Lim (fun k => f11 k aE_Name aE_System aE_Box_K aE_Box_Low aE_Box_High aE_Least aE_Most aE_Version) (w_FnExactIsEntry aE_Name aE_System aE_Box_K aE_Box_Low aE_Box_High aE_Least aE_Most aE_Version) := by
  unfold f11 w_FnExactIsEntry
  repeat' first | with_reducible exact Lim.ret _ | with_reducible exact Rw_szEntry _ _ _ _ _ _ _ _ _ | with_reducible exact Rs_IsEntry _ _ _ _ _ _ _ _ | with_reducible exact Rw_toEntry _ _ _ _ _ _ _ _ _ | with_reducible exact Ri_IsEntry _ _ _ _ _ _ _ _ | with_reducible exact Rw_intactEntry _ _ _ _ _ _ _ _ _ _ _ _ _ _ _ _ _ _ _ _ _ _ | with_reducible refine Lim.cond ?_ ?_ | with_reducible refine Lim.bind ?_ fun _ => ?_

end Go.Proofs.YtnndolcjljhhcaaE
