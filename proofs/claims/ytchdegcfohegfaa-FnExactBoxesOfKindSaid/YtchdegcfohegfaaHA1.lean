/- Functions without a count of rounds; printed. -/
import Derived.Test.YtchdegcfohegfaaE24
import Derived.Test.YtchdegcfohegfaaBA7
set_option maxRecDepth 100000
set_option maxHeartbeats 4000000
set_option linter.unusedVariables false
namespace Go.Proofs.YtchdegcfohegfaaE
-- laws.szIntS
noncomputable def w_szIntS (a : List (Int)) (left : Int) : Option (Int) :=
  bif decide (IntKind.wrap IntKind.i64 (left - (↑(List.length a) : Int)) < 0) then
    some (-1)
  else
    some (IntKind.wrap IntKind.i64 (left - (↑(List.length a) : Int)))
theorem Mw_szIntS (k : Nat) (a : List (Int)) (left : Int) : Le (f31 k a left) (f31 (k + 1) a left) := by
  unfold f31
  repeat' first | with_reducible exact Le.rfl _ | with_reducible refine Le.cond ?_ ?_ | with_reducible refine Le.bind ?_ fun _ => ?_
theorem Rw_szIntS (a : List (Int)) (left : Int) : Lim (fun k => f31 k a left) (w_szIntS a left) := by
  unfold f31 w_szIntS
  repeat' first | with_reducible exact Lim.ret _ | with_reducible refine Lim.cond ?_ ?_ | with_reducible refine Lim.bind ?_ fun _ => ?_

-- laws.szBox
noncomputable def w_szBox (a_K : Int) (a_Low : List (Int)) (a_High : List (Int)) (left : Int) : Option (Int) :=
  (w_szIntS a_Low left).bind fun r0 =>
  bif decide (r0 < 0) then
    some (-1)
  else
    (w_szIntS a_High r0).bind fun r1 =>
    bif decide (r1 < 0) then
      some (-1)
    else
      some r1
theorem Mw_szBox (k : Nat) (a_K : Int) (a_Low : List (Int)) (a_High : List (Int)) (left : Int) : Le (f7 k a_K a_Low a_High left) (f7 (k + 1) a_K a_Low a_High left) := by
  unfold f7
  repeat' first | with_reducible exact Le.rfl _ | with_reducible exact Mw_szIntS _ _ _ | with_reducible refine Le.cond ?_ ?_ | with_reducible refine Le.bind ?_ fun _ => ?_
theorem Rw_szBox (a_K : Int) (a_Low : List (Int)) (a_High : List (Int)) (left : Int) : Lim (fun k => f7 k a_K a_Low a_High left) (w_szBox a_K a_Low a_High left) := by
  unfold f7 w_szBox
  repeat' first | with_reducible exact Lim.ret _ | with_reducible exact Rw_szIntS _ _ | with_reducible refine Lim.cond ?_ ?_ | with_reducible refine Lim.bind ?_ fun _ => ?_

-- laws.szNodeS
noncomputable def w_szNodeS (a : List (Int × Int)) (left : Int) : Option (Int) :=
  bif decide (IntKind.wrap IntKind.i64 (left - (↑(List.length a) : Int)) < 0) then
    some (-1)
  else
    some (IntKind.wrap IntKind.i64 (left - (↑(List.length a) : Int)))
theorem Mw_szNodeS (k : Nat) (a : List (Int × Int)) (left : Int) : Le (f8 k a left) (f8 (k + 1) a left) := by
  unfold f8
  repeat' first | with_reducible exact Le.rfl _ | with_reducible refine Le.cond ?_ ?_ | with_reducible refine Le.bind ?_ fun _ => ?_
theorem Rw_szNodeS (a : List (Int × Int)) (left : Int) : Lim (fun k => f8 k a left) (w_szNodeS a left) := by
  unfold f8 w_szNodeS
  repeat' first | with_reducible exact Lim.ret _ | with_reducible refine Lim.cond ?_ ?_ | with_reducible refine Lim.bind ?_ fun _ => ?_

-- spec.l1In
noncomputable def s_l1In (n : Int) (lo : Int) (hi : Int) : Option (Bool) :=
  bif decide (lo ≤ n) then
    some (decide (n ≤ hi))
  else
    some false
theorem Ms_l1In (k : Nat) (n : Int) (lo : Int) (hi : Int) : Le (f60 k n lo hi) (f60 (k + 1) n lo hi) := by
  unfold f60
  repeat' first | with_reducible exact Le.rfl _ | with_reducible refine Le.cond ?_ ?_ | with_reducible refine Le.bind ?_ fun _ => ?_
theorem Rs_l1In (n : Int) (lo : Int) (hi : Int) : Lim (fun k => f60 k n lo hi) (s_l1In n lo hi) := by
  unfold f60 s_l1In
  repeat' first | with_reducible exact Lim.ret _ | with_reducible refine Lim.cond ?_ ?_ | with_reducible refine Lim.bind ?_ fun _ => ?_

-- spec.dyPower
noncomputable def s_dyPower (k_ : Int) : Option (Int) :=
  bif !decide (IntKind.wrap IntKind.u64 k_ < 0) then
    some (IntKind.wrap IntKind.i64 (1 * 2 ^ min (Int.toNat (IntKind.wrap IntKind.u64 k_)) (IntKind.bits IntKind.i64)))
  else
    none
theorem Ms_dyPower (k : Nat) (k_ : Int) : Le (f61 k k_) (f61 (k + 1) k_) := by
  unfold f61
  repeat' first | with_reducible exact Le.rfl _ | with_reducible refine Le.cond ?_ ?_ | with_reducible refine Le.bind ?_ fun _ => ?_
theorem Rs_dyPower (k_ : Int) : Lim (fun k => f61 k k_) (s_dyPower k_) := by
  unfold f61 s_dyPower
  repeat' first | with_reducible exact Lim.ret _ | with_reducible refine Lim.cond ?_ ?_ | with_reducible refine Lim.bind ?_ fun _ => ?_

-- spec.bxGood
theorem MFs_bxGood_1006 (k : Nat) {r1006 q1006 : Int → List Int → List Int → Int → Bool → List Int → Int → Int → Option (Bool)} (h1006 : ∀ (is_0 : Int) (is_1 : List Int) (is_2 : List Int) (t : Int) (t4 : Bool) (t36 : List Int) (t37 : Int) (t38 : Int), Le (r1006 is_0 is_1 is_2 t t4 t36 t37 t38) (q1006 is_0 is_1 is_2 t t4 t36 t37 t38)) (is_0 : Int) (is_1 : List Int) (is_2 : List Int) (t : Int) (t4 : Bool) (t36 : List Int) (t37 : Int) (t38 : Int) : Le (F32_1006 k r1006 is_0 is_1 is_2 t t4 t36 t37 t38) (F32_1006 (k + 1) q1006 is_0 is_1 is_2 t t4 t36 t37 t38) := by
  unfold F32_1006
  repeat' first | with_reducible exact Le.rfl _ | with_reducible exact Ms_l1In _ _ _ _ | with_reducible exact h1006 _ _ _ _ _ _ _ _ | with_reducible refine Le.cond ?_ ?_ | with_reducible refine Le.bind ?_ fun _ => ?_
theorem Mls_bxGood : ∀ k : Nat, ∀ (is_0 : Int) (is_1 : List Int) (is_2 : List Int) (t : Int) (t4 : Bool) (t36 : List Int) (t37 : Int) (t38 : Int), Le ((l32 k) is_0 is_1 is_2 t t4 t36 t37 t38) ((l32 (k + 1)) is_0 is_1 is_2 t t4 t36 t37 t38)
  | 0 => fun is_0 is_1 is_2 t t4 t36 t37 t38 => Le.no _
  | k + 1 => by
    have h := Mls_bxGood k
    exact fun is_0 is_1 is_2 t t4 t36 t37 t38 => MFs_bxGood_1006 k h is_0 is_1 is_2 t t4 t36 t37 t38
noncomputable def s_bxGood_1006 (is_0 : Int) (is_1 : List Int) (is_2 : List Int) (t : Int) (t4 : Bool) (t36 : List Int) (t37 : Int) (t38 : Int) : Option (Bool) := lim fun k => (l32 k) is_0 is_1 is_2 t t4 t36 t37 t38
theorem Rls_bxGood_1006 (is_0 : Int) (is_1 : List Int) (is_2 : List Int) (t : Int) (t4 : Bool) (t36 : List Int) (t37 : Int) (t38 : Int) : Lim (fun k => (l32 k) is_0 is_1 is_2 t t4 t36 t37 t38) (s_bxGood_1006 is_0 is_1 is_2 t t4 t36 t37 t38) := Lim.of_mono fun k => Mls_bxGood k is_0 is_1 is_2 t t4 t36 t37 t38
theorem Es_bxGood_1006 (is_0 : Int) (is_1 : List Int) (is_2 : List Int) (t : Int) (t4 : Bool) (t36 : List Int) (t37 : Int) (t38 : Int) : s_bxGood_1006 is_0 is_1 is_2 t t4 t36 t37 t38 =
  bif decide (t38 < t37) then
    bif boundA t38 (List.length t36) then
      bif boundA t38 (List.length is_2) then
        (s_l1In (List.getD t36 (Int.toNat t38) 0) (IntKind.wrap IntKind.i64 (0 - t)) t).bind fun r0 =>
        bif !r0 then
          some false
        else
          (s_l1In (List.getD is_2 (Int.toNat t38) 0) (IntKind.wrap IntKind.i64 (0 - t)) t).bind fun r1 =>
          bif !r1 then
            some false
          else
            bif decide (List.getD is_2 (Int.toNat t38) 0 ≤ List.getD t36 (Int.toNat t38) 0) then
              some false
            else
              bif t4 then
                s_bxGood_1006 is_0 is_1 is_2 t true t36 t37 (IntKind.wrap IntKind.i64 (t38 + 1))
              else
                bif !decide (Int.tmod (List.getD t36 (Int.toNat t38) 0) 2 = 0) then
                  s_bxGood_1006 is_0 is_1 is_2 t true t36 t37 (IntKind.wrap IntKind.i64 (t38 + 1))
                else
                  s_bxGood_1006 is_0 is_1 is_2 t (!decide (Int.tmod (List.getD is_2 (Int.toNat t38) 0) 2 = 0)) t36 t37 (IntKind.wrap IntKind.i64 (t38 + 1))
      else
        none
    else
      none
  else
    some t4 := by
  refine Lim.uniq (Lim.shift (Rls_bxGood_1006 is_0 is_1 is_2 t t4 t36 t37 t38)) (?_ : Lim (fun k => F32_1006 k ((l32 k)) is_0 is_1 is_2 t t4 t36 t37 t38) _)
  unfold F32_1006
  repeat' first | with_reducible exact Lim.ret _ | with_reducible exact Rs_l1In _ _ _ | with_reducible exact Rls_bxGood_1006 _ _ _ _ _ _ _ _ | with_reducible refine Lim.cond ?_ ?_ | with_reducible refine Lim.bind ?_ fun _ => ?_
noncomputable def s_bxGood (L_K : Int) (L_Low : List (Int)) (L_High : List (Int)) : Option (Bool) :=
  (s_l1In L_K 0 8).bind fun r0 =>
  bif !r0 then
    some false
  else
    (s_l1In (↑(List.length L_Low) : Int) 1 3).bind fun r1 =>
    bif !r1 then
      some false
    else
      bif !decide ((↑(List.length L_High) : Int) = (↑(List.length L_Low) : Int)) then
        some false
      else
        (s_dyPower L_K).bind fun r2 =>
        s_bxGood_1006 L_K L_Low L_High (IntKind.wrap IntKind.i64 (8 * r2)) (decide (L_K = 0)) L_Low ((↑(List.length L_Low) : Int)) (0)
theorem Ms_bxGood (k : Nat) (L_K : Int) (L_Low : List (Int)) (L_High : List (Int)) : Le (f32 k L_K L_Low L_High) (f32 (k + 1) L_K L_Low L_High) := by
  have h := Mls_bxGood k
  unfold f32 F32
  repeat' first | with_reducible exact Le.rfl _ | with_reducible exact Ms_l1In _ _ _ _ | with_reducible exact Ms_dyPower _ _ | with_reducible exact h _ _ _ _ _ _ _ _ | with_reducible refine Le.cond ?_ ?_ | with_reducible refine Le.bind ?_ fun _ => ?_
theorem Rs_bxGood (L_K : Int) (L_Low : List (Int)) (L_High : List (Int)) : Lim (fun k => f32 k L_K L_Low L_High) (s_bxGood L_K L_Low L_High) := by
  unfold f32 F32 s_bxGood
  repeat' first | with_reducible exact Lim.ret _ | with_reducible exact Rs_l1In _ _ _ | with_reducible exact Rs_dyPower _ | with_reducible exact Rls_bxGood_1006 _ _ _ _ _ _ _ _ | with_reducible refine Lim.cond ?_ ?_ | with_reducible refine Lim.bind ?_ fun _ => ?_

-- spec.trEnd
theorem MFs_trEnd_0 (k : Nat) {r0 q0 : List (Int × Int) → Int → Int → Int → Option (Int)} (h0 : ∀ (l : List (Int × Int)) (sides : Int) (at_ : Int) (depth : Int), Le (r0 l sides at_ depth) (q0 l sides at_ depth)) (l : List (Int × Int)) (sides : Int) (at_ : Int) (depth : Int) : Le (F62_0 k r0 l sides at_ depth) (F62_0 (k + 1) q0 l sides at_ depth) := by
  unfold F62_0
  repeat' first | with_reducible exact Le.rfl _ | with_reducible exact Ms_l1In _ _ _ _ | with_reducible exact h0 _ _ _ _ | with_reducible refine Le.cond ?_ ?_ | with_reducible refine Le.bind ?_ fun _ => ?_
theorem Mls_trEnd : ∀ k : Nat, ∀ (l : List (Int × Int)) (sides : Int) (at_ : Int) (depth : Int), Le ((l62 k) l sides at_ depth) ((l62 (k + 1)) l sides at_ depth)
  | 0 => fun l sides at_ depth => Le.no _
  | k + 1 => by
    have h := Mls_trEnd k
    exact fun l sides at_ depth => MFs_trEnd_0 k h l sides at_ depth
noncomputable def s_trEnd_0 (l : List (Int × Int)) (sides : Int) (at_ : Int) (depth : Int) : Option (Int) := lim fun k => (l62 k) l sides at_ depth
theorem Rls_trEnd_0 (l : List (Int × Int)) (sides : Int) (at_ : Int) (depth : Int) : Lim (fun k => (l62 k) l sides at_ depth) (s_trEnd_0 l sides at_ depth) := Lim.of_mono fun k => Mls_trEnd k l sides at_ depth
theorem Es_trEnd_0 (l : List (Int × Int)) (sides : Int) (at_ : Int) (depth : Int) : s_trEnd_0 l sides at_ depth =
  bif decide ((↑(List.length l) : Int) ≤ at_) then
    some (-1)
  else
    bif decide (20 < depth) then
      some (-1)
    else
      bif boundA at_ (List.length l) then
        bif decide ((List.getD l (Int.toNat at_) (0, 0)).fst = 0) then
          (s_l1In (List.getD l (Int.toNat at_) (0, 0)).snd 0 (IntKind.wrap IntKind.i64 (sides - 1))).bind fun r0 =>
          bif !r0 then
            some (-1)
          else
            (s_trEnd_0 l sides (IntKind.wrap IntKind.i64 (at_ + 1)) (IntKind.wrap IntKind.i64 (depth + 1))).bind fun r1 =>
            bif decide (r1 < 0) then
              some (-1)
            else
              (s_trEnd_0 l sides r1 (IntKind.wrap IntKind.i64 (depth + 1))).bind fun r2 =>
              some r2
        else
          bif decide ((List.getD l (Int.toNat at_) (0, 0)).fst = 1) then
            bif decide ((List.getD l (Int.toNat at_) (0, 0)).fst = 1) then
              (s_l1In (List.getD l (Int.toNat at_) (0, 0)).snd 0 99).bind fun r3 =>
              bif !r3 then
                some (-1)
              else
                some (IntKind.wrap IntKind.i64 (at_ + 1))
            else
              bif decide ((List.getD l (Int.toNat at_) (0, 0)).fst = 3) then
                bif !decide ((List.getD l (Int.toNat at_) (0, 0)).snd = 0) then
                  some (-1)
                else
                  some (IntKind.wrap IntKind.i64 (at_ + 1))
              else
                some (-1)
          else
            bif decide ((List.getD l (Int.toNat at_) (0, 0)).fst = 2) then
              (s_l1In (List.getD l (Int.toNat at_) (0, 0)).snd 0 99).bind fun r4 =>
              bif !r4 then
                some (-1)
              else
                some (IntKind.wrap IntKind.i64 (at_ + 1))
            else
              bif decide ((List.getD l (Int.toNat at_) (0, 0)).fst = 3) then
                bif !decide ((List.getD l (Int.toNat at_) (0, 0)).snd = 0) then
                  some (-1)
                else
                  some (IntKind.wrap IntKind.i64 (at_ + 1))
              else
                some (-1)
      else
        none := by
  refine Lim.uniq (Lim.shift (Rls_trEnd_0 l sides at_ depth)) (?_ : Lim (fun k => F62_0 k ((l62 k)) l sides at_ depth) _)
  unfold F62_0
  repeat' first | with_reducible exact Lim.ret _ | with_reducible exact Rs_l1In _ _ _ | with_reducible exact Rls_trEnd_0 _ _ _ _ | with_reducible refine Lim.cond ?_ ?_ | with_reducible refine Lim.bind ?_ fun _ => ?_
noncomputable def s_trEnd (l : List (Int × Int)) (sides : Int) (at_ : Int) (depth : Int) : Option (Int) :=
  s_trEnd_0 l sides at_ depth
theorem Ms_trEnd (k : Nat) (l : List (Int × Int)) (sides : Int) (at_ : Int) (depth : Int) : Le (f62 k l sides at_ depth) (f62 (k + 1) l sides at_ depth) := by
  have h := Mls_trEnd k
  unfold f62 F62
  repeat' first | with_reducible exact Le.rfl _ | with_reducible exact h _ _ _ _ | with_reducible refine Le.cond ?_ ?_ | with_reducible refine Le.bind ?_ fun _ => ?_
theorem Rs_trEnd (l : List (Int × Int)) (sides : Int) (at_ : Int) (depth : Int) : Lim (fun k => f62 k l sides at_ depth) (s_trEnd l sides at_ depth) := by
  unfold f62 F62 s_trEnd
  repeat' first | with_reducible exact Lim.ret _ | with_reducible exact Rls_trEnd_0 _ _ _ _ | with_reducible refine Lim.cond ?_ ?_ | with_reducible refine Lim.bind ?_ fun _ => ?_

-- spec.trGood
noncomputable def s_trGood (l : List (Int × Int)) (sides : Int) : Option (Bool) :=
  (s_l1In sides 1 3).bind fun r0 =>
  bif r0 then
    (s_l1In (↑(List.length l) : Int) 1 200).bind fun r1 =>
    bif r1 then
      (s_trEnd l sides 0 0).bind fun r2 =>
      some (decide (r2 = (↑(List.length l) : Int)))
    else
      some false
  else
    some false
theorem Ms_trGood (k : Nat) (l : List (Int × Int)) (sides : Int) : Le (f33 k l sides) (f33 (k + 1) l sides) := by
  unfold f33
  repeat' first | with_reducible exact Le.rfl _ | with_reducible exact Ms_l1In _ _ _ _ | with_reducible exact Ms_trEnd _ _ _ _ _ | with_reducible refine Le.cond ?_ ?_ | with_reducible refine Le.bind ?_ fun _ => ?_
theorem Rs_trGood (l : List (Int × Int)) (sides : Int) : Lim (fun k => f33 k l sides) (s_trGood l sides) := by
  unfold f33 s_trGood
  repeat' first | with_reducible exact Lim.ret _ | with_reducible exact Rs_l1In _ _ _ | with_reducible exact Rs_trEnd _ _ _ _ | with_reducible refine Lim.cond ?_ ?_ | with_reducible refine Lim.bind ?_ fun _ => ?_

-- spec.l1Own
noncomputable def s_l1Own (l : List (Int)) : Option (List (Int)) :=
  bif decide (((0 : Nat) + List.length l) * 8 ≤ 140737488355328) then
    some ([] ++ l)
  else
    none
theorem Ms_l1Own (k : Nat) (l : List (Int)) : Le (f63 k l) (f63 (k + 1) l) := by
  unfold f63
  repeat' first | with_reducible exact Le.rfl _ | with_reducible refine Le.cond ?_ ?_ | with_reducible refine Le.bind ?_ fun _ => ?_
theorem Rs_l1Own (l : List (Int)) : Lim (fun k => f63 k l) (s_l1Own l) := by
  unfold f63 s_l1Own
  repeat' first | with_reducible exact Lim.ret _ | with_reducible refine Lim.cond ?_ ?_ | with_reducible refine Lim.bind ?_ fun _ => ?_

-- spec.bxFine
theorem MFs_bxFine_1003 (k : Nat) {r1003 q1003 : Int → List Int → List Int → List Int → List Int → List Int → Int → Int → Option ((List (Int)) × List (Int))} (h1003 : ∀ (bs_0 : Int) (bs_1 : List Int) (bs_2 : List Int) (lows : List Int) (highs : List Int) (t9 : List Int) (t10 : Int) (t11 : Int), Le (r1003 bs_0 bs_1 bs_2 lows highs t9 t10 t11) (q1003 bs_0 bs_1 bs_2 lows highs t9 t10 t11)) (bs_0 : Int) (bs_1 : List Int) (bs_2 : List Int) (lows : List Int) (highs : List Int) (t9 : List Int) (t10 : Int) (t11 : Int) : Le (F85_1003 k r1003 bs_0 bs_1 bs_2 lows highs t9 t10 t11) (F85_1003 (k + 1) q1003 bs_0 bs_1 bs_2 lows highs t9 t10 t11) := by
  unfold F85_1003
  repeat' first | with_reducible exact Le.rfl _ | with_reducible exact h1003 _ _ _ _ _ _ _ _ | with_reducible refine Le.cond ?_ ?_ | with_reducible refine Le.bind ?_ fun _ => ?_
theorem Mls_bxFine : ∀ k : Nat, ∀ (bs_0 : Int) (bs_1 : List Int) (bs_2 : List Int) (lows : List Int) (highs : List Int) (t9 : List Int) (t10 : Int) (t11 : Int), Le ((l85 k) bs_0 bs_1 bs_2 lows highs t9 t10 t11) ((l85 (k + 1)) bs_0 bs_1 bs_2 lows highs t9 t10 t11)
  | 0 => fun bs_0 bs_1 bs_2 lows highs t9 t10 t11 => Le.no _
  | k + 1 => by
    have h := Mls_bxFine k
    exact fun bs_0 bs_1 bs_2 lows highs t9 t10 t11 => MFs_bxFine_1003 k h bs_0 bs_1 bs_2 lows highs t9 t10 t11
noncomputable def s_bxFine_1003 (bs_0 : Int) (bs_1 : List Int) (bs_2 : List Int) (lows : List Int) (highs : List Int) (t9 : List Int) (t10 : Int) (t11 : Int) : Option ((List (Int)) × List (Int)) := lim fun k => (l85 k) bs_0 bs_1 bs_2 lows highs t9 t10 t11
theorem Rls_bxFine_1003 (bs_0 : Int) (bs_1 : List Int) (bs_2 : List Int) (lows : List Int) (highs : List Int) (t9 : List Int) (t10 : Int) (t11 : Int) : Lim (fun k => (l85 k) bs_0 bs_1 bs_2 lows highs t9 t10 t11) (s_bxFine_1003 bs_0 bs_1 bs_2 lows highs t9 t10 t11) := Lim.of_mono fun k => Mls_bxFine k bs_0 bs_1 bs_2 lows highs t9 t10 t11
theorem Es_bxFine_1003 (bs_0 : Int) (bs_1 : List Int) (bs_2 : List Int) (lows : List Int) (highs : List Int) (t9 : List Int) (t10 : Int) (t11 : Int) : s_bxFine_1003 bs_0 bs_1 bs_2 lows highs t9 t10 t11 =
  bif decide (t11 < t10) then
    bif boundA t11 (List.length t9) then
      bif decide ((List.length lows + List.length [IntKind.wrap IntKind.i64 (2 * List.getD t9 (Int.toNat t11) 0)]) * 8 ≤ 140737488355328) then
        bif boundA t11 (List.length bs_2) then
          bif decide ((List.length highs + List.length [IntKind.wrap IntKind.i64 (2 * List.getD bs_2 (Int.toNat t11) 0)]) * 8 ≤ 140737488355328) then
            s_bxFine_1003 bs_0 bs_1 bs_2 (lows ++ [IntKind.wrap IntKind.i64 (2 * List.getD t9 (Int.toNat t11) 0)]) (highs ++ [IntKind.wrap IntKind.i64 (2 * List.getD bs_2 (Int.toNat t11) 0)]) t9 t10 (IntKind.wrap IntKind.i64 (t11 + 1))
          else
            none
        else
          none
      else
        none
    else
      none
  else
    some ((lows, highs)) := by
  refine Lim.uniq (Lim.shift (Rls_bxFine_1003 bs_0 bs_1 bs_2 lows highs t9 t10 t11)) (?_ : Lim (fun k => F85_1003 k ((l85 k)) bs_0 bs_1 bs_2 lows highs t9 t10 t11) _)
  unfold F85_1003
  repeat' first | with_reducible exact Lim.ret _ | with_reducible exact Rls_bxFine_1003 _ _ _ _ _ _ _ _ | with_reducible refine Lim.cond ?_ ?_ | with_reducible refine Lim.bind ?_ fun _ => ?_
noncomputable def s_bxFine (b_K : Int) (b_Low : List (Int)) (b_High : List (Int)) : Option ((List (Int)) × List (Int)) :=
  s_bxFine_1003 b_K b_Low b_High ([]) ([]) b_Low ((↑(List.length b_Low) : Int)) (0)
theorem Ms_bxFine (k : Nat) (b_K : Int) (b_Low : List (Int)) (b_High : List (Int)) : Le (f85 k b_K b_Low b_High) (f85 (k + 1) b_K b_Low b_High) := by
  have h := Mls_bxFine k
  unfold f85 F85
  repeat' first | with_reducible exact Le.rfl _ | with_reducible exact h _ _ _ _ _ _ _ _ | with_reducible refine Le.cond ?_ ?_ | with_reducible refine Le.bind ?_ fun _ => ?_
theorem Rs_bxFine (b_K : Int) (b_Low : List (Int)) (b_High : List (Int)) : Lim (fun k => f85 k b_K b_Low b_High) (s_bxFine b_K b_Low b_High) := by
  unfold f85 F85 s_bxFine
  repeat' first | with_reducible exact Lim.ret _ | with_reducible exact Rls_bxFine_1003 _ _ _ _ _ _ _ _ | with_reducible refine Lim.cond ?_ ?_ | with_reducible refine Lim.bind ?_ fun _ => ?_

-- spec.bxEven
theorem MFs_bxEven_1002 (k : Nat) {r1002 q1002 : Int → List Int → List Int → List Int → Int → Int → Option (Bool)} (h1002 : ∀ (bs_0 : Int) (bs_1 : List Int) (bs_2 : List Int) (t6 : List Int) (t7 : Int) (t8 : Int), Le (r1002 bs_0 bs_1 bs_2 t6 t7 t8) (q1002 bs_0 bs_1 bs_2 t6 t7 t8)) (bs_0 : Int) (bs_1 : List Int) (bs_2 : List Int) (t6 : List Int) (t7 : Int) (t8 : Int) : Le (F95_1002 k r1002 bs_0 bs_1 bs_2 t6 t7 t8) (F95_1002 (k + 1) q1002 bs_0 bs_1 bs_2 t6 t7 t8) := by
  unfold F95_1002
  repeat' first | with_reducible exact Le.rfl _ | with_reducible exact h1002 _ _ _ _ _ _ | with_reducible refine Le.cond ?_ ?_ | with_reducible refine Le.bind ?_ fun _ => ?_
theorem Mls_bxEven : ∀ k : Nat, ∀ (bs_0 : Int) (bs_1 : List Int) (bs_2 : List Int) (t6 : List Int) (t7 : Int) (t8 : Int), Le ((l95 k) bs_0 bs_1 bs_2 t6 t7 t8) ((l95 (k + 1)) bs_0 bs_1 bs_2 t6 t7 t8)
  | 0 => fun bs_0 bs_1 bs_2 t6 t7 t8 => Le.no _
  | k + 1 => by
    have h := Mls_bxEven k
    exact fun bs_0 bs_1 bs_2 t6 t7 t8 => MFs_bxEven_1002 k h bs_0 bs_1 bs_2 t6 t7 t8
noncomputable def s_bxEven_1002 (bs_0 : Int) (bs_1 : List Int) (bs_2 : List Int) (t6 : List Int) (t7 : Int) (t8 : Int) : Option (Bool) := lim fun k => (l95 k) bs_0 bs_1 bs_2 t6 t7 t8
theorem Rls_bxEven_1002 (bs_0 : Int) (bs_1 : List Int) (bs_2 : List Int) (t6 : List Int) (t7 : Int) (t8 : Int) : Lim (fun k => (l95 k) bs_0 bs_1 bs_2 t6 t7 t8) (s_bxEven_1002 bs_0 bs_1 bs_2 t6 t7 t8) := Lim.of_mono fun k => Mls_bxEven k bs_0 bs_1 bs_2 t6 t7 t8
theorem Es_bxEven_1002 (bs_0 : Int) (bs_1 : List Int) (bs_2 : List Int) (t6 : List Int) (t7 : Int) (t8 : Int) : s_bxEven_1002 bs_0 bs_1 bs_2 t6 t7 t8 =
  bif decide (t8 < t7) then
    bif boundA t8 (List.length t6) then
      bif !decide (Int.tmod (List.getD t6 (Int.toNat t8) 0) 2 = 0) then
        some false
      else
        bif boundA t8 (List.length bs_2) then
          bif !decide (Int.tmod (List.getD bs_2 (Int.toNat t8) 0) 2 = 0) then
            some false
          else
            s_bxEven_1002 bs_0 bs_1 bs_2 t6 t7 (IntKind.wrap IntKind.i64 (t8 + 1))
        else
          none
    else
      none
  else
    some true := by
  refine Lim.uniq (Lim.shift (Rls_bxEven_1002 bs_0 bs_1 bs_2 t6 t7 t8)) (?_ : Lim (fun k => F95_1002 k ((l95 k)) bs_0 bs_1 bs_2 t6 t7 t8) _)
  unfold F95_1002
  repeat' first | with_reducible exact Lim.ret _ | with_reducible exact Rls_bxEven_1002 _ _ _ _ _ _ | with_reducible refine Lim.cond ?_ ?_ | with_reducible refine Lim.bind ?_ fun _ => ?_
noncomputable def s_bxEven (b_K : Int) (b_Low : List (Int)) (b_High : List (Int)) : Option (Bool) :=
  s_bxEven_1002 b_K b_Low b_High b_Low ((↑(List.length b_Low) : Int)) (0)
theorem Ms_bxEven (k : Nat) (b_K : Int) (b_Low : List (Int)) (b_High : List (Int)) : Le (f95 k b_K b_Low b_High) (f95 (k + 1) b_K b_Low b_High) := by
  have h := Mls_bxEven k
  unfold f95 F95
  repeat' first | with_reducible exact Le.rfl _ | with_reducible exact h _ _ _ _ _ _ | with_reducible refine Le.cond ?_ ?_ | with_reducible refine Le.bind ?_ fun _ => ?_
theorem Rs_bxEven (b_K : Int) (b_Low : List (Int)) (b_High : List (Int)) : Lim (fun k => f95 k b_K b_Low b_High) (s_bxEven b_K b_Low b_High) := by
  unfold f95 F95 s_bxEven
  repeat' first | with_reducible exact Lim.ret _ | with_reducible exact Rls_bxEven_1002 _ _ _ _ _ _ | with_reducible refine Lim.cond ?_ ?_ | with_reducible refine Lim.bind ?_ fun _ => ?_

-- spec.bxMake
theorem MFs_bxMake_1002 (k : Nat) {r1002 q1002 : Int → Int → List Int → List Int → Option ((Int × (List (Int)) × List (Int)) × Bool)} (h1002 : ∀ (t6s_0 : Int) (outs_0 : Int) (outs : List Int) (outs' : List Int), Le (r1002 t6s_0 outs_0 outs outs') (q1002 t6s_0 outs_0 outs outs')) {r1005 q1005 : Int → Int → List Int → List Int → Int → Int → Option ((Int × (List (Int)) × List (Int)) × Bool)} (h1005 : ∀ (t6s_0 : Int) (outs_0 : Int) (outs : List Int) (outs' : List Int) (t29 : Int) (t30 : Int), Le (r1005 t6s_0 outs_0 outs outs' t29 t30) (q1005 t6s_0 outs_0 outs outs' t29 t30)) (t6s_0 : Int) (outs_0 : Int) (outs : List Int) (outs' : List Int) : Le (F86_1002 k r1002 r1005 t6s_0 outs_0 outs outs') (F86_1002 (k + 1) q1002 q1005 t6s_0 outs_0 outs outs') := by
  unfold F86_1002
  repeat' first | with_reducible exact Le.rfl _ | with_reducible exact Ms_bxGood _ _ _ _ | with_reducible exact Ms_bxEven _ _ _ _ | with_reducible exact h1002 _ _ _ _ | with_reducible exact h1005 _ _ _ _ _ _ | with_reducible refine Le.cond ?_ ?_ | with_reducible refine Le.bind ?_ fun _ => ?_
theorem MFs_bxMake_1005 (k : Nat) {r1002 q1002 : Int → Int → List Int → List Int → Option ((Int × (List (Int)) × List (Int)) × Bool)} (h1002 : ∀ (t6s_0 : Int) (outs_0 : Int) (outs : List Int) (outs' : List Int), Le (r1002 t6s_0 outs_0 outs outs') (q1002 t6s_0 outs_0 outs outs')) {r1005 q1005 : Int → Int → List Int → List Int → Int → Int → Option ((Int × (List (Int)) × List (Int)) × Bool)} (h1005 : ∀ (t6s_0 : Int) (outs_0 : Int) (outs : List Int) (outs' : List Int) (t29 : Int) (t30 : Int), Le (r1005 t6s_0 outs_0 outs outs' t29 t30) (q1005 t6s_0 outs_0 outs outs' t29 t30)) (t6s_0 : Int) (outs_0 : Int) (outs : List Int) (outs' : List Int) (t29 : Int) (t30 : Int) : Le (F86_1005 k r1002 r1005 t6s_0 outs_0 outs outs' t29 t30) (F86_1005 (k + 1) q1002 q1005 t6s_0 outs_0 outs outs' t29 t30) := by
  unfold F86_1005
  repeat' first | with_reducible exact Le.rfl _ | with_reducible exact h1002 _ _ _ _ | with_reducible exact h1005 _ _ _ _ _ _ | with_reducible refine Le.cond ?_ ?_ | with_reducible refine Le.bind ?_ fun _ => ?_
theorem Mls_bxMake : ∀ k : Nat, (∀ (t6s_0 : Int) (outs_0 : Int) (outs : List Int) (outs' : List Int), Le ((l86 k).1 t6s_0 outs_0 outs outs') ((l86 (k + 1)).1 t6s_0 outs_0 outs outs')) ∧ (∀ (t6s_0 : Int) (outs_0 : Int) (outs : List Int) (outs' : List Int) (t29 : Int) (t30 : Int), Le ((l86 k).2 t6s_0 outs_0 outs outs' t29 t30) ((l86 (k + 1)).2 t6s_0 outs_0 outs outs' t29 t30))
  | 0 => ⟨fun t6s_0 outs_0 outs outs' => Le.no _, fun t6s_0 outs_0 outs outs' t29 t30 => Le.no _⟩
  | k + 1 => by
    have h := Mls_bxMake k
    exact ⟨fun t6s_0 outs_0 outs outs' => MFs_bxMake_1002 k h.1 h.2 t6s_0 outs_0 outs outs', fun t6s_0 outs_0 outs outs' t29 t30 => MFs_bxMake_1005 k h.1 h.2 t6s_0 outs_0 outs outs' t29 t30⟩
noncomputable def s_bxMake_1002 (t6s_0 : Int) (outs_0 : Int) (outs : List Int) (outs' : List Int) : Option ((Int × (List (Int)) × List (Int)) × Bool) := lim fun k => (l86 k).1 t6s_0 outs_0 outs outs'
theorem Rls_bxMake_1002 (t6s_0 : Int) (outs_0 : Int) (outs : List Int) (outs' : List Int) : Lim (fun k => (l86 k).1 t6s_0 outs_0 outs outs') (s_bxMake_1002 t6s_0 outs_0 outs outs') := Lim.of_mono fun k => (Mls_bxMake k).1 t6s_0 outs_0 outs outs'
noncomputable def s_bxMake_1005 (t6s_0 : Int) (outs_0 : Int) (outs : List Int) (outs' : List Int) (t29 : Int) (t30 : Int) : Option ((Int × (List (Int)) × List (Int)) × Bool) := lim fun k => (l86 k).2 t6s_0 outs_0 outs outs' t29 t30
theorem Rls_bxMake_1005 (t6s_0 : Int) (outs_0 : Int) (outs : List Int) (outs' : List Int) (t29 : Int) (t30 : Int) : Lim (fun k => (l86 k).2 t6s_0 outs_0 outs outs' t29 t30) (s_bxMake_1005 t6s_0 outs_0 outs outs' t29 t30) := Lim.of_mono fun k => (Mls_bxMake k).2 t6s_0 outs_0 outs outs' t29 t30
theorem Es_bxMake_1002 (t6s_0 : Int) (outs_0 : Int) (outs : List Int) (outs' : List Int) : s_bxMake_1002 t6s_0 outs_0 outs outs' =
  bif decide (0 < outs_0) then
    (s_bxEven outs_0 outs outs').bind fun r0 =>
    bif r0 then
      s_bxMake_1005 t6s_0 (IntKind.wrap IntKind.i64 (outs_0 - 1)) outs outs' ((↑(List.length outs) : Int)) (0)
    else
      (s_bxGood outs_0 outs outs').bind fun r1 =>
      bif !r1 then
        some (((0, [], []), false))
      else
        some (((outs_0, outs, outs'), true))
  else
    (s_bxGood outs_0 outs outs').bind fun r2 =>
    bif !r2 then
      some (((0, [], []), false))
    else
      some (((outs_0, outs, outs'), true)) := by
  refine Lim.uniq (Lim.shift (Rls_bxMake_1002 t6s_0 outs_0 outs outs')) (?_ : Lim (fun k => F86_1002 k ((l86 k).1) ((l86 k).2) t6s_0 outs_0 outs outs') _)
  unfold F86_1002
  repeat' first | with_reducible exact Lim.ret _ | with_reducible exact Rs_bxGood _ _ _ | with_reducible exact Rs_bxEven _ _ _ | with_reducible exact Rls_bxMake_1002 _ _ _ _ | with_reducible exact Rls_bxMake_1005 _ _ _ _ _ _ | with_reducible refine Lim.cond ?_ ?_ | with_reducible refine Lim.bind ?_ fun _ => ?_
theorem Es_bxMake_1005 (t6s_0 : Int) (outs_0 : Int) (outs : List Int) (outs' : List Int) (t29 : Int) (t30 : Int) : s_bxMake_1005 t6s_0 outs_0 outs outs' t29 t30 =
  bif decide (t30 < t29) then
    bif boundA t30 (List.length outs) then
      bif Nat.blt (Int.toNat t30) (List.length outs) then
        bif boundA t30 (List.length outs) then
          bif Nat.blt (Int.toNat t30) (List.length outs) then
            bif boundA t30 (List.length outs') then
              bif Nat.blt (Int.toNat t30) (List.length outs') then
                bif boundA t30 (List.length outs') then
                  bif Nat.blt (Int.toNat t30) (List.length outs') then
                    s_bxMake_1005 t6s_0 outs_0 (List.set outs (Int.toNat t30) (IntKind.wrap IntKind.i64 (Int.tdiv (List.getD outs (Int.toNat t30) 0) 2))) (List.set outs' (Int.toNat t30) (IntKind.wrap IntKind.i64 (Int.tdiv (List.getD outs' (Int.toNat t30) 0) 2))) t29 (IntKind.wrap IntKind.i64 (t30 + 1))
                  else
                    none
                else
                  none
              else
                none
            else
              none
          else
            none
        else
          none
      else
        none
    else
      none
  else
    s_bxMake_1002 t6s_0 outs_0 outs outs' := by
  refine Lim.uniq (Lim.shift (Rls_bxMake_1005 t6s_0 outs_0 outs outs' t29 t30)) (?_ : Lim (fun k => F86_1005 k ((l86 k).1) ((l86 k).2) t6s_0 outs_0 outs outs' t29 t30) _)
  unfold F86_1005
  repeat' first | with_reducible exact Lim.ret _ | with_reducible exact Rls_bxMake_1002 _ _ _ _ | with_reducible exact Rls_bxMake_1005 _ _ _ _ _ _ | with_reducible refine Lim.cond ?_ ?_ | with_reducible refine Lim.bind ?_ fun _ => ?_
noncomputable def s_bxMake (k_ : Int) (low : List (Int)) (high : List (Int)) : Option ((Int × (List (Int)) × List (Int)) × Bool) :=
  (s_l1Own low).bind fun r0 =>
  (s_l1Own high).bind fun r1 =>
  s_bxMake_1002 (0) k_ r0 r1
theorem Ms_bxMake (k : Nat) (k_ : Int) (low : List (Int)) (high : List (Int)) : Le (f86 k k_ low high) (f86 (k + 1) k_ low high) := by
  have h := Mls_bxMake k
  unfold f86 F86
  repeat' first | with_reducible exact Le.rfl _ | with_reducible exact Ms_l1Own _ _ | with_reducible exact h.1 _ _ _ _ | with_reducible exact h.2 _ _ _ _ _ _ | with_reducible refine Le.cond ?_ ?_ | with_reducible refine Le.bind ?_ fun _ => ?_
theorem Rs_bxMake (k_ : Int) (low : List (Int)) (high : List (Int)) : Lim (fun k => f86 k k_ low high) (s_bxMake k_ low high) := by
  unfold f86 F86 s_bxMake
  repeat' first | with_reducible exact Lim.ret _ | with_reducible exact Rs_l1Own _ | with_reducible exact Rls_bxMake_1002 _ _ _ _ | with_reducible exact Rls_bxMake_1005 _ _ _ _ _ _ | with_reducible refine Lim.cond ?_ ?_ | with_reducible refine Lim.bind ?_ fun _ => ?_

-- spec.bxHalves
noncomputable def s_bxHalves (L_K : Int) (L_Low : List (Int)) (L_High : List (Int)) (i : Int) : Option ((List (Int × (List (Int)) × List (Int))) × Bool) :=
  (s_bxFine L_K L_Low L_High).bind fun r0 =>
  bif boundA i (List.length L_Low) then
    bif boundA i (List.length L_High) then
      (s_l1Own r0.fst).bind fun r1 =>
      (s_l1Own r0.snd).bind fun r2 =>
      bif boundA i (List.length r1) then
        bif Nat.blt (Int.toNat i) (List.length r1) then
          bif boundA i (List.length r2) then
            bif Nat.blt (Int.toNat i) (List.length r2) then
              (s_bxMake (IntKind.wrap IntKind.i64 (L_K + 1)) r0.fst (List.set r2 (Int.toNat i) (IntKind.wrap IntKind.i64 (List.getD L_Low (Int.toNat i) 0 + List.getD L_High (Int.toNat i) 0)))).bind fun r3 =>
              (s_bxMake (IntKind.wrap IntKind.i64 (L_K + 1)) (List.set r1 (Int.toNat i) (IntKind.wrap IntKind.i64 (List.getD L_Low (Int.toNat i) 0 + List.getD L_High (Int.toNat i) 0))) r0.snd).bind fun r4 =>
              bif !r3.snd then
                some (([], false))
              else
                bif !r4.snd then
                  some (([], false))
                else
                  some (([(r3.fst.fst, r3.fst.snd.fst, r3.fst.snd.snd), (r4.fst.fst, r4.fst.snd.fst, r4.fst.snd.snd)], true))
            else
              none
          else
            none
        else
          none
      else
        none
    else
      none
  else
    none
theorem Ms_bxHalves (k : Nat) (L_K : Int) (L_Low : List (Int)) (L_High : List (Int)) (i : Int) : Le (f64 k L_K L_Low L_High i) (f64 (k + 1) L_K L_Low L_High i) := by
  unfold f64
  repeat' first | with_reducible exact Le.rfl _ | with_reducible exact Ms_l1Own _ _ | with_reducible exact Ms_bxFine _ _ _ _ | with_reducible exact Ms_bxMake _ _ _ _ | with_reducible refine Le.cond ?_ ?_ | with_reducible refine Le.bind ?_ fun _ => ?_
theorem Rs_bxHalves (L_K : Int) (L_Low : List (Int)) (L_High : List (Int)) (i : Int) : Lim (fun k => f64 k L_K L_Low L_High i) (s_bxHalves L_K L_Low L_High i) := by
  unfold f64 s_bxHalves
  repeat' first | with_reducible exact Lim.ret _ | with_reducible exact Rs_l1Own _ | with_reducible exact Rs_bxFine _ _ _ | with_reducible exact Rs_bxMake _ _ _ | with_reducible refine Lim.cond ?_ ?_ | with_reducible refine Lim.bind ?_ fun _ => ?_

-- spec.trBoxes
theorem MFs_trBoxes_1004 (k : Nat) {r1004 q1004 : List (Int × List Int × List Int) → List (Int × List Int × List Int) → List (Int × Int) → Int → Int → Option ((List (Int × (List (Int)) × List (Int))) × Bool)} (h1004 : ∀ (os : List (Int × List Int × List Int)) (As : List (Int × List Int × List Int)) (t15 : List (Int × Int)) (t16 : Int) (t17 : Int), Le (r1004 os As t15 t16 t17) (q1004 os As t15 t16 t17)) (os : List (Int × List Int × List Int)) (As : List (Int × List Int × List Int)) (t15 : List (Int × Int)) (t16 : Int) (t17 : Int) : Le (F34_1004 k r1004 os As t15 t16 t17) (F34_1004 (k + 1) q1004 os As t15 t16 t17) := by
  unfold F34_1004
  repeat' first | with_reducible exact Le.rfl _ | with_reducible exact Ms_l1Own _ _ | with_reducible exact Ms_bxHalves _ _ _ _ _ | with_reducible exact h1004 _ _ _ _ _ | with_reducible refine Le.cond ?_ ?_ | with_reducible refine Le.bind ?_ fun _ => ?_
theorem Mls_trBoxes : ∀ k : Nat, ∀ (os : List (Int × List Int × List Int)) (As : List (Int × List Int × List Int)) (t15 : List (Int × Int)) (t16 : Int) (t17 : Int), Le ((l34 k) os As t15 t16 t17) ((l34 (k + 1)) os As t15 t16 t17)
  | 0 => fun os As t15 t16 t17 => Le.no _
  | k + 1 => by
    have h := Mls_trBoxes k
    exact fun os As t15 t16 t17 => MFs_trBoxes_1004 k h os As t15 t16 t17
noncomputable def s_trBoxes_1004 (os : List (Int × List Int × List Int)) (As : List (Int × List Int × List Int)) (t15 : List (Int × Int)) (t16 : Int) (t17 : Int) : Option ((List (Int × (List (Int)) × List (Int))) × Bool) := lim fun k => (l34 k) os As t15 t16 t17
theorem Rls_trBoxes_1004 (os : List (Int × List Int × List Int)) (As : List (Int × List Int × List Int)) (t15 : List (Int × Int)) (t16 : Int) (t17 : Int) : Lim (fun k => (l34 k) os As t15 t16 t17) (s_trBoxes_1004 os As t15 t16 t17) := Lim.of_mono fun k => Mls_trBoxes k os As t15 t16 t17
theorem Es_trBoxes_1004 (os : List (Int × List Int × List Int)) (As : List (Int × List Int × List Int)) (t15 : List (Int × Int)) (t16 : Int) (t17 : Int) : s_trBoxes_1004 os As t15 t16 t17 =
  bif decide (t17 < t16) then
    bif boundA t17 (List.length t15) then
      bif boundA (IntKind.wrap IntKind.i64 ((↑(List.length As) : Int) - 1)) (List.length As) then
        bif Nat.blt (Int.toNat (IntKind.wrap IntKind.i64 ((↑(List.length As) : Int) - 1))) (List.length As) then
          bif boundE (IntKind.wrap IntKind.i64 ((↑(List.length As) : Int) - 1)) (List.length As) then
            bif !decide ((List.getD t15 (Int.toNat t17) (0, 0)).fst = 0) then
              (s_l1Own (List.getD As (Int.toNat (IntKind.wrap IntKind.i64 ((↑(List.length As) : Int) - 1))) (0, [], [])).snd.fst).bind fun r0 =>
              (s_l1Own (List.getD As (Int.toNat (IntKind.wrap IntKind.i64 ((↑(List.length As) : Int) - 1))) (0, [], [])).snd.snd).bind fun r1 =>
              bif decide ((List.length os + List.length [((List.getD As (Int.toNat (IntKind.wrap IntKind.i64 ((↑(List.length As) : Int) - 1))) (0, [], [])).fst, r0, r1)]) * 56 ≤ 140737488355328) then
                s_trBoxes_1004 (os ++ [((List.getD As (Int.toNat (IntKind.wrap IntKind.i64 ((↑(List.length As) : Int) - 1))) (0, [], [])).fst, r0, r1)]) (List.take (Int.toNat (IntKind.wrap IntKind.i64 ((↑(List.length As) : Int) - 1))) As) t15 t16 (IntKind.wrap IntKind.i64 (t17 + 1))
              else
                none
            else
              (s_bxHalves (List.getD As (Int.toNat (IntKind.wrap IntKind.i64 ((↑(List.length As) : Int) - 1))) (0, [], [])).fst (List.getD As (Int.toNat (IntKind.wrap IntKind.i64 ((↑(List.length As) : Int) - 1))) (0, [], [])).snd.fst (List.getD As (Int.toNat (IntKind.wrap IntKind.i64 ((↑(List.length As) : Int) - 1))) (0, [], [])).snd.snd (List.getD t15 (Int.toNat t17) (0, 0)).snd).bind fun r2 =>
              bif !r2.snd then
                some (([], false))
              else
                bif boundA 1 (List.length r2.fst) then
                  bif Nat.blt (Int.toNat 1) (List.length r2.fst) then
                    bif boundA 0 (List.length r2.fst) then
                      bif Nat.blt (Int.toNat 0) (List.length r2.fst) then
                        bif decide ((List.length (List.take (Int.toNat (IntKind.wrap IntKind.i64 ((↑(List.length As) : Int) - 1))) As) + List.length [((List.getD r2.fst (Int.toNat 1) (0, [], [])).fst, (List.getD r2.fst (Int.toNat 1) (0, [], [])).snd.fst, (List.getD r2.fst (Int.toNat 1) (0, [], [])).snd.snd), ((List.getD r2.fst (Int.toNat 0) (0, [], [])).fst, (List.getD r2.fst (Int.toNat 0) (0, [], [])).snd.fst, (List.getD r2.fst (Int.toNat 0) (0, [], [])).snd.snd)]) * 56 ≤ 140737488355328) then
                          s_trBoxes_1004 os (List.take (Int.toNat (IntKind.wrap IntKind.i64 ((↑(List.length As) : Int) - 1))) As ++ [((List.getD r2.fst (Int.toNat 1) (0, [], [])).fst, (List.getD r2.fst (Int.toNat 1) (0, [], [])).snd.fst, (List.getD r2.fst (Int.toNat 1) (0, [], [])).snd.snd), ((List.getD r2.fst (Int.toNat 0) (0, [], [])).fst, (List.getD r2.fst (Int.toNat 0) (0, [], [])).snd.fst, (List.getD r2.fst (Int.toNat 0) (0, [], [])).snd.snd)]) t15 t16 (IntKind.wrap IntKind.i64 (t17 + 1))
                        else
                          none
                      else
                        none
                    else
                      none
                  else
                    none
                else
                  none
          else
            none
        else
          none
      else
        none
    else
      none
  else
    some ((os, true)) := by
  refine Lim.uniq (Lim.shift (Rls_trBoxes_1004 os As t15 t16 t17)) (?_ : Lim (fun k => F34_1004 k ((l34 k)) os As t15 t16 t17) _)
  unfold F34_1004
  repeat' first | with_reducible exact Lim.ret _ | with_reducible exact Rs_l1Own _ | with_reducible exact Rs_bxHalves _ _ _ _ | with_reducible exact Rls_trBoxes_1004 _ _ _ _ _ | with_reducible refine Lim.cond ?_ ?_ | with_reducible refine Lim.bind ?_ fun _ => ?_
noncomputable def s_trBoxes (L_K : Int) (L_Low : List (Int)) (L_High : List (Int)) (i : List (Int × Int)) : Option ((List (Int × (List (Int)) × List (Int))) × Bool) :=
  s_trBoxes_1004 ([]) ([(L_K, L_Low, L_High)]) i ((↑(List.length i) : Int)) (0)
theorem Ms_trBoxes (k : Nat) (L_K : Int) (L_Low : List (Int)) (L_High : List (Int)) (i : List (Int × Int)) : Le (f34 k L_K L_Low L_High i) (f34 (k + 1) L_K L_Low L_High i) := by
  have h := Mls_trBoxes k
  unfold f34 F34
  repeat' first | with_reducible exact Le.rfl _ | with_reducible exact h _ _ _ _ _ | with_reducible refine Le.cond ?_ ?_ | with_reducible refine Le.bind ?_ fun _ => ?_
theorem Rs_trBoxes (L_K : Int) (L_Low : List (Int)) (L_High : List (Int)) (i : List (Int × Int)) : Lim (fun k => f34 k L_K L_Low L_High i) (s_trBoxes L_K L_Low L_High i) := by
  unfold f34 F34 s_trBoxes
  repeat' first | with_reducible exact Lim.ret _ | with_reducible exact Rls_trBoxes_1004 _ _ _ _ _ | with_reducible refine Lim.cond ?_ ?_ | with_reducible refine Lim.bind ?_ fun _ => ?_

-- spec.BoxesOf
noncomputable def s_BoxesOf (b_K : Int) (b_Low : List (Int)) (b_High : List (Int)) (l : List (Int × Int)) : Option ((List (Int × (List (Int)) × List (Int))) × Bool) :=
  (s_bxGood b_K b_Low b_High).bind fun r0 =>
  bif !r0 then
    some (([], false))
  else
    (s_trGood l (↑(List.length b_Low) : Int)).bind fun r1 =>
    bif !r1 then
      some (([], false))
    else
      (s_trBoxes b_K b_Low b_High l).bind fun r2 =>
      some ((r2.fst, r2.snd))
theorem Ms_BoxesOf (k : Nat) (b_K : Int) (b_Low : List (Int)) (b_High : List (Int)) (l : List (Int × Int)) : Le (f9 k b_K b_Low b_High l) (f9 (k + 1) b_K b_Low b_High l) := by
  unfold f9
  repeat' first | with_reducible exact Le.rfl _ | with_reducible exact Ms_bxGood _ _ _ _ | with_reducible exact Ms_trGood _ _ _ | with_reducible exact Ms_trBoxes _ _ _ _ _ | with_reducible refine Le.cond ?_ ?_ | with_reducible refine Le.bind ?_ fun _ => ?_
theorem Rs_BoxesOf (b_K : Int) (b_Low : List (Int)) (b_High : List (Int)) (l : List (Int × Int)) : Lim (fun k => f9 k b_K b_Low b_High l) (s_BoxesOf b_K b_Low b_High l) := by
  unfold f9 s_BoxesOf
  repeat' first | with_reducible exact Lim.ret _ | with_reducible exact Rs_bxGood _ _ _ | with_reducible exact Rs_trGood _ _ | with_reducible exact Rs_trBoxes _ _ _ _ | with_reducible refine Lim.cond ?_ ?_ | with_reducible refine Lim.bind ?_ fun _ => ?_

-- laws.roomBehind
noncomputable def w_roomBehind (n : Int) : Option (Int) :=
  bif decide (Int.tmod n 6 = 5) then
    some (0)
  else
    bif decide (Int.tmod n 3 = 0) then
      some (1)
    else
      some n
theorem Mw_roomBehind (k : Nat) (n : Int) : Le (f36 k n) (f36 (k + 1) n) := by
  unfold f36
  repeat' first | with_reducible exact Le.rfl _ | with_reducible refine Le.cond ?_ ?_ | with_reducible refine Le.bind ?_ fun _ => ?_
theorem Rw_roomBehind (n : Int) : Lim (fun k => f36 k n) (w_roomBehind n) := by
  unfold f36 w_roomBehind
  repeat' first | with_reducible exact Lim.ret _ | with_reducible refine Lim.cond ?_ ?_ | with_reducible refine Lim.bind ?_ fun _ => ?_

-- laws.toIntS
theorem MFw_toIntS_1005 (k : Nat) {r1005 q1005 : List Int → List Int → Int → Option (List (Int) × Nat)} (h1005 : ∀ (a : List Int) (outs : List Int) (i : Int), Le (r1005 a outs i) (q1005 a outs i)) {r1009 q1009 : List Int → List Int → Int → Option (List (Int) × Nat)} (h1009 : ∀ (a : List Int) (outs : List Int) (i : Int), Le (r1009 a outs i) (q1009 a outs i)) (a : List Int) (outs : List Int) (i : Int) : Le (F35_1005 k r1005 r1009 a outs i) (F35_1005 (k + 1) q1005 q1009 a outs i) := by
  unfold F35_1005
  repeat' first | with_reducible exact Le.rfl _ | with_reducible exact h1005 _ _ _ | with_reducible exact h1009 _ _ _ | with_reducible refine Le.cond ?_ ?_ | with_reducible refine Le.bind ?_ fun _ => ?_
theorem MFw_toIntS_1009 (k : Nat) {r1005 q1005 : List Int → List Int → Int → Option (List (Int) × Nat)} (h1005 : ∀ (a : List Int) (outs : List Int) (i : Int), Le (r1005 a outs i) (q1005 a outs i)) {r1009 q1009 : List Int → List Int → Int → Option (List (Int) × Nat)} (h1009 : ∀ (a : List Int) (outs : List Int) (i : Int), Le (r1009 a outs i) (q1009 a outs i)) (a : List Int) (outs : List Int) (i : Int) : Le (F35_1009 k r1005 r1009 a outs i) (F35_1009 (k + 1) q1005 q1009 a outs i) := by
  unfold F35_1009
  repeat' first | with_reducible exact Le.rfl _ | with_reducible exact h1005 _ _ _ | with_reducible exact h1009 _ _ _ | with_reducible refine Le.cond ?_ ?_ | with_reducible refine Le.bind ?_ fun _ => ?_
theorem Mlw_toIntS : ∀ k : Nat, (∀ (a : List Int) (outs : List Int) (i : Int), Le ((l35 k).1 a outs i) ((l35 (k + 1)).1 a outs i)) ∧ (∀ (a : List Int) (outs : List Int) (i : Int), Le ((l35 k).2 a outs i) ((l35 (k + 1)).2 a outs i))
  | 0 => ⟨fun a outs i => Le.no _, fun a outs i => Le.no _⟩
  | k + 1 => by
    have h := Mlw_toIntS k
    exact ⟨fun a outs i => MFw_toIntS_1005 k h.1 h.2 a outs i, fun a outs i => MFw_toIntS_1009 k h.1 h.2 a outs i⟩
noncomputable def w_toIntS_1005 (a : List Int) (outs : List Int) (i : Int) : Option (List (Int) × Nat) := lim fun k => (l35 k).1 a outs i
theorem Rlw_toIntS_1005 (a : List Int) (outs : List Int) (i : Int) : Lim (fun k => (l35 k).1 a outs i) (w_toIntS_1005 a outs i) := Lim.of_mono fun k => (Mlw_toIntS k).1 a outs i
noncomputable def w_toIntS_1009 (a : List Int) (outs : List Int) (i : Int) : Option (List (Int) × Nat) := lim fun k => (l35 k).2 a outs i
theorem Rlw_toIntS_1009 (a : List Int) (outs : List Int) (i : Int) : Lim (fun k => (l35 k).2 a outs i) (w_toIntS_1009 a outs i) := Lim.of_mono fun k => (Mlw_toIntS k).2 a outs i
theorem Ew_toIntS_1005 (a : List Int) (outs : List Int) (i : Int) : w_toIntS_1005 a outs i =
  bif decide (i < (↑(List.length a) : Int)) then
    bif boundA i (List.length a) then
      bif boundA i (List.length outs) then
        bif Nat.blt (Int.toNat i) (List.length outs) then
          w_toIntS_1005 a (List.set outs (Int.toNat i) (List.getD a (Int.toNat i) 0)) (IntKind.wrap IntKind.i64 (i + 1))
        else
          none
      else
        none
    else
      none
  else
    w_toIntS_1009 a outs ((↑(List.length a) : Int)) := by
  refine Lim.uniq (Lim.shift (Rlw_toIntS_1005 a outs i)) (?_ : Lim (fun k => F35_1005 k ((l35 k).1) ((l35 k).2) a outs i) _)
  unfold F35_1005
  repeat' first | with_reducible exact Lim.ret _ | with_reducible exact Rlw_toIntS_1005 _ _ _ | with_reducible exact Rlw_toIntS_1009 _ _ _ | with_reducible refine Lim.cond ?_ ?_ | with_reducible refine Lim.bind ?_ fun _ => ?_
theorem Ew_toIntS_1009 (a : List Int) (outs : List Int) (i : Int) : w_toIntS_1009 a outs i =
  bif decide (i < (↑(List.length outs) : Int)) then
    bif boundA i (List.length outs) then
      bif Nat.blt (Int.toNat i) (List.length outs) then
        w_toIntS_1009 a (List.set outs (Int.toNat i) (-7000000000000000101)) (IntKind.wrap IntKind.i64 (i + 1))
      else
        none
    else
      none
  else
    bif boundE (↑(List.length a) : Int) (List.length outs) then
      some ((outs, Option.getD (some (Int.toNat (↑(List.length a) : Int))) (List.length outs)))
    else
      none := by
  refine Lim.uniq (Lim.shift (Rlw_toIntS_1009 a outs i)) (?_ : Lim (fun k => F35_1009 k ((l35 k).1) ((l35 k).2) a outs i) _)
  unfold F35_1009
  repeat' first | with_reducible exact Lim.ret _ | with_reducible exact Rlw_toIntS_1005 _ _ _ | with_reducible exact Rlw_toIntS_1009 _ _ _ | with_reducible refine Lim.cond ?_ ?_ | with_reducible refine Lim.bind ?_ fun _ => ?_
noncomputable def w_toIntS (a : List (Int)) (bare : Bool) : Option (List (Int) × Nat) :=
  bif bare then
    bif decide ((↑(List.length a) : Int) = 0) then
      some (([], 0))
    else
      (w_roomBehind (↑(List.length a) : Int)).bind fun r0 =>
      bif decide (0 ≤ IntKind.wrap IntKind.i64 ((↑(List.length a) : Int) + r0)) then
        bif decide (IntKind.wrap IntKind.i64 ((↑(List.length a) : Int) + r0) ≤ IntKind.wrap IntKind.i64 ((↑(List.length a) : Int) + r0)) then
          bif decide (IntKind.wrap IntKind.i64 ((↑(List.length a) : Int) + r0) * (↑8 : Int) ≤ 140737488355328) then
            w_toIntS_1005 a (List.replicate (Int.toNat (IntKind.wrap IntKind.i64 ((↑(List.length a) : Int) + r0))) (dflt (Ty.int IntKind.i64))) (0)
          else
            none
        else
          none
      else
        none
  else
    (w_roomBehind (↑(List.length a) : Int)).bind fun r1 =>
    bif decide (0 ≤ IntKind.wrap IntKind.i64 ((↑(List.length a) : Int) + r1)) then
      bif decide (IntKind.wrap IntKind.i64 ((↑(List.length a) : Int) + r1) ≤ IntKind.wrap IntKind.i64 ((↑(List.length a) : Int) + r1)) then
        bif decide (IntKind.wrap IntKind.i64 ((↑(List.length a) : Int) + r1) * (↑8 : Int) ≤ 140737488355328) then
          w_toIntS_1005 a (List.replicate (Int.toNat (IntKind.wrap IntKind.i64 ((↑(List.length a) : Int) + r1))) (dflt (Ty.int IntKind.i64))) (0)
        else
          none
      else
        none
    else
      none
theorem Mw_toIntS (k : Nat) (a : List (Int)) (bare : Bool) : Le (f35 k a bare) (f35 (k + 1) a bare) := by
  have h := Mlw_toIntS k
  unfold f35 F35
  repeat' first | with_reducible exact Le.rfl _ | with_reducible exact Mw_roomBehind _ _ | with_reducible exact h.1 _ _ _ | with_reducible exact h.2 _ _ _ | with_reducible refine Le.cond ?_ ?_ | with_reducible refine Le.bind ?_ fun _ => ?_
theorem Rw_toIntS (a : List (Int)) (bare : Bool) : Lim (fun k => f35 k a bare) (w_toIntS a bare) := by
  unfold f35 F35 w_toIntS
  repeat' first | with_reducible exact Lim.ret _ | with_reducible exact Rw_roomBehind _ | with_reducible exact Rlw_toIntS_1005 _ _ _ | with_reducible exact Rlw_toIntS_1009 _ _ _ | with_reducible refine Lim.cond ?_ ?_ | with_reducible refine Lim.bind ?_ fun _ => ?_

-- laws.toBox
noncomputable def w_toBox (a_K : Int) (a_Low : List (Int)) (a_High : List (Int)) (bare : Bool) : Option (Int × (List (Int) × Nat) × List (Int) × Nat) :=
  (w_toIntS a_Low bare).bind fun r0 =>
  (w_toIntS a_High bare).bind fun r1 =>
  some ((a_K, (r0.fst, Option.getD (some r0.snd) (List.length r0.fst)), r1.fst, Option.getD (some r1.snd) (List.length r1.fst)))
theorem Mw_toBox (k : Nat) (a_K : Int) (a_Low : List (Int)) (a_High : List (Int)) (bare : Bool) : Le (f10 k a_K a_Low a_High bare) (f10 (k + 1) a_K a_Low a_High bare) := by
  unfold f10
  repeat' first | with_reducible exact Le.rfl _ | with_reducible exact Mw_toIntS _ _ _ | with_reducible refine Le.cond ?_ ?_ | with_reducible refine Le.bind ?_ fun _ => ?_
theorem Rw_toBox (a_K : Int) (a_Low : List (Int)) (a_High : List (Int)) (bare : Bool) : Lim (fun k => f10 k a_K a_Low a_High bare) (w_toBox a_K a_Low a_High bare) := by
  unfold f10 w_toBox
  repeat' first | with_reducible exact Lim.ret _ | with_reducible exact Rw_toIntS _ _ | with_reducible refine Lim.cond ?_ ?_ | with_reducible refine Lim.bind ?_ fun _ => ?_

-- laws.toNode
noncomputable def w_toNode (a_Kind : Int) (a_Number : Int) : Option (Int × Int) :=
  some ((a_Kind, a_Number))
theorem Mw_toNode (k : Nat) (a_Kind : Int) (a_Number : Int) : Le (f37 k a_Kind a_Number) (f37 (k + 1) a_Kind a_Number) := by
  unfold f37
  repeat' first | with_reducible exact Le.rfl _ | with_reducible refine Le.cond ?_ ?_ | with_reducible refine Le.bind ?_ fun _ => ?_
theorem Rw_toNode (a_Kind : Int) (a_Number : Int) : Lim (fun k => f37 k a_Kind a_Number) (w_toNode a_Kind a_Number) := by
  unfold f37 w_toNode
  repeat' first | with_reducible exact Lim.ret _ | with_reducible refine Lim.cond ?_ ?_ | with_reducible refine Lim.bind ?_ fun _ => ?_

-- laws.fillerNode
noncomputable def w_fillerNode  : Option (Int × Int) :=
  some ((-7000000000000000101, -7000000000000000101))
theorem Mw_fillerNode (k : Nat)  : Le (f38 k ) (f38 (k + 1) ) := by
  unfold f38
  repeat' first | with_reducible exact Le.rfl _ | with_reducible refine Le.cond ?_ ?_ | with_reducible refine Le.bind ?_ fun _ => ?_
theorem Rw_fillerNode  : Lim (fun k => f38 k ) (w_fillerNode ) := by
  unfold f38 w_fillerNode
  repeat' first | with_reducible exact Lim.ret _ | with_reducible refine Lim.cond ?_ ?_ | with_reducible refine Lim.bind ?_ fun _ => ?_

-- laws.toNodeS
theorem MFw_toNodeS_1005 (k : Nat) {r1005 q1005 : List (Int × Int) → List (Int × Int) → Int → Option (List (Int × Int) × Nat)} (h1005 : ∀ (a : List (Int × Int)) (outs : List (Int × Int)) (i : Int), Le (r1005 a outs i) (q1005 a outs i)) {r1009 q1009 : List (Int × Int) → List (Int × Int) → Int → Option (List (Int × Int) × Nat)} (h1009 : ∀ (a : List (Int × Int)) (outs : List (Int × Int)) (i : Int), Le (r1009 a outs i) (q1009 a outs i)) (a : List (Int × Int)) (outs : List (Int × Int)) (i : Int) : Le (F11_1005 k r1005 r1009 a outs i) (F11_1005 (k + 1) q1005 q1009 a outs i) := by
  unfold F11_1005
  repeat' first | with_reducible exact Le.rfl _ | with_reducible exact h1005 _ _ _ | with_reducible exact h1009 _ _ _ | with_reducible refine Le.cond ?_ ?_ | with_reducible refine Le.bind ?_ fun _ => ?_
theorem MFw_toNodeS_1009 (k : Nat) {r1005 q1005 : List (Int × Int) → List (Int × Int) → Int → Option (List (Int × Int) × Nat)} (h1005 : ∀ (a : List (Int × Int)) (outs : List (Int × Int)) (i : Int), Le (r1005 a outs i) (q1005 a outs i)) {r1009 q1009 : List (Int × Int) → List (Int × Int) → Int → Option (List (Int × Int) × Nat)} (h1009 : ∀ (a : List (Int × Int)) (outs : List (Int × Int)) (i : Int), Le (r1009 a outs i) (q1009 a outs i)) (a : List (Int × Int)) (outs : List (Int × Int)) (i : Int) : Le (F11_1009 k r1005 r1009 a outs i) (F11_1009 (k + 1) q1005 q1009 a outs i) := by
  unfold F11_1009
  repeat' first | with_reducible exact Le.rfl _ | with_reducible exact h1005 _ _ _ | with_reducible exact h1009 _ _ _ | with_reducible refine Le.cond ?_ ?_ | with_reducible refine Le.bind ?_ fun _ => ?_
theorem Mlw_toNodeS : ∀ k : Nat, (∀ (a : List (Int × Int)) (outs : List (Int × Int)) (i : Int), Le ((l11 k).1 a outs i) ((l11 (k + 1)).1 a outs i)) ∧ (∀ (a : List (Int × Int)) (outs : List (Int × Int)) (i : Int), Le ((l11 k).2 a outs i) ((l11 (k + 1)).2 a outs i))
  | 0 => ⟨fun a outs i => Le.no _, fun a outs i => Le.no _⟩
  | k + 1 => by
    have h := Mlw_toNodeS k
    exact ⟨fun a outs i => MFw_toNodeS_1005 k h.1 h.2 a outs i, fun a outs i => MFw_toNodeS_1009 k h.1 h.2 a outs i⟩
noncomputable def w_toNodeS_1005 (a : List (Int × Int)) (outs : List (Int × Int)) (i : Int) : Option (List (Int × Int) × Nat) := lim fun k => (l11 k).1 a outs i
theorem Rlw_toNodeS_1005 (a : List (Int × Int)) (outs : List (Int × Int)) (i : Int) : Lim (fun k => (l11 k).1 a outs i) (w_toNodeS_1005 a outs i) := Lim.of_mono fun k => (Mlw_toNodeS k).1 a outs i
noncomputable def w_toNodeS_1009 (a : List (Int × Int)) (outs : List (Int × Int)) (i : Int) : Option (List (Int × Int) × Nat) := lim fun k => (l11 k).2 a outs i
theorem Rlw_toNodeS_1009 (a : List (Int × Int)) (outs : List (Int × Int)) (i : Int) : Lim (fun k => (l11 k).2 a outs i) (w_toNodeS_1009 a outs i) := Lim.of_mono fun k => (Mlw_toNodeS k).2 a outs i
theorem Ew_toNodeS_1005 (a : List (Int × Int)) (outs : List (Int × Int)) (i : Int) : w_toNodeS_1005 a outs i =
  bif decide (i < (↑(List.length a) : Int)) then
    bif boundA i (List.length a) then
      bif boundA i (List.length outs) then
        bif Nat.blt (Int.toNat i) (List.length outs) then
          w_toNodeS_1005 a (List.set outs (Int.toNat i) ((List.getD a (Int.toNat i) (0, 0)).fst, (List.getD a (Int.toNat i) (0, 0)).snd)) (IntKind.wrap IntKind.i64 (i + 1))
        else
          none
      else
        none
    else
      none
  else
    w_toNodeS_1009 a outs ((↑(List.length a) : Int)) := by
  refine Lim.uniq (Lim.shift (Rlw_toNodeS_1005 a outs i)) (?_ : Lim (fun k => F11_1005 k ((l11 k).1) ((l11 k).2) a outs i) _)
  unfold F11_1005
  repeat' first | with_reducible exact Lim.ret _ | with_reducible exact Rlw_toNodeS_1005 _ _ _ | with_reducible exact Rlw_toNodeS_1009 _ _ _ | with_reducible refine Lim.cond ?_ ?_ | with_reducible refine Lim.bind ?_ fun _ => ?_
theorem Ew_toNodeS_1009 (a : List (Int × Int)) (outs : List (Int × Int)) (i : Int) : w_toNodeS_1009 a outs i =
  bif decide (i < (↑(List.length outs) : Int)) then
    bif boundA i (List.length outs) then
      bif Nat.blt (Int.toNat i) (List.length outs) then
        w_toNodeS_1009 a (List.set outs (Int.toNat i) (-7000000000000000101, -7000000000000000101)) (IntKind.wrap IntKind.i64 (i + 1))
      else
        none
    else
      none
  else
    bif boundE (↑(List.length a) : Int) (List.length outs) then
      some ((outs, Option.getD (some (Int.toNat (↑(List.length a) : Int))) (List.length outs)))
    else
      none := by
  refine Lim.uniq (Lim.shift (Rlw_toNodeS_1009 a outs i)) (?_ : Lim (fun k => F11_1009 k ((l11 k).1) ((l11 k).2) a outs i) _)
  unfold F11_1009
  repeat' first | with_reducible exact Lim.ret _ | with_reducible exact Rlw_toNodeS_1005 _ _ _ | with_reducible exact Rlw_toNodeS_1009 _ _ _ | with_reducible refine Lim.cond ?_ ?_ | with_reducible refine Lim.bind ?_ fun _ => ?_
noncomputable def w_toNodeS (a : List (Int × Int)) (bare : Bool) : Option (List (Int × Int) × Nat) :=
  bif bare then
    bif decide ((↑(List.length a) : Int) = 0) then
      some (([], 0))
    else
      (w_roomBehind (↑(List.length a) : Int)).bind fun r0 =>
      bif decide (0 ≤ IntKind.wrap IntKind.i64 ((↑(List.length a) : Int) + r0)) then
        bif decide (IntKind.wrap IntKind.i64 ((↑(List.length a) : Int) + r0) ≤ IntKind.wrap IntKind.i64 ((↑(List.length a) : Int) + r0)) then
          bif decide (IntKind.wrap IntKind.i64 ((↑(List.length a) : Int) + r0) * (↑16 : Int) ≤ 140737488355328) then
            w_toNodeS_1005 a (List.replicate (Int.toNat (IntKind.wrap IntKind.i64 ((↑(List.length a) : Int) + r0))) (dflt (Ty.pair (Ty.int IntKind.i64) (Ty.int IntKind.i64)))) (0)
          else
            none
        else
          none
      else
        none
  else
    (w_roomBehind (↑(List.length a) : Int)).bind fun r1 =>
    bif decide (0 ≤ IntKind.wrap IntKind.i64 ((↑(List.length a) : Int) + r1)) then
      bif decide (IntKind.wrap IntKind.i64 ((↑(List.length a) : Int) + r1) ≤ IntKind.wrap IntKind.i64 ((↑(List.length a) : Int) + r1)) then
        bif decide (IntKind.wrap IntKind.i64 ((↑(List.length a) : Int) + r1) * (↑16 : Int) ≤ 140737488355328) then
          w_toNodeS_1005 a (List.replicate (Int.toNat (IntKind.wrap IntKind.i64 ((↑(List.length a) : Int) + r1))) (dflt (Ty.pair (Ty.int IntKind.i64) (Ty.int IntKind.i64)))) (0)
        else
          none
      else
        none
    else
      none
theorem Mw_toNodeS (k : Nat) (a : List (Int × Int)) (bare : Bool) : Le (f11 k a bare) (f11 (k + 1) a bare) := by
  have h := Mlw_toNodeS k
  unfold f11 F11
  repeat' first | with_reducible exact Le.rfl _ | with_reducible exact Mw_roomBehind _ _ | with_reducible exact h.1 _ _ _ | with_reducible exact h.2 _ _ _ | with_reducible refine Le.cond ?_ ?_ | with_reducible refine Le.bind ?_ fun _ => ?_
theorem Rw_toNodeS (a : List (Int × Int)) (bare : Bool) : Lim (fun k => f11 k a bare) (w_toNodeS a bare) := by
  unfold f11 F11 w_toNodeS
  repeat' first | with_reducible exact Lim.ret _ | with_reducible exact Rw_roomBehind _ | with_reducible exact Rlw_toNodeS_1005 _ _ _ | with_reducible exact Rlw_toNodeS_1009 _ _ _ | with_reducible refine Lim.cond ?_ ?_ | with_reducible refine Lim.bind ?_ fun _ => ?_

-- impl.inside
noncomputable def i_inside (n : Int) (low : Int) (high : Int) : Option (Bool) :=
  bif decide (low ≤ n) then
    some (decide (n ≤ high))
  else
    some false
theorem Mi_inside (k : Nat) (n : Int) (low : Int) (high : Int) : Le (f65 k n low high) (f65 (k + 1) n low high) := by
  unfold f65
  repeat' first | with_reducible exact Le.rfl _ | with_reducible refine Le.cond ?_ ?_ | with_reducible refine Le.bind ?_ fun _ => ?_
theorem Ri_inside (n : Int) (low : Int) (high : Int) : Lim (fun k => f65 k n low high) (i_inside n low high) := by
  unfold f65 i_inside
  repeat' first | with_reducible exact Lim.ret _ | with_reducible refine Lim.cond ?_ ?_ | with_reducible refine Lim.bind ?_ fun _ => ?_

-- impl.isBox
theorem MFi_isBox_1005 (k : Nat) {r1005 q1005 : Int × List Int × List Int → Int → Bool → List Int → Int → Int → Option (Bool)} (h1005 : ∀ (L : Int × List Int × List Int) (t : Int) (t4 : Bool) (t48 : List Int) (t49 : Int) (t50 : Int), Le (r1005 L t t4 t48 t49 t50) (q1005 L t t4 t48 t49 t50)) (L : Int × List Int × List Int) (t : Int) (t4 : Bool) (t48 : List Int) (t49 : Int) (t50 : Int) : Le (F39_1005 k r1005 L t t4 t48 t49 t50) (F39_1005 (k + 1) q1005 L t t4 t48 t49 t50) := by
  unfold F39_1005
  repeat' first | with_reducible exact Le.rfl _ | with_reducible exact Mi_inside _ _ _ _ | with_reducible exact h1005 _ _ _ _ _ _ | with_reducible refine Le.cond ?_ ?_ | with_reducible refine Le.bind ?_ fun _ => ?_
theorem Mli_isBox : ∀ k : Nat, ∀ (L : Int × List Int × List Int) (t : Int) (t4 : Bool) (t48 : List Int) (t49 : Int) (t50 : Int), Le ((l39 k) L t t4 t48 t49 t50) ((l39 (k + 1)) L t t4 t48 t49 t50)
  | 0 => fun L t t4 t48 t49 t50 => Le.no _
  | k + 1 => by
    have h := Mli_isBox k
    exact fun L t t4 t48 t49 t50 => MFi_isBox_1005 k h L t t4 t48 t49 t50
noncomputable def i_isBox_1005 (L : Int × List Int × List Int) (t : Int) (t4 : Bool) (t48 : List Int) (t49 : Int) (t50 : Int) : Option (Bool) := lim fun k => (l39 k) L t t4 t48 t49 t50
theorem Rli_isBox_1005 (L : Int × List Int × List Int) (t : Int) (t4 : Bool) (t48 : List Int) (t49 : Int) (t50 : Int) : Lim (fun k => (l39 k) L t t4 t48 t49 t50) (i_isBox_1005 L t t4 t48 t49 t50) := Lim.of_mono fun k => Mli_isBox k L t t4 t48 t49 t50
theorem Ei_isBox_1005 (L : Int × List Int × List Int) (t : Int) (t4 : Bool) (t48 : List Int) (t49 : Int) (t50 : Int) : i_isBox_1005 L t t4 t48 t49 t50 =
  bif decide (t50 < t49) then
    bif boundA t50 (List.length t48) then
      (i_inside (List.getD t48 (Int.toNat t50) 0) (IntKind.wrap IntKind.i64 (0 - t)) t).bind fun r0 =>
      bif !r0 then
        some false
      else
        bif boundA t50 (List.length L.snd.snd) then
          (i_inside (List.getD L.snd.snd (Int.toNat t50) 0) (IntKind.wrap IntKind.i64 (List.getD t48 (Int.toNat t50) 0 + 1)) t).bind fun r1 =>
          bif !r1 then
            some false
          else
            bif t4 then
              i_isBox_1005 L t true t48 t49 (IntKind.wrap IntKind.i64 (t50 + 1))
            else
              bif !decide (Int.tmod (List.getD t48 (Int.toNat t50) 0) 2 = 0) then
                i_isBox_1005 L t true t48 t49 (IntKind.wrap IntKind.i64 (t50 + 1))
              else
                bif boundA t50 (List.length L.snd.snd) then
                  i_isBox_1005 L t (!decide (Int.tmod (List.getD L.snd.snd (Int.toNat t50) 0) 2 = 0)) t48 t49 (IntKind.wrap IntKind.i64 (t50 + 1))
                else
                  none
        else
          none
    else
      none
  else
    some t4 := by
  refine Lim.uniq (Lim.shift (Rli_isBox_1005 L t t4 t48 t49 t50)) (?_ : Lim (fun k => F39_1005 k ((l39 k)) L t t4 t48 t49 t50) _)
  unfold F39_1005
  repeat' first | with_reducible exact Lim.ret _ | with_reducible exact Ri_inside _ _ _ | with_reducible exact Rli_isBox_1005 _ _ _ _ _ _ | with_reducible refine Lim.cond ?_ ?_ | with_reducible refine Lim.bind ?_ fun _ => ?_
noncomputable def i_isBox (L : Int × (List (Int)) × List (Int)) : Option (Bool) :=
  (i_inside L.fst 0 8).bind fun r0 =>
  bif !r0 then
    some false
  else
    (i_inside (↑(List.length L.snd.fst) : Int) 1 3).bind fun r1 =>
    bif !r1 then
      some false
    else
      bif !decide ((↑(List.length L.snd.snd) : Int) = (↑(List.length L.snd.fst) : Int)) then
        some false
      else
        bif !decide (L.fst < 0) then
          i_isBox_1005 L (IntKind.wrap IntKind.i64 (8 * 2 ^ min (Int.toNat L.fst) (IntKind.bits IntKind.i64))) (decide (L.fst = 0)) (L.snd.fst) ((↑(List.length L.snd.fst) : Int)) (0)
        else
          none
theorem Mi_isBox (k : Nat) (L : Int × (List (Int)) × List (Int)) : Le (f39 k L) (f39 (k + 1) L) := by
  have h := Mli_isBox k
  unfold f39 F39
  repeat' first | with_reducible exact Le.rfl _ | with_reducible exact Mi_inside _ _ _ _ | with_reducible exact h _ _ _ _ _ _ | with_reducible refine Le.cond ?_ ?_ | with_reducible refine Le.bind ?_ fun _ => ?_
theorem Ri_isBox (L : Int × (List (Int)) × List (Int)) : Lim (fun k => f39 k L) (i_isBox L) := by
  unfold f39 F39 i_isBox
  repeat' first | with_reducible exact Lim.ret _ | with_reducible exact Ri_inside _ _ _ | with_reducible exact Rli_isBox_1005 _ _ _ _ _ _ | with_reducible refine Lim.cond ?_ ?_ | with_reducible refine Lim.bind ?_ fun _ => ?_

-- impl.treeEnd
theorem MFi_treeEnd_1002 (k : Nat) {r1002 q1002 : List (Int × Int) → Int → Int → Option (Int)} (h1002 : ∀ (l : List (Int × Int)) (place : Int) (open_ : Int), Le (r1002 l place open_) (q1002 l place open_)) (l : List (Int × Int)) (place : Int) (open_ : Int) : Le (F66_1002 k r1002 l place open_) (F66_1002 (k + 1) q1002 l place open_) := by
  unfold F66_1002
  repeat' first | with_reducible exact Le.rfl _ | with_reducible exact h1002 _ _ _ | with_reducible refine Le.cond ?_ ?_ | with_reducible refine Le.bind ?_ fun _ => ?_
theorem Mli_treeEnd : ∀ k : Nat, ∀ (l : List (Int × Int)) (place : Int) (open_ : Int), Le ((l66 k) l place open_) ((l66 (k + 1)) l place open_)
  | 0 => fun l place open_ => Le.no _
  | k + 1 => by
    have h := Mli_treeEnd k
    exact fun l place open_ => MFi_treeEnd_1002 k h l place open_
noncomputable def i_treeEnd_1002 (l : List (Int × Int)) (place : Int) (open_ : Int) : Option (Int) := lim fun k => (l66 k) l place open_
theorem Rli_treeEnd_1002 (l : List (Int × Int)) (place : Int) (open_ : Int) : Lim (fun k => (l66 k) l place open_) (i_treeEnd_1002 l place open_) := Lim.of_mono fun k => Mli_treeEnd k l place open_
theorem Ei_treeEnd_1002 (l : List (Int × Int)) (place : Int) (open_ : Int) : i_treeEnd_1002 l place open_ =
  bif decide (0 < open_) then
    bif decide (place = (↑(List.length l) : Int)) then
      some (-1)
    else
      bif boundA place (List.length l) then
        bif decide ((List.getD l (Int.toNat place) (0, 0)).fst = 0) then
          i_treeEnd_1002 l (IntKind.wrap IntKind.i64 (place + 1)) (IntKind.wrap IntKind.i64 (open_ + 1))
        else
          i_treeEnd_1002 l (IntKind.wrap IntKind.i64 (place + 1)) (IntKind.wrap IntKind.i64 (open_ - 1))
      else
        none
  else
    some place := by
  refine Lim.uniq (Lim.shift (Rli_treeEnd_1002 l place open_)) (?_ : Lim (fun k => F66_1002 k ((l66 k)) l place open_) _)
  unfold F66_1002
  repeat' first | with_reducible exact Lim.ret _ | with_reducible exact Rli_treeEnd_1002 _ _ _ | with_reducible refine Lim.cond ?_ ?_ | with_reducible refine Lim.bind ?_ fun _ => ?_
noncomputable def i_treeEnd (l : List (Int × Int)) (place : Int) : Option (Int) :=
  i_treeEnd_1002 l place (1)
theorem Mi_treeEnd (k : Nat) (l : List (Int × Int)) (place : Int) : Le (f66 k l place) (f66 (k + 1) l place) := by
  have h := Mli_treeEnd k
  unfold f66 F66
  repeat' first | with_reducible exact Le.rfl _ | with_reducible exact h _ _ _ | with_reducible refine Le.cond ?_ ?_ | with_reducible refine Le.bind ?_ fun _ => ?_
theorem Ri_treeEnd (l : List (Int × Int)) (place : Int) : Lim (fun k => f66 k l place) (i_treeEnd l place) := by
  unfold f66 F66 i_treeEnd
  repeat' first | with_reducible exact Lim.ret _ | with_reducible exact Rli_treeEnd_1002 _ _ _ | with_reducible refine Lim.cond ?_ ?_ | with_reducible refine Lim.bind ?_ fun _ => ?_

-- impl.pathsOf
theorem MFi_pathsOf_1004 (k : Nat) {r1004 q1004 : List ByteArray → List ByteArray → List (Int × Int) → Int → Int → Option (List (ByteArray))} (h1004 : ∀ (open_s : List ByteArray) (outs : List ByteArray) (t9 : List (Int × Int)) (t10 : Int) (t11 : Int), Le (r1004 open_s outs t9 t10 t11) (q1004 open_s outs t9 t10 t11)) (open_s : List ByteArray) (outs : List ByteArray) (t9 : List (Int × Int)) (t10 : Int) (t11 : Int) : Le (F67_1004 k r1004 open_s outs t9 t10 t11) (F67_1004 (k + 1) q1004 open_s outs t9 t10 t11) := by
  unfold F67_1004
  repeat' first | with_reducible exact Le.rfl _ | with_reducible exact h1004 _ _ _ _ _ | with_reducible refine Le.cond ?_ ?_ | with_reducible refine Le.bind ?_ fun _ => ?_
theorem Mli_pathsOf : ∀ k : Nat, ∀ (open_s : List ByteArray) (outs : List ByteArray) (t9 : List (Int × Int)) (t10 : Int) (t11 : Int), Le ((l67 k) open_s outs t9 t10 t11) ((l67 (k + 1)) open_s outs t9 t10 t11)
  | 0 => fun open_s outs t9 t10 t11 => Le.no _
  | k + 1 => by
    have h := Mli_pathsOf k
    exact fun open_s outs t9 t10 t11 => MFi_pathsOf_1004 k h open_s outs t9 t10 t11
noncomputable def i_pathsOf_1004 (open_s : List ByteArray) (outs : List ByteArray) (t9 : List (Int × Int)) (t10 : Int) (t11 : Int) : Option (List (ByteArray)) := lim fun k => (l67 k) open_s outs t9 t10 t11
theorem Rli_pathsOf_1004 (open_s : List ByteArray) (outs : List ByteArray) (t9 : List (Int × Int)) (t10 : Int) (t11 : Int) : Lim (fun k => (l67 k) open_s outs t9 t10 t11) (i_pathsOf_1004 open_s outs t9 t10 t11) := Lim.of_mono fun k => Mli_pathsOf k open_s outs t9 t10 t11
theorem Ei_pathsOf_1004 (open_s : List ByteArray) (outs : List ByteArray) (t9 : List (Int × Int)) (t10 : Int) (t11 : Int) : i_pathsOf_1004 open_s outs t9 t10 t11 =
  bif decide (t11 < t10) then
    bif boundA t11 (List.length t9) then
      bif boundA (IntKind.wrap IntKind.i64 ((↑(List.length open_s) : Int) - 1)) (List.length open_s) then
        bif Nat.blt (Int.toNat (IntKind.wrap IntKind.i64 ((↑(List.length open_s) : Int) - 1))) (List.length open_s) then
          bif boundE (IntKind.wrap IntKind.i64 ((↑(List.length open_s) : Int) - 1)) (List.length open_s) then
            bif decide ((List.length outs + List.length [List.getD open_s (Int.toNat (IntKind.wrap IntKind.i64 ((↑(List.length open_s) : Int) - 1))) ByteArray.empty]) * 16 ≤ 140737488355328) then
              bif decide ((List.getD t9 (Int.toNat t11) (0, 0)).fst = 0) then
                bif decide (ByteArray.size (List.getD open_s (Int.toNat (IntKind.wrap IntKind.i64 ((↑(List.length open_s) : Int) - 1))) ByteArray.empty) + ByteArray.size { data := #[117] } ≤ 9223372036854775807) then
                  bif decide (ByteArray.size (List.getD open_s (Int.toNat (IntKind.wrap IntKind.i64 ((↑(List.length open_s) : Int) - 1))) ByteArray.empty) + ByteArray.size { data := #[108] } ≤ 9223372036854775807) then
                    bif decide ((List.length (List.take (Int.toNat (IntKind.wrap IntKind.i64 ((↑(List.length open_s) : Int) - 1))) open_s) + List.length [List.getD open_s (Int.toNat (IntKind.wrap IntKind.i64 ((↑(List.length open_s) : Int) - 1))) ByteArray.empty ++ { data := #[117] }, List.getD open_s (Int.toNat (IntKind.wrap IntKind.i64 ((↑(List.length open_s) : Int) - 1))) ByteArray.empty ++ { data := #[108] }]) * 16 ≤ 140737488355328) then
                      i_pathsOf_1004 (List.take (Int.toNat (IntKind.wrap IntKind.i64 ((↑(List.length open_s) : Int) - 1))) open_s ++ [List.getD open_s (Int.toNat (IntKind.wrap IntKind.i64 ((↑(List.length open_s) : Int) - 1))) ByteArray.empty ++ { data := #[117] }, List.getD open_s (Int.toNat (IntKind.wrap IntKind.i64 ((↑(List.length open_s) : Int) - 1))) ByteArray.empty ++ { data := #[108] }]) (outs ++ [List.getD open_s (Int.toNat (IntKind.wrap IntKind.i64 ((↑(List.length open_s) : Int) - 1))) ByteArray.empty]) t9 t10 (IntKind.wrap IntKind.i64 (t11 + 1))
                    else
                      none
                  else
                    none
                else
                  none
              else
                i_pathsOf_1004 (List.take (Int.toNat (IntKind.wrap IntKind.i64 ((↑(List.length open_s) : Int) - 1))) open_s) (outs ++ [List.getD open_s (Int.toNat (IntKind.wrap IntKind.i64 ((↑(List.length open_s) : Int) - 1))) ByteArray.empty]) t9 t10 (IntKind.wrap IntKind.i64 (t11 + 1))
            else
              none
          else
            none
        else
          none
      else
        none
    else
      none
  else
    some outs := by
  refine Lim.uniq (Lim.shift (Rli_pathsOf_1004 open_s outs t9 t10 t11)) (?_ : Lim (fun k => F67_1004 k ((l67 k)) open_s outs t9 t10 t11) _)
  unfold F67_1004
  repeat' first | with_reducible exact Lim.ret _ | with_reducible exact Rli_pathsOf_1004 _ _ _ _ _ | with_reducible refine Lim.cond ?_ ?_ | with_reducible refine Lim.bind ?_ fun _ => ?_
noncomputable def i_pathsOf (l : List (Int × Int)) : Option (List (ByteArray)) :=
  i_pathsOf_1004 ([{ data := #[] }]) ([]) l ((↑(List.length l) : Int)) (0)
theorem Mi_pathsOf (k : Nat) (l : List (Int × Int)) : Le (f67 k l) (f67 (k + 1) l) := by
  have h := Mli_pathsOf k
  unfold f67 F67
  repeat' first | with_reducible exact Le.rfl _ | with_reducible exact h _ _ _ _ _ | with_reducible refine Le.cond ?_ ?_ | with_reducible refine Le.bind ?_ fun _ => ?_
theorem Ri_pathsOf (l : List (Int × Int)) : Lim (fun k => f67 k l) (i_pathsOf l) := by
  unfold f67 F67 i_pathsOf
  repeat' first | with_reducible exact Lim.ret _ | with_reducible exact Rli_pathsOf_1004 _ _ _ _ _ | with_reducible refine Lim.cond ?_ ?_ | with_reducible refine Lim.bind ?_ fun _ => ?_

-- impl.isNode
noncomputable def i_isNode (n_Kind : Int) (n_Number : Int) (sides : Int) : Option (Bool) :=
  bif decide (n_Kind = 0) then
    (i_inside n_Number 0 (IntKind.wrap IntKind.i64 (sides - 1))).bind fun r0 =>
    some r0
  else
    bif decide (n_Kind = 1) then
      bif decide (n_Kind = 1) then
        (i_inside n_Number 0 99).bind fun r1 =>
        some r1
      else
        bif decide (n_Kind = 3) then
          some (decide (n_Number = 0))
        else
          some false
    else
      bif decide (n_Kind = 2) then
        (i_inside n_Number 0 99).bind fun r2 =>
        some r2
      else
        bif decide (n_Kind = 3) then
          some (decide (n_Number = 0))
        else
          some false
theorem Mi_isNode (k : Nat) (n_Kind : Int) (n_Number : Int) (sides : Int) : Le (f68 k n_Kind n_Number sides) (f68 (k + 1) n_Kind n_Number sides) := by
  unfold f68
  repeat' first | with_reducible exact Le.rfl _ | with_reducible exact Mi_inside _ _ _ _ | with_reducible refine Le.cond ?_ ?_ | with_reducible refine Le.bind ?_ fun _ => ?_
theorem Ri_isNode (n_Kind : Int) (n_Number : Int) (sides : Int) : Lim (fun k => f68 k n_Kind n_Number sides) (i_isNode n_Kind n_Number sides) := by
  unfold f68 i_isNode
  repeat' first | with_reducible exact Lim.ret _ | with_reducible exact Ri_inside _ _ _ | with_reducible refine Lim.cond ?_ ?_ | with_reducible refine Lim.bind ?_ fun _ => ?_

-- impl.isTree
theorem MFi_isTree_1004 (k : Nat) {r1004 q1004 : List (Int × Int) → Int → List ByteArray → Int → Int → Option (Bool)} (h1004 : ∀ (l : List (Int × Int)) (sides : Int) (t23s : List ByteArray) (t24 : Int) (t25 : Int), Le (r1004 l sides t23s t24 t25) (q1004 l sides t23s t24 t25)) (l : List (Int × Int)) (sides : Int) (t23s : List ByteArray) (t24 : Int) (t25 : Int) : Le (F40_1004 k r1004 l sides t23s t24 t25) (F40_1004 (k + 1) q1004 l sides t23s t24 t25) := by
  unfold F40_1004
  repeat' first | with_reducible exact Le.rfl _ | with_reducible exact Mi_isNode _ _ _ _ | with_reducible exact h1004 _ _ _ _ _ | with_reducible refine Le.cond ?_ ?_ | with_reducible refine Le.bind ?_ fun _ => ?_
theorem Mli_isTree : ∀ k : Nat, ∀ (l : List (Int × Int)) (sides : Int) (t23s : List ByteArray) (t24 : Int) (t25 : Int), Le ((l40 k) l sides t23s t24 t25) ((l40 (k + 1)) l sides t23s t24 t25)
  | 0 => fun l sides t23s t24 t25 => Le.no _
  | k + 1 => by
    have h := Mli_isTree k
    exact fun l sides t23s t24 t25 => MFi_isTree_1004 k h l sides t23s t24 t25
noncomputable def i_isTree_1004 (l : List (Int × Int)) (sides : Int) (t23s : List ByteArray) (t24 : Int) (t25 : Int) : Option (Bool) := lim fun k => (l40 k) l sides t23s t24 t25
theorem Rli_isTree_1004 (l : List (Int × Int)) (sides : Int) (t23s : List ByteArray) (t24 : Int) (t25 : Int) : Lim (fun k => (l40 k) l sides t23s t24 t25) (i_isTree_1004 l sides t23s t24 t25) := Lim.of_mono fun k => Mli_isTree k l sides t23s t24 t25
theorem Ei_isTree_1004 (l : List (Int × Int)) (sides : Int) (t23s : List ByteArray) (t24 : Int) (t25 : Int) : i_isTree_1004 l sides t23s t24 t25 =
  bif decide (t25 < t24) then
    bif boundA t25 (List.length t23s) then
      bif Nat.blt (Int.toNat t25) (List.length t23s) then
        bif boundA t25 (List.length l) then
          (i_isNode (List.getD l (Int.toNat t25) (0, 0)).fst (List.getD l (Int.toNat t25) (0, 0)).snd sides).bind fun r0 =>
          bif !r0 then
            some false
          else
            bif decide (20 < (↑(ByteArray.size (List.getD t23s (Int.toNat t25) ByteArray.empty)) : Int)) then
              some false
            else
              i_isTree_1004 l sides t23s t24 (IntKind.wrap IntKind.i64 (t25 + 1))
        else
          none
      else
        none
    else
      none
  else
    some true := by
  refine Lim.uniq (Lim.shift (Rli_isTree_1004 l sides t23s t24 t25)) (?_ : Lim (fun k => F40_1004 k ((l40 k)) l sides t23s t24 t25) _)
  unfold F40_1004
  repeat' first | with_reducible exact Lim.ret _ | with_reducible exact Ri_isNode _ _ _ | with_reducible exact Rli_isTree_1004 _ _ _ _ _ | with_reducible refine Lim.cond ?_ ?_ | with_reducible refine Lim.bind ?_ fun _ => ?_
noncomputable def i_isTree (l : List (Int × Int)) (sides : Int) : Option (Bool) :=
  (i_inside sides 1 3).bind fun r0 =>
  bif !r0 then
    some false
  else
    bif decide (200 < (↑(List.length l) : Int)) then
      some false
    else
      (i_treeEnd l 0).bind fun r1 =>
      bif !decide (r1 = (↑(List.length l) : Int)) then
        some false
      else
        (i_pathsOf l).bind fun r2 =>
        i_isTree_1004 l sides r2 ((↑(List.length r2) : Int)) (0)
theorem Mi_isTree (k : Nat) (l : List (Int × Int)) (sides : Int) : Le (f40 k l sides) (f40 (k + 1) l sides) := by
  have h := Mli_isTree k
  unfold f40 F40
  repeat' first | with_reducible exact Le.rfl _ | with_reducible exact Mi_inside _ _ _ _ | with_reducible exact Mi_treeEnd _ _ _ | with_reducible exact Mi_pathsOf _ _ | with_reducible exact h _ _ _ _ _ | with_reducible refine Le.cond ?_ ?_ | with_reducible refine Le.bind ?_ fun _ => ?_
theorem Ri_isTree (l : List (Int × Int)) (sides : Int) : Lim (fun k => f40 k l sides) (i_isTree l sides) := by
  unfold f40 F40 i_isTree
  repeat' first | with_reducible exact Lim.ret _ | with_reducible exact Ri_inside _ _ _ | with_reducible exact Ri_treeEnd _ _ | with_reducible exact Ri_pathsOf _ | with_reducible exact Rli_isTree_1004 _ _ _ _ _ | with_reducible refine Lim.cond ?_ ?_ | with_reducible refine Lim.bind ?_ fun _ => ?_

-- impl.scaled
theorem MFi_scaled_1003 (k : Nat) {r1003 q1003 : Int → List Int → List Int → Int → Int → Option (List (Int))} (h1003 : ∀ (k_ : Int) (outs : List Int) (t8 : List Int) (t9 : Int) (t10 : Int), Le (r1003 k_ outs t8 t9 t10) (q1003 k_ outs t8 t9 t10)) (k_ : Int) (outs : List Int) (t8 : List Int) (t9 : Int) (t10 : Int) : Le (F87_1003 k r1003 k_ outs t8 t9 t10) (F87_1003 (k + 1) q1003 k_ outs t8 t9 t10) := by
  unfold F87_1003
  repeat' first | with_reducible exact Le.rfl _ | with_reducible exact h1003 _ _ _ _ _ | with_reducible refine Le.cond ?_ ?_ | with_reducible refine Le.bind ?_ fun _ => ?_
theorem Mli_scaled : ∀ k : Nat, ∀ (k_ : Int) (outs : List Int) (t8 : List Int) (t9 : Int) (t10 : Int), Le ((l87 k) k_ outs t8 t9 t10) ((l87 (k + 1)) k_ outs t8 t9 t10)
  | 0 => fun k_ outs t8 t9 t10 => Le.no _
  | k + 1 => by
    have h := Mli_scaled k
    exact fun k_ outs t8 t9 t10 => MFi_scaled_1003 k h k_ outs t8 t9 t10
noncomputable def i_scaled_1003 (k_ : Int) (outs : List Int) (t8 : List Int) (t9 : Int) (t10 : Int) : Option (List (Int)) := lim fun k => (l87 k) k_ outs t8 t9 t10
theorem Rli_scaled_1003 (k_ : Int) (outs : List Int) (t8 : List Int) (t9 : Int) (t10 : Int) : Lim (fun k => (l87 k) k_ outs t8 t9 t10) (i_scaled_1003 k_ outs t8 t9 t10) := Lim.of_mono fun k => Mli_scaled k k_ outs t8 t9 t10
theorem Ei_scaled_1003 (k_ : Int) (outs : List Int) (t8 : List Int) (t9 : Int) (t10 : Int) : i_scaled_1003 k_ outs t8 t9 t10 =
  bif decide (t10 < t9) then
    bif boundA t10 (List.length t8) then
      bif !decide (k_ < 0) then
        bif decide ((List.length outs + List.length [IntKind.wrap IntKind.i64 (List.getD t8 (Int.toNat t10) 0 * 2 ^ min (Int.toNat k_) (IntKind.bits IntKind.i64))]) * 8 ≤ 140737488355328) then
          i_scaled_1003 k_ (outs ++ [IntKind.wrap IntKind.i64 (List.getD t8 (Int.toNat t10) 0 * 2 ^ min (Int.toNat k_) (IntKind.bits IntKind.i64))]) t8 t9 (IntKind.wrap IntKind.i64 (t10 + 1))
        else
          none
      else
        none
    else
      none
  else
    some outs := by
  refine Lim.uniq (Lim.shift (Rli_scaled_1003 k_ outs t8 t9 t10)) (?_ : Lim (fun k => F87_1003 k ((l87 k)) k_ outs t8 t9 t10) _)
  unfold F87_1003
  repeat' first | with_reducible exact Lim.ret _ | with_reducible exact Rli_scaled_1003 _ _ _ _ _ | with_reducible refine Lim.cond ?_ ?_ | with_reducible refine Lim.bind ?_ fun _ => ?_
noncomputable def i_scaled (list : List (Int)) (k_ : Int) : Option (List (Int)) :=
  i_scaled_1003 k_ ([]) list ((↑(List.length list) : Int)) (0)
theorem Mi_scaled (k : Nat) (list : List (Int)) (k_ : Int) : Le (f87 k list k_) (f87 (k + 1) list k_) := by
  have h := Mli_scaled k
  unfold f87 F87
  repeat' first | with_reducible exact Le.rfl _ | with_reducible exact h _ _ _ _ _ | with_reducible refine Le.cond ?_ ?_ | with_reducible refine Le.bind ?_ fun _ => ?_
theorem Ri_scaled (list : List (Int)) (k_ : Int) : Lim (fun k => f87 k list k_) (i_scaled list k_) := by
  unfold f87 F87 i_scaled
  repeat' first | with_reducible exact Lim.ret _ | with_reducible exact Rli_scaled_1003 _ _ _ _ _ | with_reducible refine Lim.cond ?_ ?_ | with_reducible refine Lim.bind ?_ fun _ => ?_

-- slices.Clone[[]int,int]
noncomputable def slices_Clone_int_int (s : List (Int)) : Option (List (Int)) :=
  bif decide ((0 + List.length s) * 8 ≤ 140737488355328) then
    some s
  else
    none
theorem Mslices_Clone_int_int (k : Nat) (s : List (Int)) : Le (f88 k s) (f88 (k + 1) s) := by
  unfold f88
  repeat' first | with_reducible exact Le.rfl _ | with_reducible refine Le.cond ?_ ?_ | with_reducible refine Le.bind ?_ fun _ => ?_
theorem Rslices_Clone_int_int (s : List (Int)) : Lim (fun k => f88 k s) (slices_Clone_int_int s) := by
  unfold f88 slices_Clone_int_int
  repeat' first | with_reducible exact Lim.ret _ | with_reducible refine Lim.cond ?_ ?_ | with_reducible refine Lim.bind ?_ fun _ => ?_

-- impl.boxOf$1
noncomputable def i_boxOf_1 (n : Int) : Option (Bool) :=
  some (!decide (Int.tmod n 2 = 0))
theorem Mi_boxOf_1 (k : Nat) (n : Int) : Le (f98 k n) (f98 (k + 1) n) := by
  unfold f98
  repeat' first | with_reducible exact Le.rfl _ | with_reducible refine Le.cond ?_ ?_ | with_reducible refine Le.bind ?_ fun _ => ?_
theorem Ri_boxOf_1 (n : Int) : Lim (fun k => f98 k n) (i_boxOf_1 n) := by
  unfold f98 i_boxOf_1
  repeat' first | with_reducible exact Lim.ret _ | with_reducible refine Lim.cond ?_ ?_ | with_reducible refine Lim.bind ?_ fun _ => ?_

-- slices.IndexFunc[[]int,int]
theorem MFslices_IndexFunc_int_int_i_boxOf_1_1002 (k : Nat) {r1002 q1002 : List Int → Int → Int → Option (Int)} (h1002 : ∀ (s : List Int) (t7 : Int) (t8 : Int), Le (r1002 s t7 t8) (q1002 s t7 t8)) (s : List Int) (t7 : Int) (t8 : Int) : Le (F102_98_1002 k r1002 s t7 t8) (F102_98_1002 (k + 1) q1002 s t7 t8) := by
  unfold F102_98_1002
  repeat' first | with_reducible exact Le.rfl _ | with_reducible exact h1002 _ _ _ | with_reducible refine Le.cond ?_ ?_ | with_reducible refine Le.bind ?_ fun _ => ?_
theorem Mlslices_IndexFunc_int_int_i_boxOf_1 : ∀ k : Nat, ∀ (s : List Int) (t7 : Int) (t8 : Int), Le ((l102_98 k) s t7 t8) ((l102_98 (k + 1)) s t7 t8)
  | 0 => fun s t7 t8 => Le.no _
  | k + 1 => by
    have h := Mlslices_IndexFunc_int_int_i_boxOf_1 k
    exact fun s t7 t8 => MFslices_IndexFunc_int_int_i_boxOf_1_1002 k h s t7 t8
noncomputable def slices_IndexFunc_int_int_i_boxOf_1_1002 (s : List Int) (t7 : Int) (t8 : Int) : Option (Int) := lim fun k => (l102_98 k) s t7 t8
theorem Rlslices_IndexFunc_int_int_i_boxOf_1_1002 (s : List Int) (t7 : Int) (t8 : Int) : Lim (fun k => (l102_98 k) s t7 t8) (slices_IndexFunc_int_int_i_boxOf_1_1002 s t7 t8) := Lim.of_mono fun k => Mlslices_IndexFunc_int_int_i_boxOf_1 k s t7 t8
theorem Eslices_IndexFunc_int_int_i_boxOf_1_1002 (s : List Int) (t7 : Int) (t8 : Int) : slices_IndexFunc_int_int_i_boxOf_1_1002 s t7 t8 =
  bif decide (t8 < t7) then
    bif boundA t8 (List.length s) then
      bif !decide (Int.tmod (List.getD s (Int.toNat t8) 0) 2 = 0) then
        some t8
      else
        slices_IndexFunc_int_int_i_boxOf_1_1002 s t7 (IntKind.wrap IntKind.i64 (t8 + 1))
    else
      none
  else
    some (-1) := by
  refine Lim.uniq (Lim.shift (Rlslices_IndexFunc_int_int_i_boxOf_1_1002 s t7 t8)) (?_ : Lim (fun k => F102_98_1002 k ((l102_98 k)) s t7 t8) _)
  unfold F102_98_1002
  repeat' first | with_reducible exact Lim.ret _ | with_reducible exact Rlslices_IndexFunc_int_int_i_boxOf_1_1002 _ _ _ | with_reducible refine Lim.cond ?_ ?_ | with_reducible refine Lim.bind ?_ fun _ => ?_
noncomputable def slices_IndexFunc_int_int_i_boxOf_1 (s : List (Int)) : Option (Int) :=
  slices_IndexFunc_int_int_i_boxOf_1_1002 s ((↑(List.length s) : Int)) (0)
theorem Mslices_IndexFunc_int_int_i_boxOf_1 (k : Nat) (s : List (Int)) : Le (f102_98 k s) (f102_98 (k + 1) s) := by
  have h := Mlslices_IndexFunc_int_int_i_boxOf_1 k
  unfold f102_98 F102_98
  repeat' first | with_reducible exact Le.rfl _ | with_reducible exact h _ _ _ | with_reducible refine Le.cond ?_ ?_ | with_reducible refine Le.bind ?_ fun _ => ?_
theorem Rslices_IndexFunc_int_int_i_boxOf_1 (s : List (Int)) : Lim (fun k => f102_98 k s) (slices_IndexFunc_int_int_i_boxOf_1 s) := by
  unfold f102_98 F102_98 slices_IndexFunc_int_int_i_boxOf_1
  repeat' first | with_reducible exact Lim.ret _ | with_reducible exact Rlslices_IndexFunc_int_int_i_boxOf_1_1002 _ _ _ | with_reducible refine Lim.cond ?_ ?_ | with_reducible refine Lim.bind ?_ fun _ => ?_

-- slices.ContainsFunc[[]int,int]
noncomputable def slices_ContainsFunc_int_int_i_boxOf_1 (s : List (Int)) : Option (Bool) :=
  (slices_IndexFunc_int_int_i_boxOf_1 s).bind fun r0 =>
  some (decide (0 ≤ r0))
theorem Mslices_ContainsFunc_int_int_i_boxOf_1 (k : Nat) (s : List (Int)) : Le (f96_98 k s) (f96_98 (k + 1) s) := by
  unfold f96_98
  repeat' first | with_reducible exact Le.rfl _ | with_reducible exact Mslices_IndexFunc_int_int_i_boxOf_1 _ _ | with_reducible refine Le.cond ?_ ?_ | with_reducible refine Le.bind ?_ fun _ => ?_
theorem Rslices_ContainsFunc_int_int_i_boxOf_1 (s : List (Int)) : Lim (fun k => f96_98 k s) (slices_ContainsFunc_int_int_i_boxOf_1 s) := by
  unfold f96_98 slices_ContainsFunc_int_int_i_boxOf_1
  repeat' first | with_reducible exact Lim.ret _ | with_reducible exact Rslices_IndexFunc_int_int_i_boxOf_1 _ | with_reducible refine Lim.cond ?_ ?_ | with_reducible refine Lim.bind ?_ fun _ => ?_

-- slices.Grow[[]int,int]
noncomputable def slices_Grow_int_int (n : Int) : Option (List (Int)) :=
  bif decide (n < 0) then
    none
  else
    bif decide (0 < IntKind.wrap IntKind.i64 (n - IntKind.wrap IntKind.i64 (0 - (↑0 : Int)))) then
      bif decide (0 < IntKind.wrap IntKind.i64 (n - IntKind.wrap IntKind.i64 (0 - (↑0 : Int)))) then
        bif decide (Int.toNat (IntKind.wrap IntKind.i64 (n - IntKind.wrap IntKind.i64 (0 - (↑0 : Int)))) * 8 ≤ 140737488355328) then
          some (List.take (Int.toNat (↑0 : Int)) (List.replicate (Int.toNat (IntKind.wrap IntKind.i64 (n - IntKind.wrap IntKind.i64 (0 - (↑0 : Int))))) (dflt (Ty.int IntKind.i64))))
        else
          none
      else
        none
    else
      some ([])
theorem Mslices_Grow_int_int (k : Nat) (n : Int) : Le (f103 k n) (f103 (k + 1) n) := by
  unfold f103
  repeat' first | with_reducible exact Le.rfl _ | with_reducible refine Le.cond ?_ ?_ | with_reducible refine Le.bind ?_ fun _ => ?_
theorem Rslices_Grow_int_int (n : Int) : Lim (fun k => f103 k n) (slices_Grow_int_int n) := by
  unfold f103 slices_Grow_int_int
  repeat' first | with_reducible exact Lim.ret _ | with_reducible refine Lim.cond ?_ ?_ | with_reducible refine Lim.bind ?_ fun _ => ?_

-- slices.Concat[[]int,int]
theorem MFslices_Concat_int_int_1003 (k : Nat) {r1003 q1003 : List (List Int) → Int → List (List Int) → Int → Int → Option (List (Int))} (h1003 : ∀ (slices : List (List Int)) (size : Int) (t9 : List (List Int)) (t10 : Int) (t11 : Int), Le (r1003 slices size t9 t10 t11) (q1003 slices size t9 t10 t11)) {r1011 q1011 : List Int → List (List Int) → Int → Int → Option (List (Int))} (h1011 : ∀ (newslices : List Int) (t25 : List (List Int)) (t26 : Int) (t27 : Int), Le (r1011 newslices t25 t26 t27) (q1011 newslices t25 t26 t27)) (slices : List (List Int)) (size : Int) (t9 : List (List Int)) (t10 : Int) (t11 : Int) : Le (F97_1003 k r1003 r1011 slices size t9 t10 t11) (F97_1003 (k + 1) q1003 q1011 slices size t9 t10 t11) := by
  unfold F97_1003
  repeat' first | with_reducible exact Le.rfl _ | with_reducible exact Mslices_Grow_int_int _ _ | with_reducible exact h1003 _ _ _ _ _ | with_reducible exact h1011 _ _ _ _ | with_reducible refine Le.cond ?_ ?_ | with_reducible refine Le.bind ?_ fun _ => ?_
theorem MFslices_Concat_int_int_1011 (k : Nat) {r1003 q1003 : List (List Int) → Int → List (List Int) → Int → Int → Option (List (Int))} (h1003 : ∀ (slices : List (List Int)) (size : Int) (t9 : List (List Int)) (t10 : Int) (t11 : Int), Le (r1003 slices size t9 t10 t11) (q1003 slices size t9 t10 t11)) {r1011 q1011 : List Int → List (List Int) → Int → Int → Option (List (Int))} (h1011 : ∀ (newslices : List Int) (t25 : List (List Int)) (t26 : Int) (t27 : Int), Le (r1011 newslices t25 t26 t27) (q1011 newslices t25 t26 t27)) (newslices : List Int) (t25 : List (List Int)) (t26 : Int) (t27 : Int) : Le (F97_1011 k r1003 r1011 newslices t25 t26 t27) (F97_1011 (k + 1) q1003 q1011 newslices t25 t26 t27) := by
  unfold F97_1011
  repeat' first | with_reducible exact Le.rfl _ | with_reducible exact h1003 _ _ _ _ _ | with_reducible exact h1011 _ _ _ _ | with_reducible refine Le.cond ?_ ?_ | with_reducible refine Le.bind ?_ fun _ => ?_
theorem Mlslices_Concat_int_int : ∀ k : Nat, (∀ (slices : List (List Int)) (size : Int) (t9 : List (List Int)) (t10 : Int) (t11 : Int), Le ((l97 k).1 slices size t9 t10 t11) ((l97 (k + 1)).1 slices size t9 t10 t11)) ∧ (∀ (newslices : List Int) (t25 : List (List Int)) (t26 : Int) (t27 : Int), Le ((l97 k).2 newslices t25 t26 t27) ((l97 (k + 1)).2 newslices t25 t26 t27))
  | 0 => ⟨fun slices size t9 t10 t11 => Le.no _, fun newslices t25 t26 t27 => Le.no _⟩
  | k + 1 => by
    have h := Mlslices_Concat_int_int k
    exact ⟨fun slices size t9 t10 t11 => MFslices_Concat_int_int_1003 k h.1 h.2 slices size t9 t10 t11, fun newslices t25 t26 t27 => MFslices_Concat_int_int_1011 k h.1 h.2 newslices t25 t26 t27⟩
noncomputable def slices_Concat_int_int_1003 (slices : List (List Int)) (size : Int) (t9 : List (List Int)) (t10 : Int) (t11 : Int) : Option (List (Int)) := lim fun k => (l97 k).1 slices size t9 t10 t11
theorem Rlslices_Concat_int_int_1003 (slices : List (List Int)) (size : Int) (t9 : List (List Int)) (t10 : Int) (t11 : Int) : Lim (fun k => (l97 k).1 slices size t9 t10 t11) (slices_Concat_int_int_1003 slices size t9 t10 t11) := Lim.of_mono fun k => (Mlslices_Concat_int_int k).1 slices size t9 t10 t11
noncomputable def slices_Concat_int_int_1011 (newslices : List Int) (t25 : List (List Int)) (t26 : Int) (t27 : Int) : Option (List (Int)) := lim fun k => (l97 k).2 newslices t25 t26 t27
theorem Rlslices_Concat_int_int_1011 (newslices : List Int) (t25 : List (List Int)) (t26 : Int) (t27 : Int) : Lim (fun k => (l97 k).2 newslices t25 t26 t27) (slices_Concat_int_int_1011 newslices t25 t26 t27) := Lim.of_mono fun k => (Mlslices_Concat_int_int k).2 newslices t25 t26 t27
theorem Eslices_Concat_int_int_1003 (slices : List (List Int)) (size : Int) (t9 : List (List Int)) (t10 : Int) (t11 : Int) : slices_Concat_int_int_1003 slices size t9 t10 t11 =
  bif decide (t11 < t10) then
    bif boundA t11 (List.length t9) then
      bif decide (IntKind.wrap IntKind.i64 (size + (↑(List.length (List.getD t9 (Int.toNat t11) [])) : Int)) < 0) then
        none
      else
        slices_Concat_int_int_1003 slices (IntKind.wrap IntKind.i64 (size + (↑(List.length (List.getD t9 (Int.toNat t11) [])) : Int))) t9 t10 (IntKind.wrap IntKind.i64 (t11 + 1))
    else
      none
  else
    (slices_Grow_int_int size).bind fun r0 =>
    slices_Concat_int_int_1011 r0 slices ((↑(List.length slices) : Int)) (0) := by
  refine Lim.uniq (Lim.shift (Rlslices_Concat_int_int_1003 slices size t9 t10 t11)) (?_ : Lim (fun k => F97_1003 k ((l97 k).1) ((l97 k).2) slices size t9 t10 t11) _)
  unfold F97_1003
  repeat' first | with_reducible exact Lim.ret _ | with_reducible exact Rslices_Grow_int_int _ | with_reducible exact Rlslices_Concat_int_int_1003 _ _ _ _ _ | with_reducible exact Rlslices_Concat_int_int_1011 _ _ _ _ | with_reducible refine Lim.cond ?_ ?_ | with_reducible refine Lim.bind ?_ fun _ => ?_
theorem Eslices_Concat_int_int_1011 (newslices : List Int) (t25 : List (List Int)) (t26 : Int) (t27 : Int) : slices_Concat_int_int_1011 newslices t25 t26 t27 =
  bif decide (t27 < t26) then
    bif boundA t27 (List.length t25) then
      bif decide ((List.length newslices + List.length (List.getD t25 (Int.toNat t27) [])) * 8 ≤ 140737488355328) then
        slices_Concat_int_int_1011 (newslices ++ List.getD t25 (Int.toNat t27) []) t25 t26 (IntKind.wrap IntKind.i64 (t27 + 1))
      else
        none
    else
      none
  else
    some newslices := by
  refine Lim.uniq (Lim.shift (Rlslices_Concat_int_int_1011 newslices t25 t26 t27)) (?_ : Lim (fun k => F97_1011 k ((l97 k).1) ((l97 k).2) newslices t25 t26 t27) _)
  unfold F97_1011
  repeat' first | with_reducible exact Lim.ret _ | with_reducible exact Rlslices_Concat_int_int_1003 _ _ _ _ _ | with_reducible exact Rlslices_Concat_int_int_1011 _ _ _ _ | with_reducible refine Lim.cond ?_ ?_ | with_reducible refine Lim.bind ?_ fun _ => ?_
noncomputable def slices_Concat_int_int (slices : List (List (Int))) : Option (List (Int)) :=
  slices_Concat_int_int_1003 slices (0) slices ((↑(List.length slices) : Int)) (0)
theorem Mslices_Concat_int_int (k : Nat) (slices : List (List (Int))) : Le (f97 k slices) (f97 (k + 1) slices) := by
  have h := Mlslices_Concat_int_int k
  unfold f97 F97
  repeat' first | with_reducible exact Le.rfl _ | with_reducible exact h.1 _ _ _ _ _ | with_reducible exact h.2 _ _ _ _ | with_reducible refine Le.cond ?_ ?_ | with_reducible refine Le.bind ?_ fun _ => ?_
theorem Rslices_Concat_int_int (slices : List (List (Int))) : Lim (fun k => f97 k slices) (slices_Concat_int_int slices) := by
  unfold f97 F97 slices_Concat_int_int
  repeat' first | with_reducible exact Lim.ret _ | with_reducible exact Rlslices_Concat_int_int_1003 _ _ _ _ _ | with_reducible exact Rlslices_Concat_int_int_1011 _ _ _ _ | with_reducible refine Lim.cond ?_ ?_ | with_reducible refine Lim.bind ?_ fun _ => ?_

-- impl.boxOf
theorem MFi_boxOf_1002 (k : Nat) {r1002 q1002 : Int → Int → List Int → List Int → Option ((Int × (List (Int)) × List (Int)) × Bool)} (h1002 : ∀ (t6s_0 : Int) (bs_0 : Int) (bs : List Int) (bs' : List Int), Le (r1002 t6s_0 bs_0 bs bs') (q1002 t6s_0 bs_0 bs bs')) {r11008 q11008 : Int → Int → List Int → List Int → Int → Int → Option ((Int × (List (Int)) × List (Int)) × Bool)} (h11008 : ∀ (t6s_0 : Int) (bs_0 : Int) (bs : List Int) (bs' : List Int) (t46 : Int) (t47 : Int), Le (r11008 t6s_0 bs_0 bs bs' t46 t47) (q11008 t6s_0 bs_0 bs bs' t46 t47)) {r21008 q21008 : Int → Int → List Int → List Int → Int → Int → Option ((Int × (List (Int)) × List (Int)) × Bool)} (h21008 : ∀ (t6s_0 : Int) (bs_0 : Int) (bs : List Int) (bs' : List Int) (t46 : Int) (t47 : Int), Le (r21008 t6s_0 bs_0 bs bs' t46 t47) (q21008 t6s_0 bs_0 bs bs' t46 t47)) (t6s_0 : Int) (bs_0 : Int) (bs : List Int) (bs' : List Int) : Le (F89_1002 k r1002 r11008 r21008 t6s_0 bs_0 bs bs') (F89_1002 (k + 1) q1002 q11008 q21008 t6s_0 bs_0 bs bs') := by
  unfold F89_1002
  repeat' first | with_reducible exact Le.rfl _ | with_reducible exact Mi_isBox _ _ | with_reducible exact Mslices_ContainsFunc_int_int_i_boxOf_1 _ _ | with_reducible exact Mslices_Concat_int_int _ _ | with_reducible exact h1002 _ _ _ _ | with_reducible exact h11008 _ _ _ _ _ _ | with_reducible exact h21008 _ _ _ _ _ _ | with_reducible refine Le.cond ?_ ?_ | with_reducible refine Le.bind ?_ fun _ => ?_
theorem MFi_boxOf_11008 (k : Nat) {r1002 q1002 : Int → Int → List Int → List Int → Option ((Int × (List (Int)) × List (Int)) × Bool)} (h1002 : ∀ (t6s_0 : Int) (bs_0 : Int) (bs : List Int) (bs' : List Int), Le (r1002 t6s_0 bs_0 bs bs') (q1002 t6s_0 bs_0 bs bs')) {r11008 q11008 : Int → Int → List Int → List Int → Int → Int → Option ((Int × (List (Int)) × List (Int)) × Bool)} (h11008 : ∀ (t6s_0 : Int) (bs_0 : Int) (bs : List Int) (bs' : List Int) (t46 : Int) (t47 : Int), Le (r11008 t6s_0 bs_0 bs bs' t46 t47) (q11008 t6s_0 bs_0 bs bs' t46 t47)) {r21008 q21008 : Int → Int → List Int → List Int → Int → Int → Option ((Int × (List (Int)) × List (Int)) × Bool)} (h21008 : ∀ (t6s_0 : Int) (bs_0 : Int) (bs : List Int) (bs' : List Int) (t46 : Int) (t47 : Int), Le (r21008 t6s_0 bs_0 bs bs' t46 t47) (q21008 t6s_0 bs_0 bs bs' t46 t47)) (t6s_0 : Int) (bs_0 : Int) (bs : List Int) (bs' : List Int) (t46 : Int) (t47 : Int) : Le (F89_11008 k r1002 r11008 r21008 t6s_0 bs_0 bs bs' t46 t47) (F89_11008 (k + 1) q1002 q11008 q21008 t6s_0 bs_0 bs bs' t46 t47) := by
  unfold F89_11008
  repeat' first | with_reducible exact Le.rfl _ | with_reducible exact h1002 _ _ _ _ | with_reducible exact h11008 _ _ _ _ _ _ | with_reducible exact h21008 _ _ _ _ _ _ | with_reducible refine Le.cond ?_ ?_ | with_reducible refine Le.bind ?_ fun _ => ?_
theorem MFi_boxOf_21008 (k : Nat) {r1002 q1002 : Int → Int → List Int → List Int → Option ((Int × (List (Int)) × List (Int)) × Bool)} (h1002 : ∀ (t6s_0 : Int) (bs_0 : Int) (bs : List Int) (bs' : List Int), Le (r1002 t6s_0 bs_0 bs bs') (q1002 t6s_0 bs_0 bs bs')) {r11008 q11008 : Int → Int → List Int → List Int → Int → Int → Option ((Int × (List (Int)) × List (Int)) × Bool)} (h11008 : ∀ (t6s_0 : Int) (bs_0 : Int) (bs : List Int) (bs' : List Int) (t46 : Int) (t47 : Int), Le (r11008 t6s_0 bs_0 bs bs' t46 t47) (q11008 t6s_0 bs_0 bs bs' t46 t47)) {r21008 q21008 : Int → Int → List Int → List Int → Int → Int → Option ((Int × (List (Int)) × List (Int)) × Bool)} (h21008 : ∀ (t6s_0 : Int) (bs_0 : Int) (bs : List Int) (bs' : List Int) (t46 : Int) (t47 : Int), Le (r21008 t6s_0 bs_0 bs bs' t46 t47) (q21008 t6s_0 bs_0 bs bs' t46 t47)) (t6s_0 : Int) (bs_0 : Int) (bs : List Int) (bs' : List Int) (t46 : Int) (t47 : Int) : Le (F89_21008 k r1002 r11008 r21008 t6s_0 bs_0 bs bs' t46 t47) (F89_21008 (k + 1) q1002 q11008 q21008 t6s_0 bs_0 bs bs' t46 t47) := by
  unfold F89_21008
  repeat' first | with_reducible exact Le.rfl _ | with_reducible exact h1002 _ _ _ _ | with_reducible exact h11008 _ _ _ _ _ _ | with_reducible exact h21008 _ _ _ _ _ _ | with_reducible refine Le.cond ?_ ?_ | with_reducible refine Le.bind ?_ fun _ => ?_
theorem Mli_boxOf : ∀ k : Nat, (∀ (t6s_0 : Int) (bs_0 : Int) (bs : List Int) (bs' : List Int), Le ((l89 k).1 t6s_0 bs_0 bs bs') ((l89 (k + 1)).1 t6s_0 bs_0 bs bs')) ∧ (∀ (t6s_0 : Int) (bs_0 : Int) (bs : List Int) (bs' : List Int) (t46 : Int) (t47 : Int), Le ((l89 k).2.1 t6s_0 bs_0 bs bs' t46 t47) ((l89 (k + 1)).2.1 t6s_0 bs_0 bs bs' t46 t47)) ∧ (∀ (t6s_0 : Int) (bs_0 : Int) (bs : List Int) (bs' : List Int) (t46 : Int) (t47 : Int), Le ((l89 k).2.2 t6s_0 bs_0 bs bs' t46 t47) ((l89 (k + 1)).2.2 t6s_0 bs_0 bs bs' t46 t47))
  | 0 => ⟨fun t6s_0 bs_0 bs bs' => Le.no _, fun t6s_0 bs_0 bs bs' t46 t47 => Le.no _, fun t6s_0 bs_0 bs bs' t46 t47 => Le.no _⟩
  | k + 1 => by
    have h := Mli_boxOf k
    exact ⟨fun t6s_0 bs_0 bs bs' => MFi_boxOf_1002 k h.1 h.2.1 h.2.2 t6s_0 bs_0 bs bs', fun t6s_0 bs_0 bs bs' t46 t47 => MFi_boxOf_11008 k h.1 h.2.1 h.2.2 t6s_0 bs_0 bs bs' t46 t47, fun t6s_0 bs_0 bs bs' t46 t47 => MFi_boxOf_21008 k h.1 h.2.1 h.2.2 t6s_0 bs_0 bs bs' t46 t47⟩
noncomputable def i_boxOf_1002 (t6s_0 : Int) (bs_0 : Int) (bs : List Int) (bs' : List Int) : Option ((Int × (List (Int)) × List (Int)) × Bool) := lim fun k => (l89 k).1 t6s_0 bs_0 bs bs'
theorem Rli_boxOf_1002 (t6s_0 : Int) (bs_0 : Int) (bs : List Int) (bs' : List Int) : Lim (fun k => (l89 k).1 t6s_0 bs_0 bs bs') (i_boxOf_1002 t6s_0 bs_0 bs bs') := Lim.of_mono fun k => (Mli_boxOf k).1 t6s_0 bs_0 bs bs'
noncomputable def i_boxOf_11008 (t6s_0 : Int) (bs_0 : Int) (bs : List Int) (bs' : List Int) (t46 : Int) (t47 : Int) : Option ((Int × (List (Int)) × List (Int)) × Bool) := lim fun k => (l89 k).2.1 t6s_0 bs_0 bs bs' t46 t47
theorem Rli_boxOf_11008 (t6s_0 : Int) (bs_0 : Int) (bs : List Int) (bs' : List Int) (t46 : Int) (t47 : Int) : Lim (fun k => (l89 k).2.1 t6s_0 bs_0 bs bs' t46 t47) (i_boxOf_11008 t6s_0 bs_0 bs bs' t46 t47) := Lim.of_mono fun k => (Mli_boxOf k).2.1 t6s_0 bs_0 bs bs' t46 t47
noncomputable def i_boxOf_21008 (t6s_0 : Int) (bs_0 : Int) (bs : List Int) (bs' : List Int) (t46 : Int) (t47 : Int) : Option ((Int × (List (Int)) × List (Int)) × Bool) := lim fun k => (l89 k).2.2 t6s_0 bs_0 bs bs' t46 t47
theorem Rli_boxOf_21008 (t6s_0 : Int) (bs_0 : Int) (bs : List Int) (bs' : List Int) (t46 : Int) (t47 : Int) : Lim (fun k => (l89 k).2.2 t6s_0 bs_0 bs bs' t46 t47) (i_boxOf_21008 t6s_0 bs_0 bs bs' t46 t47) := Lim.of_mono fun k => (Mli_boxOf k).2.2 t6s_0 bs_0 bs bs' t46 t47
theorem Ei_boxOf_1002 (t6s_0 : Int) (bs_0 : Int) (bs : List Int) (bs' : List Int) : i_boxOf_1002 t6s_0 bs_0 bs bs' =
  bif decide (0 < bs_0) then
    (slices_Concat_int_int [bs, bs']).bind fun r0 =>
    (slices_ContainsFunc_int_int_i_boxOf_1 r0).bind fun r1 =>
    bif !r1 then
      i_boxOf_11008 t6s_0 (IntKind.wrap IntKind.i64 (bs_0 - 1)) bs bs' ((↑(List.length bs) : Int)) (0)
    else
      (i_isBox (bs_0, bs, bs')).bind fun r2 =>
      bif !r2 then
        some (((0, [], []), false))
      else
        some (((bs_0, bs, bs'), true))
  else
    (i_isBox (bs_0, bs, bs')).bind fun r3 =>
    bif !r3 then
      some (((0, [], []), false))
    else
      some (((bs_0, bs, bs'), true)) := by
  refine Lim.uniq (Lim.shift (Rli_boxOf_1002 t6s_0 bs_0 bs bs')) (?_ : Lim (fun k => F89_1002 k ((l89 k).1) ((l89 k).2.1) ((l89 k).2.2) t6s_0 bs_0 bs bs') _)
  unfold F89_1002
  repeat' first | with_reducible exact Lim.ret _ | with_reducible exact Ri_isBox _ | with_reducible exact Rslices_ContainsFunc_int_int_i_boxOf_1 _ | with_reducible exact Rslices_Concat_int_int _ | with_reducible exact Rli_boxOf_1002 _ _ _ _ | with_reducible exact Rli_boxOf_11008 _ _ _ _ _ _ | with_reducible exact Rli_boxOf_21008 _ _ _ _ _ _ | with_reducible refine Lim.cond ?_ ?_ | with_reducible refine Lim.bind ?_ fun _ => ?_
theorem Ei_boxOf_11008 (t6s_0 : Int) (bs_0 : Int) (bs : List Int) (bs' : List Int) (t46 : Int) (t47 : Int) : i_boxOf_11008 t6s_0 bs_0 bs bs' t46 t47 =
  bif decide (t47 < t46) then
    bif boundA t47 (List.length bs) then
      bif Nat.blt (Int.toNat t47) (List.length bs) then
        bif boundA t47 (List.length bs) then
          bif Nat.blt (Int.toNat t47) (List.length bs) then
            i_boxOf_11008 t6s_0 bs_0 (List.set bs (Int.toNat t47) (IntKind.wrap IntKind.i64 (Int.tdiv (List.getD bs (Int.toNat t47) 0) 2))) bs' t46 (IntKind.wrap IntKind.i64 (t47 + 1))
          else
            none
        else
          none
      else
        none
    else
      none
  else
    i_boxOf_21008 t6s_0 bs_0 bs bs' ((↑(List.length bs') : Int)) (0) := by
  refine Lim.uniq (Lim.shift (Rli_boxOf_11008 t6s_0 bs_0 bs bs' t46 t47)) (?_ : Lim (fun k => F89_11008 k ((l89 k).1) ((l89 k).2.1) ((l89 k).2.2) t6s_0 bs_0 bs bs' t46 t47) _)
  unfold F89_11008
  repeat' first | with_reducible exact Lim.ret _ | with_reducible exact Rli_boxOf_1002 _ _ _ _ | with_reducible exact Rli_boxOf_11008 _ _ _ _ _ _ | with_reducible exact Rli_boxOf_21008 _ _ _ _ _ _ | with_reducible refine Lim.cond ?_ ?_ | with_reducible refine Lim.bind ?_ fun _ => ?_
theorem Ei_boxOf_21008 (t6s_0 : Int) (bs_0 : Int) (bs : List Int) (bs' : List Int) (t46 : Int) (t47 : Int) : i_boxOf_21008 t6s_0 bs_0 bs bs' t46 t47 =
  bif decide (t47 < t46) then
    bif boundA t47 (List.length bs') then
      bif Nat.blt (Int.toNat t47) (List.length bs') then
        bif boundA t47 (List.length bs') then
          bif Nat.blt (Int.toNat t47) (List.length bs') then
            i_boxOf_21008 t6s_0 bs_0 bs (List.set bs' (Int.toNat t47) (IntKind.wrap IntKind.i64 (Int.tdiv (List.getD bs' (Int.toNat t47) 0) 2))) t46 (IntKind.wrap IntKind.i64 (t47 + 1))
          else
            none
        else
          none
      else
        none
    else
      none
  else
    i_boxOf_1002 t6s_0 bs_0 bs bs' := by
  refine Lim.uniq (Lim.shift (Rli_boxOf_21008 t6s_0 bs_0 bs bs' t46 t47)) (?_ : Lim (fun k => F89_21008 k ((l89 k).1) ((l89 k).2.1) ((l89 k).2.2) t6s_0 bs_0 bs bs' t46 t47) _)
  unfold F89_21008
  repeat' first | with_reducible exact Lim.ret _ | with_reducible exact Rli_boxOf_1002 _ _ _ _ | with_reducible exact Rli_boxOf_11008 _ _ _ _ _ _ | with_reducible exact Rli_boxOf_21008 _ _ _ _ _ _ | with_reducible refine Lim.cond ?_ ?_ | with_reducible refine Lim.bind ?_ fun _ => ?_
noncomputable def i_boxOf (k_ : Int) (low : List (Int)) (high : List (Int)) : Option ((Int × (List (Int)) × List (Int)) × Bool) :=
  (slices_Clone_int_int low).bind fun r0 =>
  (slices_Clone_int_int high).bind fun r1 =>
  i_boxOf_1002 (0) k_ r0 r1
theorem Mi_boxOf (k : Nat) (k_ : Int) (low : List (Int)) (high : List (Int)) : Le (f89 k k_ low high) (f89 (k + 1) k_ low high) := by
  have h := Mli_boxOf k
  unfold f89 F89
  repeat' first | with_reducible exact Le.rfl _ | with_reducible exact Mslices_Clone_int_int _ _ | with_reducible exact h.1 _ _ _ _ | with_reducible exact h.2.1 _ _ _ _ _ _ | with_reducible exact h.2.2 _ _ _ _ _ _ | with_reducible refine Le.cond ?_ ?_ | with_reducible refine Le.bind ?_ fun _ => ?_
theorem Ri_boxOf (k_ : Int) (low : List (Int)) (high : List (Int)) : Lim (fun k => f89 k k_ low high) (i_boxOf k_ low high) := by
  unfold f89 F89 i_boxOf
  repeat' first | with_reducible exact Lim.ret _ | with_reducible exact Rslices_Clone_int_int _ | with_reducible exact Rli_boxOf_1002 _ _ _ _ | with_reducible exact Rli_boxOf_11008 _ _ _ _ _ _ | with_reducible exact Rli_boxOf_21008 _ _ _ _ _ _ | with_reducible refine Lim.cond ?_ ?_ | with_reducible refine Lim.bind ?_ fun _ => ?_

-- impl.Box).halves
noncomputable def i_Box_halves (L : Int × (List (Int)) × List (Int)) (i : Int) : Option ((List (Int × (List (Int)) × List (Int))) × Bool) :=
  (i_scaled L.snd.fst 1).bind fun r0 =>
  (i_scaled L.snd.snd 1).bind fun r1 =>
  bif boundA i (List.length L.snd.fst) then
    bif boundA i (List.length L.snd.snd) then
      (slices_Clone_int_int r1).bind fun r2 =>
      (slices_Clone_int_int r0).bind fun r3 =>
      bif boundA i (List.length r2) then
        bif Nat.blt (Int.toNat i) (List.length r2) then
          bif boundA i (List.length r3) then
            bif Nat.blt (Int.toNat i) (List.length r3) then
              (i_boxOf (IntKind.wrap IntKind.i64 (L.fst + 1)) r0 (List.set r2 (Int.toNat i) (IntKind.wrap IntKind.i64 (List.getD L.snd.fst (Int.toNat i) 0 + List.getD L.snd.snd (Int.toNat i) 0)))).bind fun r4 =>
              (i_boxOf (IntKind.wrap IntKind.i64 (L.fst + 1)) (List.set r3 (Int.toNat i) (IntKind.wrap IntKind.i64 (List.getD L.snd.fst (Int.toNat i) 0 + List.getD L.snd.snd (Int.toNat i) 0))) r1).bind fun r5 =>
              bif !r4.snd then
                some (([], false))
              else
                bif !r5.snd then
                  some (([], false))
                else
                  some (([(r4.fst.fst, r4.fst.snd.fst, r4.fst.snd.snd), (r5.fst.fst, r5.fst.snd.fst, r5.fst.snd.snd)], true))
            else
              none
          else
            none
        else
          none
      else
        none
    else
      none
  else
    none
theorem Mi_Box_halves (k : Nat) (L : Int × (List (Int)) × List (Int)) (i : Int) : Le (f69 k L i) (f69 (k + 1) L i) := by
  unfold f69
  repeat' first | with_reducible exact Le.rfl _ | with_reducible exact Mi_scaled _ _ _ | with_reducible exact Mslices_Clone_int_int _ _ | with_reducible exact Mi_boxOf _ _ _ _ | with_reducible refine Le.cond ?_ ?_ | with_reducible refine Le.bind ?_ fun _ => ?_
theorem Ri_Box_halves (L : Int × (List (Int)) × List (Int)) (i : Int) : Lim (fun k => f69 k L i) (i_Box_halves L i) := by
  unfold f69 i_Box_halves
  repeat' first | with_reducible exact Lim.ret _ | with_reducible exact Ri_scaled _ _ | with_reducible exact Rslices_Clone_int_int _ | with_reducible exact Ri_boxOf _ _ _ | with_reducible refine Lim.cond ?_ ?_ | with_reducible refine Lim.bind ?_ fun _ => ?_

-- impl.copyBoxes
theorem MFi_copyBoxes_1003 (k : Nat) {r1003 q1003 : List (Int × List Int × List Int) → List (Int × List Int × List Int) → Int → Int → Option (List (Int × (List (Int)) × List (Int)))} (h1003 : ∀ (outs : List (Int × List Int × List Int)) (t6 : List (Int × List Int × List Int)) (t7 : Int) (t8 : Int), Le (r1003 outs t6 t7 t8) (q1003 outs t6 t7 t8)) (outs : List (Int × List Int × List Int)) (t6 : List (Int × List Int × List Int)) (t7 : Int) (t8 : Int) : Le (F70_1003 k r1003 outs t6 t7 t8) (F70_1003 (k + 1) q1003 outs t6 t7 t8) := by
  unfold F70_1003
  repeat' first | with_reducible exact Le.rfl _ | with_reducible exact Mslices_Clone_int_int _ _ | with_reducible exact h1003 _ _ _ _ | with_reducible refine Le.cond ?_ ?_ | with_reducible refine Le.bind ?_ fun _ => ?_
theorem Mli_copyBoxes : ∀ k : Nat, ∀ (outs : List (Int × List Int × List Int)) (t6 : List (Int × List Int × List Int)) (t7 : Int) (t8 : Int), Le ((l70 k) outs t6 t7 t8) ((l70 (k + 1)) outs t6 t7 t8)
  | 0 => fun outs t6 t7 t8 => Le.no _
  | k + 1 => by
    have h := Mli_copyBoxes k
    exact fun outs t6 t7 t8 => MFi_copyBoxes_1003 k h outs t6 t7 t8
noncomputable def i_copyBoxes_1003 (outs : List (Int × List Int × List Int)) (t6 : List (Int × List Int × List Int)) (t7 : Int) (t8 : Int) : Option (List (Int × (List (Int)) × List (Int))) := lim fun k => (l70 k) outs t6 t7 t8
theorem Rli_copyBoxes_1003 (outs : List (Int × List Int × List Int)) (t6 : List (Int × List Int × List Int)) (t7 : Int) (t8 : Int) : Lim (fun k => (l70 k) outs t6 t7 t8) (i_copyBoxes_1003 outs t6 t7 t8) := Lim.of_mono fun k => Mli_copyBoxes k outs t6 t7 t8
theorem Ei_copyBoxes_1003 (outs : List (Int × List Int × List Int)) (t6 : List (Int × List Int × List Int)) (t7 : Int) (t8 : Int) : i_copyBoxes_1003 outs t6 t7 t8 =
  bif decide (t8 < t7) then
    bif boundA t8 (List.length t6) then
      (slices_Clone_int_int (List.getD t6 (Int.toNat t8) (0, [], [])).snd.fst).bind fun r0 =>
      (slices_Clone_int_int (List.getD t6 (Int.toNat t8) (0, [], [])).snd.snd).bind fun r1 =>
      bif decide ((List.length outs + List.length [((List.getD t6 (Int.toNat t8) (0, [], [])).fst, r0, r1)]) * 56 ≤ 140737488355328) then
        i_copyBoxes_1003 (outs ++ [((List.getD t6 (Int.toNat t8) (0, [], [])).fst, r0, r1)]) t6 t7 (IntKind.wrap IntKind.i64 (t8 + 1))
      else
        none
    else
      none
  else
    some outs := by
  refine Lim.uniq (Lim.shift (Rli_copyBoxes_1003 outs t6 t7 t8)) (?_ : Lim (fun k => F70_1003 k ((l70 k)) outs t6 t7 t8) _)
  unfold F70_1003
  repeat' first | with_reducible exact Lim.ret _ | with_reducible exact Rslices_Clone_int_int _ | with_reducible exact Rli_copyBoxes_1003 _ _ _ _ | with_reducible refine Lim.cond ?_ ?_ | with_reducible refine Lim.bind ?_ fun _ => ?_
noncomputable def i_copyBoxes (l : List (Int × (List (Int)) × List (Int))) : Option (List (Int × (List (Int)) × List (Int))) :=
  i_copyBoxes_1003 ([]) l ((↑(List.length l) : Int)) (0)
theorem Mi_copyBoxes (k : Nat) (l : List (Int × (List (Int)) × List (Int))) : Le (f70 k l) (f70 (k + 1) l) := by
  have h := Mli_copyBoxes k
  unfold f70 F70
  repeat' first | with_reducible exact Le.rfl _ | with_reducible exact h _ _ _ _ | with_reducible refine Le.cond ?_ ?_ | with_reducible refine Le.bind ?_ fun _ => ?_
theorem Ri_copyBoxes (l : List (Int × (List (Int)) × List (Int))) : Lim (fun k => f70 k l) (i_copyBoxes l) := by
  unfold f70 F70 i_copyBoxes
  repeat' first | with_reducible exact Lim.ret _ | with_reducible exact Rli_copyBoxes_1003 _ _ _ _ | with_reducible refine Lim.cond ?_ ?_ | with_reducible refine Lim.bind ?_ fun _ => ?_

-- impl.leafBoxes
theorem MFi_leafBoxes_1004 (k : Nat) {r1004 q1004 : List (Int × List Int × List Int) → List (Int × List Int × List Int) → List (Int × Int) → Int → Int → Option ((List (Int × (List (Int)) × List (Int))) × Bool)} (h1004 : ∀ (open_s : List (Int × List Int × List Int)) (outs : List (Int × List Int × List Int)) (t17 : List (Int × Int)) (t18 : Int) (t19 : Int), Le (r1004 open_s outs t17 t18 t19) (q1004 open_s outs t17 t18 t19)) (open_s : List (Int × List Int × List Int)) (outs : List (Int × List Int × List Int)) (t17 : List (Int × Int)) (t18 : Int) (t19 : Int) : Le (F41_1004 k r1004 open_s outs t17 t18 t19) (F41_1004 (k + 1) q1004 open_s outs t17 t18 t19) := by
  unfold F41_1004
  repeat' first | with_reducible exact Le.rfl _ | with_reducible exact Mi_Box_halves _ _ _ | with_reducible exact Mi_copyBoxes _ _ | with_reducible exact h1004 _ _ _ _ _ | with_reducible refine Le.cond ?_ ?_ | with_reducible refine Le.bind ?_ fun _ => ?_
theorem Mli_leafBoxes : ∀ k : Nat, ∀ (open_s : List (Int × List Int × List Int)) (outs : List (Int × List Int × List Int)) (t17 : List (Int × Int)) (t18 : Int) (t19 : Int), Le ((l41 k) open_s outs t17 t18 t19) ((l41 (k + 1)) open_s outs t17 t18 t19)
  | 0 => fun open_s outs t17 t18 t19 => Le.no _
  | k + 1 => by
    have h := Mli_leafBoxes k
    exact fun open_s outs t17 t18 t19 => MFi_leafBoxes_1004 k h open_s outs t17 t18 t19
noncomputable def i_leafBoxes_1004 (open_s : List (Int × List Int × List Int)) (outs : List (Int × List Int × List Int)) (t17 : List (Int × Int)) (t18 : Int) (t19 : Int) : Option ((List (Int × (List (Int)) × List (Int))) × Bool) := lim fun k => (l41 k) open_s outs t17 t18 t19
theorem Rli_leafBoxes_1004 (open_s : List (Int × List Int × List Int)) (outs : List (Int × List Int × List Int)) (t17 : List (Int × Int)) (t18 : Int) (t19 : Int) : Lim (fun k => (l41 k) open_s outs t17 t18 t19) (i_leafBoxes_1004 open_s outs t17 t18 t19) := Lim.of_mono fun k => Mli_leafBoxes k open_s outs t17 t18 t19
theorem Ei_leafBoxes_1004 (open_s : List (Int × List Int × List Int)) (outs : List (Int × List Int × List Int)) (t17 : List (Int × Int)) (t18 : Int) (t19 : Int) : i_leafBoxes_1004 open_s outs t17 t18 t19 =
  bif decide (t19 < t18) then
    bif boundA t19 (List.length t17) then
      bif boundA (IntKind.wrap IntKind.i64 ((↑(List.length open_s) : Int) - 1)) (List.length open_s) then
        bif Nat.blt (Int.toNat (IntKind.wrap IntKind.i64 ((↑(List.length open_s) : Int) - 1))) (List.length open_s) then
          bif boundE (IntKind.wrap IntKind.i64 ((↑(List.length open_s) : Int) - 1)) (List.length open_s) then
            bif !decide ((List.getD t17 (Int.toNat t19) (0, 0)).fst = 0) then
              bif decide ((List.length outs + List.length [((List.getD open_s (Int.toNat (IntKind.wrap IntKind.i64 ((↑(List.length open_s) : Int) - 1))) (0, [], [])).fst, (List.getD open_s (Int.toNat (IntKind.wrap IntKind.i64 ((↑(List.length open_s) : Int) - 1))) (0, [], [])).snd.fst, (List.getD open_s (Int.toNat (IntKind.wrap IntKind.i64 ((↑(List.length open_s) : Int) - 1))) (0, [], [])).snd.snd)]) * 56 ≤ 140737488355328) then
                i_leafBoxes_1004 (List.take (Int.toNat (IntKind.wrap IntKind.i64 ((↑(List.length open_s) : Int) - 1))) open_s) (outs ++ [((List.getD open_s (Int.toNat (IntKind.wrap IntKind.i64 ((↑(List.length open_s) : Int) - 1))) (0, [], [])).fst, (List.getD open_s (Int.toNat (IntKind.wrap IntKind.i64 ((↑(List.length open_s) : Int) - 1))) (0, [], [])).snd.fst, (List.getD open_s (Int.toNat (IntKind.wrap IntKind.i64 ((↑(List.length open_s) : Int) - 1))) (0, [], [])).snd.snd)]) t17 t18 (IntKind.wrap IntKind.i64 (t19 + 1))
              else
                none
            else
              (i_Box_halves ((List.getD open_s (Int.toNat (IntKind.wrap IntKind.i64 ((↑(List.length open_s) : Int) - 1))) (0, [], [])).fst, (List.getD open_s (Int.toNat (IntKind.wrap IntKind.i64 ((↑(List.length open_s) : Int) - 1))) (0, [], [])).snd.fst, (List.getD open_s (Int.toNat (IntKind.wrap IntKind.i64 ((↑(List.length open_s) : Int) - 1))) (0, [], [])).snd.snd) (List.getD t17 (Int.toNat t19) (0, 0)).snd).bind fun r0 =>
              bif !r0.snd then
                some (([], false))
              else
                bif boundA 1 (List.length r0.fst) then
                  bif Nat.blt (Int.toNat 1) (List.length r0.fst) then
                    bif boundA 0 (List.length r0.fst) then
                      bif Nat.blt (Int.toNat 0) (List.length r0.fst) then
                        bif decide ((List.length (List.take (Int.toNat (IntKind.wrap IntKind.i64 ((↑(List.length open_s) : Int) - 1))) open_s) + List.length [((List.getD r0.fst (Int.toNat 1) (0, [], [])).fst, (List.getD r0.fst (Int.toNat 1) (0, [], [])).snd.fst, (List.getD r0.fst (Int.toNat 1) (0, [], [])).snd.snd), ((List.getD r0.fst (Int.toNat 0) (0, [], [])).fst, (List.getD r0.fst (Int.toNat 0) (0, [], [])).snd.fst, (List.getD r0.fst (Int.toNat 0) (0, [], [])).snd.snd)]) * 56 ≤ 140737488355328) then
                          i_leafBoxes_1004 (List.take (Int.toNat (IntKind.wrap IntKind.i64 ((↑(List.length open_s) : Int) - 1))) open_s ++ [((List.getD r0.fst (Int.toNat 1) (0, [], [])).fst, (List.getD r0.fst (Int.toNat 1) (0, [], [])).snd.fst, (List.getD r0.fst (Int.toNat 1) (0, [], [])).snd.snd), ((List.getD r0.fst (Int.toNat 0) (0, [], [])).fst, (List.getD r0.fst (Int.toNat 0) (0, [], [])).snd.fst, (List.getD r0.fst (Int.toNat 0) (0, [], [])).snd.snd)]) outs t17 t18 (IntKind.wrap IntKind.i64 (t19 + 1))
                        else
                          none
                      else
                        none
                    else
                      none
                  else
                    none
                else
                  none
          else
            none
        else
          none
      else
        none
    else
      none
  else
    (i_copyBoxes outs).bind fun r1 =>
    some ((r1, true)) := by
  refine Lim.uniq (Lim.shift (Rli_leafBoxes_1004 open_s outs t17 t18 t19)) (?_ : Lim (fun k => F41_1004 k ((l41 k)) open_s outs t17 t18 t19) _)
  unfold F41_1004
  repeat' first | with_reducible exact Lim.ret _ | with_reducible exact Ri_Box_halves _ _ | with_reducible exact Ri_copyBoxes _ | with_reducible exact Rli_leafBoxes_1004 _ _ _ _ _ | with_reducible refine Lim.cond ?_ ?_ | with_reducible refine Lim.bind ?_ fun _ => ?_
noncomputable def i_leafBoxes (b : Int × (List (Int)) × List (Int)) (l : List (Int × Int)) : Option ((List (Int × (List (Int)) × List (Int))) × Bool) :=
  i_leafBoxes_1004 ([(b.fst, b.snd.fst, b.snd.snd)]) ([]) l ((↑(List.length l) : Int)) (0)
theorem Mi_leafBoxes (k : Nat) (b : Int × (List (Int)) × List (Int)) (l : List (Int × Int)) : Le (f41 k b l) (f41 (k + 1) b l) := by
  have h := Mli_leafBoxes k
  unfold f41 F41
  repeat' first | with_reducible exact Le.rfl _ | with_reducible exact h _ _ _ _ _ | with_reducible refine Le.cond ?_ ?_ | with_reducible refine Le.bind ?_ fun _ => ?_
theorem Ri_leafBoxes (b : Int × (List (Int)) × List (Int)) (l : List (Int × Int)) : Lim (fun k => f41 k b l) (i_leafBoxes b l) := by
  unfold f41 F41 i_leafBoxes
  repeat' first | with_reducible exact Lim.ret _ | with_reducible exact Rli_leafBoxes_1004 _ _ _ _ _ | with_reducible refine Lim.cond ?_ ?_ | with_reducible refine Lim.bind ?_ fun _ => ?_

-- impl.BoxesOf
noncomputable def i_BoxesOf (b_K : Int) (b_Low : List (Int)) (b_High : List (Int)) (l : List (Int × Int)) : Option ((List (Int × (List (Int)) × List (Int))) × Bool) :=
  (i_isBox (b_K, b_Low, b_High)).bind fun r0 =>
  bif !r0 then
    some (([], false))
  else
    (i_isTree l (↑(List.length b_Low) : Int)).bind fun r1 =>
    bif !r1 then
      some (([], false))
    else
      (i_leafBoxes (b_K, b_Low, b_High) l).bind fun r2 =>
      some ((r2.fst, r2.snd))
theorem Mi_BoxesOf (k : Nat) (b_K : Int) (b_Low : List (Int)) (b_High : List (Int)) (l : List (Int × Int)) : Le (f12 k b_K b_Low b_High l) (f12 (k + 1) b_K b_Low b_High l) := by
  unfold f12
  repeat' first | with_reducible exact Le.rfl _ | with_reducible exact Mi_isBox _ _ | with_reducible exact Mi_isTree _ _ _ | with_reducible exact Mi_leafBoxes _ _ _ | with_reducible refine Le.cond ?_ ?_ | with_reducible refine Le.bind ?_ fun _ => ?_
theorem Ri_BoxesOf (b_K : Int) (b_Low : List (Int)) (b_High : List (Int)) (l : List (Int × Int)) : Lim (fun k => f12 k b_K b_Low b_High l) (i_BoxesOf b_K b_Low b_High l) := by
  unfold f12 i_BoxesOf
  repeat' first | with_reducible exact Lim.ret _ | with_reducible exact Ri_isBox _ | with_reducible exact Ri_isTree _ _ | with_reducible exact Ri_leafBoxes _ _ | with_reducible refine Lim.cond ?_ ?_ | with_reducible refine Lim.bind ?_ fun _ => ?_

-- laws.eqIntS
theorem MFw_eqIntS_1004 (k : Nat) {r1004 q1004 : List Int → List Int → Int → Option (Bool)} (h1004 : ∀ (a : List Int) (b : List Int) (i : Int), Le (r1004 a b i) (q1004 a b i)) (a : List Int) (b : List Int) (i : Int) : Le (F56_1004 k r1004 a b i) (F56_1004 (k + 1) q1004 a b i) := by
  unfold F56_1004
  repeat' first | with_reducible exact Le.rfl _ | with_reducible exact h1004 _ _ _ | with_reducible refine Le.cond ?_ ?_ | with_reducible refine Le.bind ?_ fun _ => ?_
theorem Mlw_eqIntS : ∀ k : Nat, ∀ (a : List Int) (b : List Int) (i : Int), Le ((l56 k) a b i) ((l56 (k + 1)) a b i)
  | 0 => fun a b i => Le.no _
  | k + 1 => by
    have h := Mlw_eqIntS k
    exact fun a b i => MFw_eqIntS_1004 k h a b i
noncomputable def w_eqIntS_1004 (a : List Int) (b : List Int) (i : Int) : Option (Bool) := lim fun k => (l56 k) a b i
theorem Rlw_eqIntS_1004 (a : List Int) (b : List Int) (i : Int) : Lim (fun k => (l56 k) a b i) (w_eqIntS_1004 a b i) := Lim.of_mono fun k => Mlw_eqIntS k a b i
theorem Ew_eqIntS_1004 (a : List Int) (b : List Int) (i : Int) : w_eqIntS_1004 a b i =
  bif decide (i < (↑(List.length a) : Int)) then
    bif boundA i (List.length a) then
      bif boundA i (List.length b) then
        bif !decide (List.getD a (Int.toNat i) 0 = List.getD b (Int.toNat i) 0) then
          some false
        else
          w_eqIntS_1004 a b (IntKind.wrap IntKind.i64 (i + 1))
      else
        none
    else
      none
  else
    some true := by
  refine Lim.uniq (Lim.shift (Rlw_eqIntS_1004 a b i)) (?_ : Lim (fun k => F56_1004 k ((l56 k)) a b i) _)
  unfold F56_1004
  repeat' first | with_reducible exact Lim.ret _ | with_reducible exact Rlw_eqIntS_1004 _ _ _ | with_reducible refine Lim.cond ?_ ?_ | with_reducible refine Lim.bind ?_ fun _ => ?_
noncomputable def w_eqIntS (a : List (Int)) (b : List (Int)) : Option (Bool) :=
  bif !decide ((↑(List.length a) : Int) = (↑(List.length b) : Int)) then
    some false
  else
    w_eqIntS_1004 a b (0)
theorem Mw_eqIntS (k : Nat) (a : List (Int)) (b : List (Int)) : Le (f56 k a b) (f56 (k + 1) a b) := by
  have h := Mlw_eqIntS k
  unfold f56 F56
  repeat' first | with_reducible exact Le.rfl _ | with_reducible exact h _ _ _ | with_reducible refine Le.cond ?_ ?_ | with_reducible refine Le.bind ?_ fun _ => ?_
theorem Rw_eqIntS (a : List (Int)) (b : List (Int)) : Lim (fun k => f56 k a b) (w_eqIntS a b) := by
  unfold f56 F56 w_eqIntS
  repeat' first | with_reducible exact Lim.ret _ | with_reducible exact Rlw_eqIntS_1004 _ _ _ | with_reducible refine Lim.cond ?_ ?_ | with_reducible refine Lim.bind ?_ fun _ => ?_

-- laws.eqBox
noncomputable def w_eqBox (a_K : Int) (a_Low : List (Int)) (a_High : List (Int)) (b_K : Int) (b_Low : List (Int)) (b_High : List (Int)) : Option (Bool) :=
  bif !decide (a_K = b_K) then
    some false
  else
    (w_eqIntS a_Low b_Low).bind fun r0 =>
    bif !r0 then
      some false
    else
      (w_eqIntS a_High b_High).bind fun r1 =>
      bif !r1 then
        some false
      else
        some true
theorem Mw_eqBox (k : Nat) (a_K : Int) (a_Low : List (Int)) (a_High : List (Int)) (b_K : Int) (b_Low : List (Int)) (b_High : List (Int)) : Le (f24 k a_K a_Low a_High b_K b_Low b_High) (f24 (k + 1) a_K a_Low a_High b_K b_Low b_High) := by
  unfold f24
  repeat' first | with_reducible exact Le.rfl _ | with_reducible exact Mw_eqIntS _ _ _ | with_reducible refine Le.cond ?_ ?_ | with_reducible refine Le.bind ?_ fun _ => ?_
theorem Rw_eqBox (a_K : Int) (a_Low : List (Int)) (a_High : List (Int)) (b_K : Int) (b_Low : List (Int)) (b_High : List (Int)) : Lim (fun k => f24 k a_K a_Low a_High b_K b_Low b_High) (w_eqBox a_K a_Low a_High b_K b_Low b_High) := by
  unfold f24 w_eqBox
  repeat' first | with_reducible exact Lim.ret _ | with_reducible exact Rw_eqIntS _ _ | with_reducible refine Lim.cond ?_ ?_ | with_reducible refine Lim.bind ?_ fun _ => ?_

-- laws.eqBoxS
theorem MFw_eqBoxS_1004 (k : Nat) {r1004 q1004 : List (Int × List Int × List Int) → List (Int × List Int × List Int) → Int → Option (Bool)} (h1004 : ∀ (a : List (Int × List Int × List Int)) (b : List (Int × List Int × List Int)) (i : Int), Le (r1004 a b i) (q1004 a b i)) (a : List (Int × List Int × List Int)) (b : List (Int × List Int × List Int)) (i : Int) : Le (F13_1004 k r1004 a b i) (F13_1004 (k + 1) q1004 a b i) := by
  unfold F13_1004
  repeat' first | with_reducible exact Le.rfl _ | with_reducible exact Mw_eqBox _ _ _ _ _ _ _ | with_reducible exact h1004 _ _ _ | with_reducible refine Le.cond ?_ ?_ | with_reducible refine Le.bind ?_ fun _ => ?_
theorem Mlw_eqBoxS : ∀ k : Nat, ∀ (a : List (Int × List Int × List Int)) (b : List (Int × List Int × List Int)) (i : Int), Le ((l13 k) a b i) ((l13 (k + 1)) a b i)
  | 0 => fun a b i => Le.no _
  | k + 1 => by
    have h := Mlw_eqBoxS k
    exact fun a b i => MFw_eqBoxS_1004 k h a b i
noncomputable def w_eqBoxS_1004 (a : List (Int × List Int × List Int)) (b : List (Int × List Int × List Int)) (i : Int) : Option (Bool) := lim fun k => (l13 k) a b i
theorem Rlw_eqBoxS_1004 (a : List (Int × List Int × List Int)) (b : List (Int × List Int × List Int)) (i : Int) : Lim (fun k => (l13 k) a b i) (w_eqBoxS_1004 a b i) := Lim.of_mono fun k => Mlw_eqBoxS k a b i
theorem Ew_eqBoxS_1004 (a : List (Int × List Int × List Int)) (b : List (Int × List Int × List Int)) (i : Int) : w_eqBoxS_1004 a b i =
  bif decide (i < (↑(List.length a) : Int)) then
    bif boundA i (List.length a) then
      bif boundA i (List.length b) then
        (w_eqBox (List.getD a (Int.toNat i) (0, [], [])).fst (List.getD a (Int.toNat i) (0, [], [])).snd.fst (List.getD a (Int.toNat i) (0, [], [])).snd.snd (List.getD b (Int.toNat i) (0, [], [])).fst (List.getD b (Int.toNat i) (0, [], [])).snd.fst (List.getD b (Int.toNat i) (0, [], [])).snd.snd).bind fun r0 =>
        bif !r0 then
          some false
        else
          w_eqBoxS_1004 a b (IntKind.wrap IntKind.i64 (i + 1))
      else
        none
    else
      none
  else
    some true := by
  refine Lim.uniq (Lim.shift (Rlw_eqBoxS_1004 a b i)) (?_ : Lim (fun k => F13_1004 k ((l13 k)) a b i) _)
  unfold F13_1004
  repeat' first | with_reducible exact Lim.ret _ | with_reducible exact Rw_eqBox _ _ _ _ _ _ | with_reducible exact Rlw_eqBoxS_1004 _ _ _ | with_reducible refine Lim.cond ?_ ?_ | with_reducible refine Lim.bind ?_ fun _ => ?_
noncomputable def w_eqBoxS (a : List (Int × (List (Int)) × List (Int))) (b : List (Int × (List (Int)) × List (Int))) : Option (Bool) :=
  bif !decide ((↑(List.length a) : Int) = (↑(List.length b) : Int)) then
    some false
  else
    w_eqBoxS_1004 a b (0)
theorem Mw_eqBoxS (k : Nat) (a : List (Int × (List (Int)) × List (Int))) (b : List (Int × (List (Int)) × List (Int))) : Le (f13 k a b) (f13 (k + 1) a b) := by
  have h := Mlw_eqBoxS k
  unfold f13 F13
  repeat' first | with_reducible exact Le.rfl _ | with_reducible exact h _ _ _ | with_reducible refine Le.cond ?_ ?_ | with_reducible refine Le.bind ?_ fun _ => ?_
theorem Rw_eqBoxS (a : List (Int × (List (Int)) × List (Int))) (b : List (Int × (List (Int)) × List (Int))) : Lim (fun k => f13 k a b) (w_eqBoxS a b) := by
  unfold f13 F13 w_eqBoxS
  repeat' first | with_reducible exact Lim.ret _ | with_reducible exact Rlw_eqBoxS_1004 _ _ _ | with_reducible refine Lim.cond ?_ ?_ | with_reducible refine Lim.bind ?_ fun _ => ?_

-- laws.intactIntS
noncomputable def w_intactIntS (x : List (Int)) (x_n : Nat) (y : List (Int)) (y_n : Nat) : Option (Bool) :=
  (w_roomBehind (↑y_n : Int)).bind fun r0 =>
  bif decide ((↑x_n : Int) = (↑y_n : Int)) then
    bif boundE (IntKind.wrap IntKind.i64 ((↑y_n : Int) + r0)) (List.length x) then
      bif decide (0 ≤ 0) && decide (0 ≤ IntKind.wrap IntKind.i64 ((↑y_n : Int) + r0)) then
        bif boundE (IntKind.wrap IntKind.i64 ((↑y_n : Int) + r0)) (List.length y) then
          bif decide (0 ≤ 0) && decide (0 ≤ IntKind.wrap IntKind.i64 ((↑y_n : Int) + r0)) then
            (w_eqIntS (List.drop (Int.toNat 0) (List.take (Int.toNat (IntKind.wrap IntKind.i64 ((↑y_n : Int) + r0))) x)) (List.drop (Int.toNat 0) (List.take (Int.toNat (IntKind.wrap IntKind.i64 ((↑y_n : Int) + r0))) y))).bind fun r1 =>
            some r1
          else
            none
        else
          none
      else
        none
    else
      none
  else
    some false
theorem Mw_intactIntS (k : Nat) (x : List (Int)) (x_n : Nat) (y : List (Int)) (y_n : Nat) : Le (f42 k x x_n y y_n) (f42 (k + 1) x x_n y y_n) := by
  unfold f42
  repeat' first | with_reducible exact Le.rfl _ | with_reducible exact Mw_roomBehind _ _ | with_reducible exact Mw_eqIntS _ _ _ | with_reducible refine Le.cond ?_ ?_ | with_reducible refine Le.bind ?_ fun _ => ?_
theorem Rw_intactIntS (x : List (Int)) (x_n : Nat) (y : List (Int)) (y_n : Nat) : Lim (fun k => f42 k x x_n y y_n) (w_intactIntS x x_n y y_n) := by
  unfold f42 w_intactIntS
  repeat' first | with_reducible exact Lim.ret _ | with_reducible exact Rw_roomBehind _ | with_reducible exact Rw_eqIntS _ _ | with_reducible refine Lim.cond ?_ ?_ | with_reducible refine Lim.bind ?_ fun _ => ?_

-- laws.intactBox
noncomputable def w_intactBox (x_K : Int) (x_Low : List (Int)) (x_Low_n : Nat) (x_High : List (Int)) (x_High_n : Nat) (y_K : Int) (y_Low : List (Int)) (y_Low_n : Nat) (y_High : List (Int)) (y_High_n : Nat) : Option (Bool) :=
  bif !decide (x_K = y_K) then
    some false
  else
    (w_intactIntS x_Low x_Low_n y_Low y_Low_n).bind fun r0 =>
    bif !r0 then
      some false
    else
      (w_intactIntS x_High x_High_n y_High y_High_n).bind fun r1 =>
      bif !r1 then
        some false
      else
        some true
theorem Mw_intactBox (k : Nat) (x_K : Int) (x_Low : List (Int)) (x_Low_n : Nat) (x_High : List (Int)) (x_High_n : Nat) (y_K : Int) (y_Low : List (Int)) (y_Low_n : Nat) (y_High : List (Int)) (y_High_n : Nat) : Le (f14 k x_K x_Low x_Low_n x_High x_High_n y_K y_Low y_Low_n y_High y_High_n) (f14 (k + 1) x_K x_Low x_Low_n x_High x_High_n y_K y_Low y_Low_n y_High y_High_n) := by
  unfold f14
  repeat' first | with_reducible exact Le.rfl _ | with_reducible exact Mw_intactIntS _ _ _ _ _ | with_reducible refine Le.cond ?_ ?_ | with_reducible refine Le.bind ?_ fun _ => ?_
theorem Rw_intactBox (x_K : Int) (x_Low : List (Int)) (x_Low_n : Nat) (x_High : List (Int)) (x_High_n : Nat) (y_K : Int) (y_Low : List (Int)) (y_Low_n : Nat) (y_High : List (Int)) (y_High_n : Nat) : Lim (fun k => f14 k x_K x_Low x_Low_n x_High x_High_n y_K y_Low y_Low_n y_High y_High_n) (w_intactBox x_K x_Low x_Low_n x_High x_High_n y_K y_Low y_Low_n y_High y_High_n) := by
  unfold f14 w_intactBox
  repeat' first | with_reducible exact Lim.ret _ | with_reducible exact Rw_intactIntS _ _ _ _ | with_reducible refine Lim.cond ?_ ?_ | with_reducible refine Lim.bind ?_ fun _ => ?_

-- laws.eqNode
noncomputable def w_eqNode (a_Kind : Int) (a_Number : Int) (b_Kind : Int) (b_Number : Int) : Option (Bool) :=
  bif !decide (a_Kind = b_Kind) then
    some false
  else
    bif !decide (a_Number = b_Number) then
      some false
    else
      some true
theorem Mw_eqNode (k : Nat) (a_Kind : Int) (a_Number : Int) (b_Kind : Int) (b_Number : Int) : Le (f71 k a_Kind a_Number b_Kind b_Number) (f71 (k + 1) a_Kind a_Number b_Kind b_Number) := by
  unfold f71
  repeat' first | with_reducible exact Le.rfl _ | with_reducible refine Le.cond ?_ ?_ | with_reducible refine Le.bind ?_ fun _ => ?_
theorem Rw_eqNode (a_Kind : Int) (a_Number : Int) (b_Kind : Int) (b_Number : Int) : Lim (fun k => f71 k a_Kind a_Number b_Kind b_Number) (w_eqNode a_Kind a_Number b_Kind b_Number) := by
  unfold f71 w_eqNode
  repeat' first | with_reducible exact Lim.ret _ | with_reducible refine Lim.cond ?_ ?_ | with_reducible refine Lim.bind ?_ fun _ => ?_

-- laws.eqNodeS
theorem MFw_eqNodeS_1004 (k : Nat) {r1004 q1004 : List (Int × Int) → List (Int × Int) → Int → Option (Bool)} (h1004 : ∀ (a : List (Int × Int)) (b : List (Int × Int)) (i : Int), Le (r1004 a b i) (q1004 a b i)) (a : List (Int × Int)) (b : List (Int × Int)) (i : Int) : Le (F43_1004 k r1004 a b i) (F43_1004 (k + 1) q1004 a b i) := by
  unfold F43_1004
  repeat' first | with_reducible exact Le.rfl _ | with_reducible exact Mw_eqNode _ _ _ _ _ | with_reducible exact h1004 _ _ _ | with_reducible refine Le.cond ?_ ?_ | with_reducible refine Le.bind ?_ fun _ => ?_
theorem Mlw_eqNodeS : ∀ k : Nat, ∀ (a : List (Int × Int)) (b : List (Int × Int)) (i : Int), Le ((l43 k) a b i) ((l43 (k + 1)) a b i)
  | 0 => fun a b i => Le.no _
  | k + 1 => by
    have h := Mlw_eqNodeS k
    exact fun a b i => MFw_eqNodeS_1004 k h a b i
noncomputable def w_eqNodeS_1004 (a : List (Int × Int)) (b : List (Int × Int)) (i : Int) : Option (Bool) := lim fun k => (l43 k) a b i
theorem Rlw_eqNodeS_1004 (a : List (Int × Int)) (b : List (Int × Int)) (i : Int) : Lim (fun k => (l43 k) a b i) (w_eqNodeS_1004 a b i) := Lim.of_mono fun k => Mlw_eqNodeS k a b i
theorem Ew_eqNodeS_1004 (a : List (Int × Int)) (b : List (Int × Int)) (i : Int) : w_eqNodeS_1004 a b i =
  bif decide (i < (↑(List.length a) : Int)) then
    bif boundA i (List.length a) then
      bif boundA i (List.length b) then
        (w_eqNode (List.getD a (Int.toNat i) (0, 0)).fst (List.getD a (Int.toNat i) (0, 0)).snd (List.getD b (Int.toNat i) (0, 0)).fst (List.getD b (Int.toNat i) (0, 0)).snd).bind fun r0 =>
        bif !r0 then
          some false
        else
          w_eqNodeS_1004 a b (IntKind.wrap IntKind.i64 (i + 1))
      else
        none
    else
      none
  else
    some true := by
  refine Lim.uniq (Lim.shift (Rlw_eqNodeS_1004 a b i)) (?_ : Lim (fun k => F43_1004 k ((l43 k)) a b i) _)
  unfold F43_1004
  repeat' first | with_reducible exact Lim.ret _ | with_reducible exact Rw_eqNode _ _ _ _ | with_reducible exact Rlw_eqNodeS_1004 _ _ _ | with_reducible refine Lim.cond ?_ ?_ | with_reducible refine Lim.bind ?_ fun _ => ?_
noncomputable def w_eqNodeS (a : List (Int × Int)) (b : List (Int × Int)) : Option (Bool) :=
  bif !decide ((↑(List.length a) : Int) = (↑(List.length b) : Int)) then
    some false
  else
    w_eqNodeS_1004 a b (0)
theorem Mw_eqNodeS (k : Nat) (a : List (Int × Int)) (b : List (Int × Int)) : Le (f43 k a b) (f43 (k + 1) a b) := by
  have h := Mlw_eqNodeS k
  unfold f43 F43
  repeat' first | with_reducible exact Le.rfl _ | with_reducible exact h _ _ _ | with_reducible refine Le.cond ?_ ?_ | with_reducible refine Le.bind ?_ fun _ => ?_
theorem Rw_eqNodeS (a : List (Int × Int)) (b : List (Int × Int)) : Lim (fun k => f43 k a b) (w_eqNodeS a b) := by
  unfold f43 F43 w_eqNodeS
  repeat' first | with_reducible exact Lim.ret _ | with_reducible exact Rlw_eqNodeS_1004 _ _ _ | with_reducible refine Lim.cond ?_ ?_ | with_reducible refine Lim.bind ?_ fun _ => ?_

-- laws.intactNodeS
noncomputable def w_intactNodeS (x : List (Int × Int)) (x_n : Nat) (y : List (Int × Int)) (y_n : Nat) : Option (Bool) :=
  (w_roomBehind (↑y_n : Int)).bind fun r0 =>
  bif decide ((↑x_n : Int) = (↑y_n : Int)) then
    bif boundE (IntKind.wrap IntKind.i64 ((↑y_n : Int) + r0)) (List.length x) then
      bif decide (0 ≤ 0) && decide (0 ≤ IntKind.wrap IntKind.i64 ((↑y_n : Int) + r0)) then
        bif boundE (IntKind.wrap IntKind.i64 ((↑y_n : Int) + r0)) (List.length y) then
          bif decide (0 ≤ 0) && decide (0 ≤ IntKind.wrap IntKind.i64 ((↑y_n : Int) + r0)) then
            (w_eqNodeS (List.drop (Int.toNat 0) (List.take (Int.toNat (IntKind.wrap IntKind.i64 ((↑y_n : Int) + r0))) x)) (List.drop (Int.toNat 0) (List.take (Int.toNat (IntKind.wrap IntKind.i64 ((↑y_n : Int) + r0))) y))).bind fun r1 =>
            some r1
          else
            none
        else
          none
      else
        none
    else
      none
  else
    some false
theorem Mw_intactNodeS (k : Nat) (x : List (Int × Int)) (x_n : Nat) (y : List (Int × Int)) (y_n : Nat) : Le (f15 k x x_n y y_n) (f15 (k + 1) x x_n y y_n) := by
  unfold f15
  repeat' first | with_reducible exact Le.rfl _ | with_reducible exact Mw_roomBehind _ _ | with_reducible exact Mw_eqNodeS _ _ _ | with_reducible refine Le.cond ?_ ?_ | with_reducible refine Le.bind ?_ fun _ => ?_
theorem Rw_intactNodeS (x : List (Int × Int)) (x_n : Nat) (y : List (Int × Int)) (y_n : Nat) : Lim (fun k => f15 k x x_n y y_n) (w_intactNodeS x x_n y y_n) := by
  unfold f15 w_intactNodeS
  repeat' first | with_reducible exact Lim.ret _ | with_reducible exact Rw_roomBehind _ | with_reducible exact Rw_eqNodeS _ _ | with_reducible refine Lim.cond ?_ ?_ | with_reducible refine Lim.bind ?_ fun _ => ?_

-- laws.markIntS
theorem MFw_markIntS_1002 (k : Nat) {r1002 q1002 : Nat → Int → Int → List Int → Option (((List (Int))) × Int)} (h1002 : ∀ (a_n : Nat) (k_ : Int) (i : Int) (p3 : List Int), Le (r1002 a_n k_ i p3) (q1002 a_n k_ i p3)) (a_n : Nat) (k_ : Int) (i : Int) (p3 : List Int) : Le (F44_1002 k r1002 a_n k_ i p3) (F44_1002 (k + 1) q1002 a_n k_ i p3) := by
  unfold F44_1002
  repeat' first | with_reducible exact Le.rfl _ | with_reducible exact h1002 _ _ _ _ | with_reducible refine Le.cond ?_ ?_ | with_reducible refine Le.bind ?_ fun _ => ?_
theorem Mlw_markIntS : ∀ k : Nat, ∀ (a_n : Nat) (k_ : Int) (i : Int) (p3 : List Int), Le ((l44 k) a_n k_ i p3) ((l44 (k + 1)) a_n k_ i p3)
  | 0 => fun a_n k_ i p3 => Le.no _
  | k + 1 => by
    have h := Mlw_markIntS k
    exact fun a_n k_ i p3 => MFw_markIntS_1002 k h a_n k_ i p3
noncomputable def w_markIntS_1002 (a_n : Nat) (k_ : Int) (i : Int) (p3 : List Int) : Option (((List (Int))) × Int) := lim fun k => (l44 k) a_n k_ i p3
theorem Rlw_markIntS_1002 (a_n : Nat) (k_ : Int) (i : Int) (p3 : List Int) : Lim (fun k => (l44 k) a_n k_ i p3) (w_markIntS_1002 a_n k_ i p3) := Lim.of_mono fun k => Mlw_markIntS k a_n k_ i p3
theorem Ew_markIntS_1002 (a_n : Nat) (k_ : Int) (i : Int) (p3 : List Int) : w_markIntS_1002 a_n k_ i p3 =
  bif decide (i < (↑a_n : Int)) then
    bif boundA i a_n then
      bif Nat.ble a_n (List.length p3) then
        bif Nat.blt (Int.toNat i) (List.length p3) then
          w_markIntS_1002 a_n (IntKind.wrap IntKind.i64 (k_ + 1)) (IntKind.wrap IntKind.i64 (i + 1)) (List.set p3 (Int.toNat i) k_)
        else
          none
      else
        none
    else
      none
  else
    some ((p3, k_)) := by
  refine Lim.uniq (Lim.shift (Rlw_markIntS_1002 a_n k_ i p3)) (?_ : Lim (fun k => F44_1002 k ((l44 k)) a_n k_ i p3) _)
  unfold F44_1002
  repeat' first | with_reducible exact Lim.ret _ | with_reducible exact Rlw_markIntS_1002 _ _ _ _ | with_reducible refine Lim.cond ?_ ?_ | with_reducible refine Lim.bind ?_ fun _ => ?_
noncomputable def w_markIntS (a : List (Int)) (a_n : Nat) (k_ : Int) : Option (((List (Int))) × Int) :=
  w_markIntS_1002 a_n k_ (0) a
theorem Mw_markIntS (k : Nat) (a : List (Int)) (a_n : Nat) (k_ : Int) : Le (f44 k a a_n k_) (f44 (k + 1) a a_n k_) := by
  have h := Mlw_markIntS k
  unfold f44 F44
  repeat' first | with_reducible exact Le.rfl _ | with_reducible exact h _ _ _ _ | with_reducible refine Le.cond ?_ ?_ | with_reducible refine Le.bind ?_ fun _ => ?_
theorem Rw_markIntS (a : List (Int)) (a_n : Nat) (k_ : Int) : Lim (fun k => f44 k a a_n k_) (w_markIntS a a_n k_) := by
  unfold f44 F44 w_markIntS
  repeat' first | with_reducible exact Lim.ret _ | with_reducible exact Rlw_markIntS_1002 _ _ _ _ | with_reducible refine Lim.cond ?_ ?_ | with_reducible refine Lim.bind ?_ fun _ => ?_

-- laws.markIntS
theorem MFw_markIntS_x0_1002 (k : Nat) {r1002 q1002 : Int → Int → List Int → Option (((List (Int))) × Int)} (h1002 : ∀ (k_ : Int) (i : Int) (p3 : List Int), Le (r1002 k_ i p3) (q1002 k_ i p3)) (k_ : Int) (i : Int) (p3 : List Int) : Le (F44_0_1002 k r1002 k_ i p3) (F44_0_1002 (k + 1) q1002 k_ i p3) := by
  unfold F44_0_1002
  repeat' first | with_reducible exact Le.rfl _ | with_reducible exact h1002 _ _ _ | with_reducible refine Le.cond ?_ ?_ | with_reducible refine Le.bind ?_ fun _ => ?_
theorem Mlw_markIntS_x0 : ∀ k : Nat, ∀ (k_ : Int) (i : Int) (p3 : List Int), Le ((l44_0 k) k_ i p3) ((l44_0 (k + 1)) k_ i p3)
  | 0 => fun k_ i p3 => Le.no _
  | k + 1 => by
    have h := Mlw_markIntS_x0 k
    exact fun k_ i p3 => MFw_markIntS_x0_1002 k h k_ i p3
noncomputable def w_markIntS_x0_1002 (k_ : Int) (i : Int) (p3 : List Int) : Option (((List (Int))) × Int) := lim fun k => (l44_0 k) k_ i p3
theorem Rlw_markIntS_x0_1002 (k_ : Int) (i : Int) (p3 : List Int) : Lim (fun k => (l44_0 k) k_ i p3) (w_markIntS_x0_1002 k_ i p3) := Lim.of_mono fun k => Mlw_markIntS_x0 k k_ i p3
theorem Ew_markIntS_x0_1002 (k_ : Int) (i : Int) (p3 : List Int) : w_markIntS_x0_1002 k_ i p3 =
  bif decide (i < (↑(List.length p3) : Int)) then
    bif boundA i (List.length p3) then
      bif Nat.blt (Int.toNat i) (List.length p3) then
        w_markIntS_x0_1002 (IntKind.wrap IntKind.i64 (k_ + 1)) (IntKind.wrap IntKind.i64 (i + 1)) (List.set p3 (Int.toNat i) k_)
      else
        none
    else
      none
  else
    some ((p3, k_)) := by
  refine Lim.uniq (Lim.shift (Rlw_markIntS_x0_1002 k_ i p3)) (?_ : Lim (fun k => F44_0_1002 k ((l44_0 k)) k_ i p3) _)
  unfold F44_0_1002
  repeat' first | with_reducible exact Lim.ret _ | with_reducible exact Rlw_markIntS_x0_1002 _ _ _ | with_reducible refine Lim.cond ?_ ?_ | with_reducible refine Lim.bind ?_ fun _ => ?_
noncomputable def w_markIntS_x0 (a : List (Int)) (k_ : Int) : Option (((List (Int))) × Int) :=
  w_markIntS_x0_1002 k_ (0) a
theorem Mw_markIntS_x0 (k : Nat) (a : List (Int)) (k_ : Int) : Le (f44_0 k a k_) (f44_0 (k + 1) a k_) := by
  have h := Mlw_markIntS_x0 k
  unfold f44_0 F44_0
  repeat' first | with_reducible exact Le.rfl _ | with_reducible exact h _ _ _ | with_reducible refine Le.cond ?_ ?_ | with_reducible refine Le.bind ?_ fun _ => ?_
theorem Rw_markIntS_x0 (a : List (Int)) (k_ : Int) : Lim (fun k => f44_0 k a k_) (w_markIntS_x0 a k_) := by
  unfold f44_0 F44_0 w_markIntS_x0
  repeat' first | with_reducible exact Lim.ret _ | with_reducible exact Rlw_markIntS_x0_1002 _ _ _ | with_reducible refine Lim.cond ?_ ?_ | with_reducible refine Lim.bind ?_ fun _ => ?_

-- laws.markBox
noncomputable def w_markBox (a_Low : List (Int)) (a_High : List (Int)) (a_K : Int) (a_Low_n : Nat) (a_High_n : Nat) (k_ : Int) : Option (((List (Int)) × (List (Int))) × Int) :=
  (w_markIntS a_Low a_Low_n k_).bind fun r0 =>
  (w_markIntS a_High a_High_n r0.snd).bind fun r1 =>
  some (((r0.fst, r1.fst), r1.snd))
theorem Mw_markBox (k : Nat) (a_Low : List (Int)) (a_High : List (Int)) (a_K : Int) (a_Low_n : Nat) (a_High_n : Nat) (k_ : Int) : Le (f16 k a_Low a_High a_K a_Low_n a_High_n k_) (f16 (k + 1) a_Low a_High a_K a_Low_n a_High_n k_) := by
  unfold f16
  repeat' first | with_reducible exact Le.rfl _ | with_reducible exact Mw_markIntS _ _ _ _ | with_reducible refine Le.cond ?_ ?_ | with_reducible refine Le.bind ?_ fun _ => ?_
theorem Rw_markBox (a_Low : List (Int)) (a_High : List (Int)) (a_K : Int) (a_Low_n : Nat) (a_High_n : Nat) (k_ : Int) : Lim (fun k => f16 k a_Low a_High a_K a_Low_n a_High_n k_) (w_markBox a_Low a_High a_K a_Low_n a_High_n k_) := by
  unfold f16 w_markBox
  repeat' first | with_reducible exact Lim.ret _ | with_reducible exact Rw_markIntS _ _ _ | with_reducible refine Lim.cond ?_ ?_ | with_reducible refine Lim.bind ?_ fun _ => ?_

-- laws.markBox
noncomputable def w_markBox_x0 (a_Low : List (Int)) (a_High : List (Int)) (a_K : Int) (k_ : Int) : Option (((List (Int)) × (List (Int))) × Int) :=
  (w_markIntS_x0 a_Low k_).bind fun r0 =>
  (w_markIntS_x0 a_High r0.snd).bind fun r1 =>
  some (((r0.fst, r1.fst), r1.snd))
theorem Mw_markBox_x0 (k : Nat) (a_Low : List (Int)) (a_High : List (Int)) (a_K : Int) (k_ : Int) : Le (f16_0 k a_Low a_High a_K k_) (f16_0 (k + 1) a_Low a_High a_K k_) := by
  unfold f16_0
  repeat' first | with_reducible exact Le.rfl _ | with_reducible exact Mw_markIntS_x0 _ _ _ | with_reducible refine Le.cond ?_ ?_ | with_reducible refine Le.bind ?_ fun _ => ?_
theorem Rw_markBox_x0 (a_Low : List (Int)) (a_High : List (Int)) (a_K : Int) (k_ : Int) : Lim (fun k => f16_0 k a_Low a_High a_K k_) (w_markBox_x0 a_Low a_High a_K k_) := by
  unfold f16_0 w_markBox_x0
  repeat' first | with_reducible exact Lim.ret _ | with_reducible exact Rw_markIntS_x0 _ _ | with_reducible refine Lim.cond ?_ ?_ | with_reducible refine Lim.bind ?_ fun _ => ?_

-- laws.markNodeS
theorem MFw_markNodeS_1002 (k : Nat) {r1002 q1002 : Nat → Int → Int → List (Int × Int) → Option (((List (Int × Int))) × Int)} (h1002 : ∀ (a_n : Nat) (k_ : Int) (i : Int) (p3 : List (Int × Int)), Le (r1002 a_n k_ i p3) (q1002 a_n k_ i p3)) (a_n : Nat) (k_ : Int) (i : Int) (p3 : List (Int × Int)) : Le (F17_1002 k r1002 a_n k_ i p3) (F17_1002 (k + 1) q1002 a_n k_ i p3) := by
  unfold F17_1002
  repeat' first | with_reducible exact Le.rfl _ | with_reducible exact h1002 _ _ _ _ | with_reducible refine Le.cond ?_ ?_ | with_reducible refine Le.bind ?_ fun _ => ?_
theorem Mlw_markNodeS : ∀ k : Nat, ∀ (a_n : Nat) (k_ : Int) (i : Int) (p3 : List (Int × Int)), Le ((l17 k) a_n k_ i p3) ((l17 (k + 1)) a_n k_ i p3)
  | 0 => fun a_n k_ i p3 => Le.no _
  | k + 1 => by
    have h := Mlw_markNodeS k
    exact fun a_n k_ i p3 => MFw_markNodeS_1002 k h a_n k_ i p3
noncomputable def w_markNodeS_1002 (a_n : Nat) (k_ : Int) (i : Int) (p3 : List (Int × Int)) : Option (((List (Int × Int))) × Int) := lim fun k => (l17 k) a_n k_ i p3
theorem Rlw_markNodeS_1002 (a_n : Nat) (k_ : Int) (i : Int) (p3 : List (Int × Int)) : Lim (fun k => (l17 k) a_n k_ i p3) (w_markNodeS_1002 a_n k_ i p3) := Lim.of_mono fun k => Mlw_markNodeS k a_n k_ i p3
theorem Ew_markNodeS_1002 (a_n : Nat) (k_ : Int) (i : Int) (p3 : List (Int × Int)) : w_markNodeS_1002 a_n k_ i p3 =
  bif decide (i < (↑a_n : Int)) then
    bif boundA i a_n then
      bif Nat.ble a_n (List.length p3) then
        bif Nat.blt (Int.toNat i) (List.length p3) then
          bif boundA i a_n then
            bif Nat.ble a_n (List.length (List.set p3 (Int.toNat i) (k_, (List.getD p3 (Int.toNat i) (0, 0)).snd))) then
              bif Nat.blt (Int.toNat i) (List.length (List.set p3 (Int.toNat i) (k_, (List.getD p3 (Int.toNat i) (0, 0)).snd))) then
                w_markNodeS_1002 a_n (IntKind.wrap IntKind.i64 (IntKind.wrap IntKind.i64 (k_ + 1) + 1)) (IntKind.wrap IntKind.i64 (i + 1)) (List.set (List.set p3 (Int.toNat i) (k_, (List.getD p3 (Int.toNat i) (0, 0)).snd)) (Int.toNat i) ((List.getD (List.set p3 (Int.toNat i) (k_, (List.getD p3 (Int.toNat i) (0, 0)).snd)) (Int.toNat i) (0, 0)).fst, IntKind.wrap IntKind.i64 (k_ + 1)))
              else
                none
            else
              none
          else
            none
        else
          none
      else
        none
    else
      none
  else
    some ((p3, k_)) := by
  refine Lim.uniq (Lim.shift (Rlw_markNodeS_1002 a_n k_ i p3)) (?_ : Lim (fun k => F17_1002 k ((l17 k)) a_n k_ i p3) _)
  unfold F17_1002
  repeat' first | with_reducible exact Lim.ret _ | with_reducible exact Rlw_markNodeS_1002 _ _ _ _ | with_reducible refine Lim.cond ?_ ?_ | with_reducible refine Lim.bind ?_ fun _ => ?_
noncomputable def w_markNodeS (a : List (Int × Int)) (a_n : Nat) (k_ : Int) : Option (((List (Int × Int))) × Int) :=
  w_markNodeS_1002 a_n k_ (0) a
theorem Mw_markNodeS (k : Nat) (a : List (Int × Int)) (a_n : Nat) (k_ : Int) : Le (f17 k a a_n k_) (f17 (k + 1) a a_n k_) := by
  have h := Mlw_markNodeS k
  unfold f17 F17
  repeat' first | with_reducible exact Le.rfl _ | with_reducible exact h _ _ _ _ | with_reducible refine Le.cond ?_ ?_ | with_reducible refine Le.bind ?_ fun _ => ?_
theorem Rw_markNodeS (a : List (Int × Int)) (a_n : Nat) (k_ : Int) : Lim (fun k => f17 k a a_n k_) (w_markNodeS a a_n k_) := by
  unfold f17 F17 w_markNodeS
  repeat' first | with_reducible exact Lim.ret _ | with_reducible exact Rlw_markNodeS_1002 _ _ _ _ | with_reducible refine Lim.cond ?_ ?_ | with_reducible refine Lim.bind ?_ fun _ => ?_

-- laws.markNodeS
theorem MFw_markNodeS_x0_1002 (k : Nat) {r1002 q1002 : Int → Int → List (Int × Int) → Option (((List (Int × Int))) × Int)} (h1002 : ∀ (k_ : Int) (i : Int) (p3 : List (Int × Int)), Le (r1002 k_ i p3) (q1002 k_ i p3)) (k_ : Int) (i : Int) (p3 : List (Int × Int)) : Le (F17_0_1002 k r1002 k_ i p3) (F17_0_1002 (k + 1) q1002 k_ i p3) := by
  unfold F17_0_1002
  repeat' first | with_reducible exact Le.rfl _ | with_reducible exact h1002 _ _ _ | with_reducible refine Le.cond ?_ ?_ | with_reducible refine Le.bind ?_ fun _ => ?_
theorem Mlw_markNodeS_x0 : ∀ k : Nat, ∀ (k_ : Int) (i : Int) (p3 : List (Int × Int)), Le ((l17_0 k) k_ i p3) ((l17_0 (k + 1)) k_ i p3)
  | 0 => fun k_ i p3 => Le.no _
  | k + 1 => by
    have h := Mlw_markNodeS_x0 k
    exact fun k_ i p3 => MFw_markNodeS_x0_1002 k h k_ i p3
noncomputable def w_markNodeS_x0_1002 (k_ : Int) (i : Int) (p3 : List (Int × Int)) : Option (((List (Int × Int))) × Int) := lim fun k => (l17_0 k) k_ i p3
theorem Rlw_markNodeS_x0_1002 (k_ : Int) (i : Int) (p3 : List (Int × Int)) : Lim (fun k => (l17_0 k) k_ i p3) (w_markNodeS_x0_1002 k_ i p3) := Lim.of_mono fun k => Mlw_markNodeS_x0 k k_ i p3
theorem Ew_markNodeS_x0_1002 (k_ : Int) (i : Int) (p3 : List (Int × Int)) : w_markNodeS_x0_1002 k_ i p3 =
  bif decide (i < (↑(List.length p3) : Int)) then
    bif boundA i (List.length p3) then
      bif Nat.blt (Int.toNat i) (List.length p3) then
        bif boundA i (List.length (List.set p3 (Int.toNat i) (k_, (List.getD p3 (Int.toNat i) (0, 0)).snd))) then
          bif Nat.blt (Int.toNat i) (List.length (List.set p3 (Int.toNat i) (k_, (List.getD p3 (Int.toNat i) (0, 0)).snd))) then
            w_markNodeS_x0_1002 (IntKind.wrap IntKind.i64 (IntKind.wrap IntKind.i64 (k_ + 1) + 1)) (IntKind.wrap IntKind.i64 (i + 1)) (List.set (List.set p3 (Int.toNat i) (k_, (List.getD p3 (Int.toNat i) (0, 0)).snd)) (Int.toNat i) ((List.getD (List.set p3 (Int.toNat i) (k_, (List.getD p3 (Int.toNat i) (0, 0)).snd)) (Int.toNat i) (0, 0)).fst, IntKind.wrap IntKind.i64 (k_ + 1)))
          else
            none
        else
          none
      else
        none
    else
      none
  else
    some ((p3, k_)) := by
  refine Lim.uniq (Lim.shift (Rlw_markNodeS_x0_1002 k_ i p3)) (?_ : Lim (fun k => F17_0_1002 k ((l17_0 k)) k_ i p3) _)
  unfold F17_0_1002
  repeat' first | with_reducible exact Lim.ret _ | with_reducible exact Rlw_markNodeS_x0_1002 _ _ _ | with_reducible refine Lim.cond ?_ ?_ | with_reducible refine Lim.bind ?_ fun _ => ?_
noncomputable def w_markNodeS_x0 (a : List (Int × Int)) (k_ : Int) : Option (((List (Int × Int))) × Int) :=
  w_markNodeS_x0_1002 k_ (0) a
theorem Mw_markNodeS_x0 (k : Nat) (a : List (Int × Int)) (k_ : Int) : Le (f17_0 k a k_) (f17_0 (k + 1) a k_) := by
  have h := Mlw_markNodeS_x0 k
  unfold f17_0 F17_0
  repeat' first | with_reducible exact Le.rfl _ | with_reducible exact h _ _ _ | with_reducible refine Le.cond ?_ ?_ | with_reducible refine Le.bind ?_ fun _ => ?_
theorem Rw_markNodeS_x0 (a : List (Int × Int)) (k_ : Int) : Lim (fun k => f17_0 k a k_) (w_markNodeS_x0 a k_) := by
  unfold f17_0 F17_0 w_markNodeS_x0
  repeat' first | with_reducible exact Lim.ret _ | with_reducible exact Rlw_markNodeS_x0_1002 _ _ _ | with_reducible refine Lim.cond ?_ ?_ | with_reducible refine Lim.bind ?_ fun _ => ?_

-- laws.markBoxS
theorem MFw_markBoxS_1002 (k : Nat) {r1002 q1002 : Int → Int → List (Int × List Int × List Int) → Option (((List (Int × (List (Int)) × List (Int)))) × Int)} (h1002 : ∀ (k_ : Int) (i : Int) (p3 : List (Int × List Int × List Int)), Le (r1002 k_ i p3) (q1002 k_ i p3)) (k_ : Int) (i : Int) (p3 : List (Int × List Int × List Int)) : Le (F18_1002 k r1002 k_ i p3) (F18_1002 (k + 1) q1002 k_ i p3) := by
  unfold F18_1002
  repeat' first | with_reducible exact Le.rfl _ | with_reducible exact Mw_markIntS_x0 _ _ _ | with_reducible exact h1002 _ _ _ | with_reducible refine Le.cond ?_ ?_ | with_reducible refine Le.bind ?_ fun _ => ?_
theorem Mlw_markBoxS : ∀ k : Nat, ∀ (k_ : Int) (i : Int) (p3 : List (Int × List Int × List Int)), Le ((l18 k) k_ i p3) ((l18 (k + 1)) k_ i p3)
  | 0 => fun k_ i p3 => Le.no _
  | k + 1 => by
    have h := Mlw_markBoxS k
    exact fun k_ i p3 => MFw_markBoxS_1002 k h k_ i p3
noncomputable def w_markBoxS_1002 (k_ : Int) (i : Int) (p3 : List (Int × List Int × List Int)) : Option (((List (Int × (List (Int)) × List (Int)))) × Int) := lim fun k => (l18 k) k_ i p3
theorem Rlw_markBoxS_1002 (k_ : Int) (i : Int) (p3 : List (Int × List Int × List Int)) : Lim (fun k => (l18 k) k_ i p3) (w_markBoxS_1002 k_ i p3) := Lim.of_mono fun k => Mlw_markBoxS k k_ i p3
theorem Ew_markBoxS_1002 (k_ : Int) (i : Int) (p3 : List (Int × List Int × List Int)) : w_markBoxS_1002 k_ i p3 =
  bif decide (i < (↑(List.length p3) : Int)) then
    bif boundA i (List.length p3) then
      bif Nat.blt (Int.toNat i) (List.length p3) then
        bif boundA i (List.length (List.set p3 (Int.toNat i) (k_, (List.getD p3 (Int.toNat i) (0, [], [])).snd))) then
          bif Nat.blt (Int.toNat i) (List.length (List.set p3 (Int.toNat i) (k_, (List.getD p3 (Int.toNat i) (0, [], [])).snd))) then
            (w_markIntS_x0 (List.getD (List.set p3 (Int.toNat i) (k_, (List.getD p3 (Int.toNat i) (0, [], [])).snd)) (Int.toNat i) (0, [], [])).snd.fst (IntKind.wrap IntKind.i64 (k_ + 1))).bind fun r0 =>
            bif boundA i (List.length (List.set p3 (Int.toNat i) (k_, (List.getD p3 (Int.toNat i) (0, [], [])).snd))) then
              bif Nat.blt (Int.toNat i) (List.length (List.set (List.set p3 (Int.toNat i) (k_, (List.getD p3 (Int.toNat i) (0, [], [])).snd)) (Int.toNat i) ((List.getD (List.set p3 (Int.toNat i) (k_, (List.getD p3 (Int.toNat i) (0, [], [])).snd)) (Int.toNat i) (0, [], [])).fst, r0.fst, (List.getD (List.set p3 (Int.toNat i) (k_, (List.getD p3 (Int.toNat i) (0, [], [])).snd)) (Int.toNat i) (0, [], [])).snd.snd))) then
                (w_markIntS_x0 (List.getD (List.set (List.set p3 (Int.toNat i) (k_, (List.getD p3 (Int.toNat i) (0, [], [])).snd)) (Int.toNat i) ((List.getD (List.set p3 (Int.toNat i) (k_, (List.getD p3 (Int.toNat i) (0, [], [])).snd)) (Int.toNat i) (0, [], [])).fst, r0.fst, (List.getD (List.set p3 (Int.toNat i) (k_, (List.getD p3 (Int.toNat i) (0, [], [])).snd)) (Int.toNat i) (0, [], [])).snd.snd)) (Int.toNat i) (0, [], [])).snd.snd r0.snd).bind fun r1 =>
                w_markBoxS_1002 (r1.snd) (IntKind.wrap IntKind.i64 (i + 1)) (List.set (List.set (List.set p3 (Int.toNat i) (k_, (List.getD p3 (Int.toNat i) (0, [], [])).snd)) (Int.toNat i) ((List.getD (List.set p3 (Int.toNat i) (k_, (List.getD p3 (Int.toNat i) (0, [], [])).snd)) (Int.toNat i) (0, [], [])).fst, r0.fst, (List.getD (List.set p3 (Int.toNat i) (k_, (List.getD p3 (Int.toNat i) (0, [], [])).snd)) (Int.toNat i) (0, [], [])).snd.snd)) (Int.toNat i) ((List.getD (List.set (List.set p3 (Int.toNat i) (k_, (List.getD p3 (Int.toNat i) (0, [], [])).snd)) (Int.toNat i) ((List.getD (List.set p3 (Int.toNat i) (k_, (List.getD p3 (Int.toNat i) (0, [], [])).snd)) (Int.toNat i) (0, [], [])).fst, r0.fst, (List.getD (List.set p3 (Int.toNat i) (k_, (List.getD p3 (Int.toNat i) (0, [], [])).snd)) (Int.toNat i) (0, [], [])).snd.snd)) (Int.toNat i) (0, [], [])).fst, (List.getD (List.set (List.set p3 (Int.toNat i) (k_, (List.getD p3 (Int.toNat i) (0, [], [])).snd)) (Int.toNat i) ((List.getD (List.set p3 (Int.toNat i) (k_, (List.getD p3 (Int.toNat i) (0, [], [])).snd)) (Int.toNat i) (0, [], [])).fst, r0.fst, (List.getD (List.set p3 (Int.toNat i) (k_, (List.getD p3 (Int.toNat i) (0, [], [])).snd)) (Int.toNat i) (0, [], [])).snd.snd)) (Int.toNat i) (0, [], [])).snd.fst, r1.fst))
              else
                none
            else
              none
          else
            none
        else
          none
      else
        none
    else
      none
  else
    some ((p3, k_)) := by
  refine Lim.uniq (Lim.shift (Rlw_markBoxS_1002 k_ i p3)) (?_ : Lim (fun k => F18_1002 k ((l18 k)) k_ i p3) _)
  unfold F18_1002
  repeat' first | with_reducible exact Lim.ret _ | with_reducible exact Rw_markIntS_x0 _ _ | with_reducible exact Rlw_markBoxS_1002 _ _ _ | with_reducible refine Lim.cond ?_ ?_ | with_reducible refine Lim.bind ?_ fun _ => ?_
noncomputable def w_markBoxS (a : List (Int × (List (Int)) × List (Int))) (k_ : Int) : Option (((List (Int × (List (Int)) × List (Int)))) × Int) :=
  w_markBoxS_1002 k_ (0) a
theorem Mw_markBoxS (k : Nat) (a : List (Int × (List (Int)) × List (Int))) (k_ : Int) : Le (f18 k a k_) (f18 (k + 1) a k_) := by
  have h := Mlw_markBoxS k
  unfold f18 F18
  repeat' first | with_reducible exact Le.rfl _ | with_reducible exact h _ _ _ | with_reducible refine Le.cond ?_ ?_ | with_reducible refine Le.bind ?_ fun _ => ?_
theorem Rw_markBoxS (a : List (Int × (List (Int)) × List (Int))) (k_ : Int) : Lim (fun k => f18 k a k_) (w_markBoxS a k_) := by
  unfold f18 F18 w_markBoxS
  repeat' first | with_reducible exact Lim.ret _ | with_reducible exact Rlw_markBoxS_1002 _ _ _ | with_reducible refine Lim.cond ?_ ?_ | with_reducible refine Lim.bind ?_ fun _ => ?_

-- laws.heldIntS
theorem MFw_heldIntS_1002 (k : Nat) {r1002 q1002 : List Int → Nat → Int → Int → Option (Int)} (h1002 : ∀ (a : List Int) (a_n : Nat) (k_ : Int) (i : Int), Le (r1002 a a_n k_ i) (q1002 a a_n k_ i)) (a : List Int) (a_n : Nat) (k_ : Int) (i : Int) : Le (F45_1002 k r1002 a a_n k_ i) (F45_1002 (k + 1) q1002 a a_n k_ i) := by
  unfold F45_1002
  repeat' first | with_reducible exact Le.rfl _ | with_reducible exact h1002 _ _ _ _ | with_reducible refine Le.cond ?_ ?_ | with_reducible refine Le.bind ?_ fun _ => ?_
theorem Mlw_heldIntS : ∀ k : Nat, ∀ (a : List Int) (a_n : Nat) (k_ : Int) (i : Int), Le ((l45 k) a a_n k_ i) ((l45 (k + 1)) a a_n k_ i)
  | 0 => fun a a_n k_ i => Le.no _
  | k + 1 => by
    have h := Mlw_heldIntS k
    exact fun a a_n k_ i => MFw_heldIntS_1002 k h a a_n k_ i
noncomputable def w_heldIntS_1002 (a : List Int) (a_n : Nat) (k_ : Int) (i : Int) : Option (Int) := lim fun k => (l45 k) a a_n k_ i
theorem Rlw_heldIntS_1002 (a : List Int) (a_n : Nat) (k_ : Int) (i : Int) : Lim (fun k => (l45 k) a a_n k_ i) (w_heldIntS_1002 a a_n k_ i) := Lim.of_mono fun k => Mlw_heldIntS k a a_n k_ i
theorem Ew_heldIntS_1002 (a : List Int) (a_n : Nat) (k_ : Int) (i : Int) : w_heldIntS_1002 a a_n k_ i =
  bif decide (i < (↑a_n : Int)) then
    bif boundA i a_n then
      bif !decide (List.getD a (Int.toNat i) 0 = k_) then
        some (-1)
      else
        w_heldIntS_1002 a a_n (IntKind.wrap IntKind.i64 (k_ + 1)) (IntKind.wrap IntKind.i64 (i + 1))
    else
      none
  else
    some k_ := by
  refine Lim.uniq (Lim.shift (Rlw_heldIntS_1002 a a_n k_ i)) (?_ : Lim (fun k => F45_1002 k ((l45 k)) a a_n k_ i) _)
  unfold F45_1002
  repeat' first | with_reducible exact Lim.ret _ | with_reducible exact Rlw_heldIntS_1002 _ _ _ _ | with_reducible refine Lim.cond ?_ ?_ | with_reducible refine Lim.bind ?_ fun _ => ?_
noncomputable def w_heldIntS (a : List (Int)) (a_n : Nat) (k_ : Int) : Option (Int) :=
  w_heldIntS_1002 a a_n k_ (0)
theorem Mw_heldIntS (k : Nat) (a : List (Int)) (a_n : Nat) (k_ : Int) : Le (f45 k a a_n k_) (f45 (k + 1) a a_n k_) := by
  have h := Mlw_heldIntS k
  unfold f45 F45
  repeat' first | with_reducible exact Le.rfl _ | with_reducible exact h _ _ _ _ | with_reducible refine Le.cond ?_ ?_ | with_reducible refine Le.bind ?_ fun _ => ?_
theorem Rw_heldIntS (a : List (Int)) (a_n : Nat) (k_ : Int) : Lim (fun k => f45 k a a_n k_) (w_heldIntS a a_n k_) := by
  unfold f45 F45 w_heldIntS
  repeat' first | with_reducible exact Lim.ret _ | with_reducible exact Rlw_heldIntS_1002 _ _ _ _ | with_reducible refine Lim.cond ?_ ?_ | with_reducible refine Lim.bind ?_ fun _ => ?_

-- laws.heldBoxS
theorem MFw_heldBoxS_1002 (k : Nat) {r1002 q1002 : List (Int × List Int × List Int) → Int → Int → Option (Int)} (h1002 : ∀ (a : List (Int × List Int × List Int)) (k_ : Int) (i : Int), Le (r1002 a k_ i) (q1002 a k_ i)) (a : List (Int × List Int × List Int)) (k_ : Int) (i : Int) : Le (F19_1002 k r1002 a k_ i) (F19_1002 (k + 1) q1002 a k_ i) := by
  unfold F19_1002
  repeat' first | with_reducible exact Le.rfl _ | with_reducible exact Mw_heldIntS _ _ _ _ | with_reducible exact h1002 _ _ _ | with_reducible refine Le.cond ?_ ?_ | with_reducible refine Le.bind ?_ fun _ => ?_
theorem Mlw_heldBoxS : ∀ k : Nat, ∀ (a : List (Int × List Int × List Int)) (k_ : Int) (i : Int), Le ((l19 k) a k_ i) ((l19 (k + 1)) a k_ i)
  | 0 => fun a k_ i => Le.no _
  | k + 1 => by
    have h := Mlw_heldBoxS k
    exact fun a k_ i => MFw_heldBoxS_1002 k h a k_ i
noncomputable def w_heldBoxS_1002 (a : List (Int × List Int × List Int)) (k_ : Int) (i : Int) : Option (Int) := lim fun k => (l19 k) a k_ i
theorem Rlw_heldBoxS_1002 (a : List (Int × List Int × List Int)) (k_ : Int) (i : Int) : Lim (fun k => (l19 k) a k_ i) (w_heldBoxS_1002 a k_ i) := Lim.of_mono fun k => Mlw_heldBoxS k a k_ i
theorem Ew_heldBoxS_1002 (a : List (Int × List Int × List Int)) (k_ : Int) (i : Int) : w_heldBoxS_1002 a k_ i =
  bif decide (i < (↑(List.length a) : Int)) then
    bif boundA i (List.length a) then
      bif !decide ((List.getD a (Int.toNat i) (0, [], [])).fst = k_) then
        some (-1)
      else
        bif boundA i (List.length a) then
          (w_heldIntS (List.getD a (Int.toNat i) (0, [], [])).snd.fst (List.length (List.getD a (Int.toNat i) (0, [], [])).snd.fst) (IntKind.wrap IntKind.i64 (k_ + 1))).bind fun r0 =>
          bif decide (r0 < 0) then
            some (-1)
          else
            bif boundA i (List.length a) then
              (w_heldIntS (List.getD a (Int.toNat i) (0, [], [])).snd.snd (List.length (List.getD a (Int.toNat i) (0, [], [])).snd.snd) r0).bind fun r1 =>
              bif decide (r1 < 0) then
                some (-1)
              else
                w_heldBoxS_1002 a r1 (IntKind.wrap IntKind.i64 (i + 1))
            else
              none
        else
          none
    else
      none
  else
    some k_ := by
  refine Lim.uniq (Lim.shift (Rlw_heldBoxS_1002 a k_ i)) (?_ : Lim (fun k => F19_1002 k ((l19 k)) a k_ i) _)
  unfold F19_1002
  repeat' first | with_reducible exact Lim.ret _ | with_reducible exact Rw_heldIntS _ _ _ | with_reducible exact Rlw_heldBoxS_1002 _ _ _ | with_reducible refine Lim.cond ?_ ?_ | with_reducible refine Lim.bind ?_ fun _ => ?_
noncomputable def w_heldBoxS (a : List (Int × (List (Int)) × List (Int))) (k_ : Int) : Option (Int) :=
  w_heldBoxS_1002 a k_ (0)
theorem Mw_heldBoxS (k : Nat) (a : List (Int × (List (Int)) × List (Int))) (k_ : Int) : Le (f19 k a k_) (f19 (k + 1) a k_) := by
  have h := Mlw_heldBoxS k
  unfold f19 F19
  repeat' first | with_reducible exact Le.rfl _ | with_reducible exact h _ _ _ | with_reducible refine Le.cond ?_ ?_ | with_reducible refine Le.bind ?_ fun _ => ?_
theorem Rw_heldBoxS (a : List (Int × (List (Int)) × List (Int))) (k_ : Int) : Lim (fun k => f19 k a k_) (w_heldBoxS a k_) := by
  unfold f19 F19 w_heldBoxS
  repeat' first | with_reducible exact Lim.ret _ | with_reducible exact Rlw_heldBoxS_1002 _ _ _ | with_reducible refine Lim.cond ?_ ?_ | with_reducible refine Lim.bind ?_ fun _ => ?_

-- laws.FnExactBoxesOf
noncomputable def w_FnExactBoxesOf (L_K : Int) (L_Low : List (Int)) (L_High : List (Int)) (i : List (Int × Int)) : Option (Bool) :=
  (w_szBox L_K L_Low L_High 1000000).bind fun r0 =>
  bif decide (r0 < 0) then
    some true
  else
    (w_szNodeS i r0).bind fun r1 =>
    bif decide (r1 < 0) then
      some true
    else
      (w_toBox L_K L_Low L_High false).bind fun r2 =>
      (w_toNodeS i false).bind fun r3 =>
      (s_BoxesOf r2.fst (List.take r2.snd.fst.snd r2.snd.fst.fst) (List.take r2.snd.snd.snd r2.snd.snd.fst) (List.take r3.snd r3.fst)).bind fun r4 =>
      (w_toBox L_K L_Low L_High false).bind fun r5 =>
      (w_toNodeS i false).bind fun r6 =>
      (i_BoxesOf r5.fst (List.take r5.snd.fst.snd r5.snd.fst.fst) (List.take r5.snd.snd.snd r5.snd.snd.fst) (List.take r6.snd r6.fst)).bind fun r7 =>
      (w_eqBoxS r7.fst r4.fst).bind fun r8 =>
      bif !r8 then
        some false
      else
        bif !r7.snd == r4.snd then
          some false
        else
          (w_toBox L_K L_Low L_High false).bind fun r9 =>
          (w_intactBox r5.fst r5.snd.fst.fst r5.snd.fst.snd r5.snd.snd.fst r5.snd.snd.snd r9.fst r9.snd.fst.fst r9.snd.fst.snd r9.snd.snd.fst r9.snd.snd.snd).bind fun r10 =>
          bif !r10 then
            some false
          else
            (w_toNodeS i false).bind fun r11 =>
            (w_intactNodeS r6.fst r6.snd r11.fst r11.snd).bind fun r12 =>
            bif !r12 then
              some false
            else
              (w_markBox r5.snd.fst.fst r5.snd.snd.fst r5.fst r5.snd.fst.snd r5.snd.snd.snd 101).bind fun r13 =>
              (w_markNodeS r6.fst r6.snd r13.snd).bind fun r14 =>
              bif decide (r14.snd < 0) then
                some false
              else
                (w_eqBoxS r7.fst r4.fst).bind fun r15 =>
                bif !r15 then
                  some false
                else
                  bif !r7.snd == r4.snd then
                    some false
                  else
                    (w_markBoxS r7.fst 101).bind fun r16 =>
                    (w_heldBoxS r16.fst 101).bind fun r17 =>
                    bif decide (r17 < 0) then
                      some false
                    else
                      bif !decide (r17 = r16.snd) then
                        some false
                      else
                        (w_toBox L_K L_Low L_High true).bind fun r18 =>
                        (w_toNodeS i true).bind fun r19 =>
                        (i_BoxesOf r18.fst (List.take r18.snd.fst.snd r18.snd.fst.fst) (List.take r18.snd.snd.snd r18.snd.snd.fst) (List.take r19.snd r19.fst)).bind fun r20 =>
                        (w_eqBoxS r20.fst r4.fst).bind fun r21 =>
                        bif !r21 then
                          some false
                        else
                          bif !r20.snd == r4.snd then
                            some false
                          else
                            (w_heldBoxS r16.fst 101).bind fun r22 =>
                            bif decide (r22 < 0) then
                              some false
                            else
                              bif !decide (r22 = r16.snd) then
                                some false
                              else
                                some true
theorem Mw_FnExactBoxesOf (k : Nat) (L_K : Int) (L_Low : List (Int)) (L_High : List (Int)) (i : List (Int × Int)) : Le (f3 k L_K L_Low L_High i) (f3 (k + 1) L_K L_Low L_High i) := by
  unfold f3
  repeat' first | with_reducible exact Le.rfl _ | with_reducible exact Mw_toBox _ _ _ _ _ | with_reducible exact Mw_toNodeS _ _ _ | with_reducible exact Mi_BoxesOf _ _ _ _ _ | with_reducible exact Mw_eqBoxS _ _ _ | with_reducible exact Mw_intactBox _ _ _ _ _ _ _ _ _ _ _ | with_reducible exact Mw_intactNodeS _ _ _ _ _ | with_reducible exact Mw_markBox _ _ _ _ _ _ _ | with_reducible exact Mw_markNodeS _ _ _ _ | with_reducible exact Mw_markBoxS _ _ _ | with_reducible exact Mw_heldBoxS _ _ _ | with_reducible exact Mw_szBox _ _ _ _ _ | with_reducible exact Mw_szNodeS _ _ _ | with_reducible exact Ms_BoxesOf _ _ _ _ _ | with_reducible refine Le.cond ?_ ?_ | with_reducible refine Le.bind ?_ fun _ => ?_
theorem Rw_FnExactBoxesOf (L_K : Int) (L_Low : List (Int)) (L_High : List (Int)) (i : List (Int × Int)) : Lim (fun k => f3 k L_K L_Low L_High i) (w_FnExactBoxesOf L_K L_Low L_High i) := by
  unfold f3 w_FnExactBoxesOf
  repeat' first | with_reducible exact Lim.ret _ | with_reducible exact Rw_toBox _ _ _ _ | with_reducible exact Rw_toNodeS _ _ | with_reducible exact Ri_BoxesOf _ _ _ _ | with_reducible exact Rw_eqBoxS _ _ | with_reducible exact Rw_intactBox _ _ _ _ _ _ _ _ _ _ | with_reducible exact Rw_intactNodeS _ _ _ _ | with_reducible exact Rw_markBox _ _ _ _ _ _ | with_reducible exact Rw_markNodeS _ _ _ | with_reducible exact Rw_markBoxS _ _ | with_reducible exact Rw_heldBoxS _ _ | with_reducible exact Rw_szBox _ _ _ _ | with_reducible exact Rw_szNodeS _ _ | with_reducible exact Rs_BoxesOf _ _ _ _ | with_reducible refine Lim.cond ?_ ?_ | with_reducible refine Lim.bind ?_ fun _ => ?_

-- spec.rpAsked
noncomputable def s_rpAsked (b_K : Int) (b_Low : List (Int)) (b_High : List (Int)) (l : List (Int × Int)) : Option ((List (Int × (List (Int)) × List (Int))) × Bool) :=
  (s_bxGood b_K b_Low b_High).bind fun r0 =>
  bif !r0 then
    some (([], false))
  else
    (s_trGood l (↑(List.length b_Low) : Int)).bind fun r1 =>
    bif !r1 then
      some (([], false))
    else
      (s_trBoxes b_K b_Low b_High l).bind fun r2 =>
      some ((r2.fst, r2.snd))
theorem Ms_rpAsked (k : Nat) (b_K : Int) (b_Low : List (Int)) (b_High : List (Int)) (l : List (Int × Int)) : Le (f46 k b_K b_Low b_High l) (f46 (k + 1) b_K b_Low b_High l) := by
  unfold f46
  repeat' first | with_reducible exact Le.rfl _ | with_reducible exact Ms_bxGood _ _ _ _ | with_reducible exact Ms_trGood _ _ _ | with_reducible exact Ms_trBoxes _ _ _ _ _ | with_reducible refine Le.cond ?_ ?_ | with_reducible refine Le.bind ?_ fun _ => ?_
theorem Rs_rpAsked (b_K : Int) (b_Low : List (Int)) (b_High : List (Int)) (l : List (Int × Int)) : Lim (fun k => f46 k b_K b_Low b_High l) (s_rpAsked b_K b_Low b_High l) := by
  unfold f46 s_rpAsked
  repeat' first | with_reducible exact Lim.ret _ | with_reducible exact Rs_bxGood _ _ _ | with_reducible exact Rs_trGood _ _ | with_reducible exact Rs_trBoxes _ _ _ _ | with_reducible refine Lim.cond ?_ ?_ | with_reducible refine Lim.bind ?_ fun _ => ?_

-- spec.rpKind
noncomputable def s_rpKind (kind : Int) : Option (Bool) :=
  (s_l1In kind 1 3).bind fun r0 =>
  some r0
theorem Ms_rpKind (k : Nat) (kind : Int) : Le (f47 k kind) (f47 (k + 1) kind) := by
  unfold f47
  repeat' first | with_reducible exact Le.rfl _ | with_reducible exact Ms_l1In _ _ _ _ | with_reducible refine Le.cond ?_ ?_ | with_reducible refine Le.bind ?_ fun _ => ?_
theorem Rs_rpKind (kind : Int) : Lim (fun k => f47 k kind) (s_rpKind kind) := by
  unfold f47 s_rpKind
  repeat' first | with_reducible exact Lim.ret _ | with_reducible exact Rs_l1In _ _ _ | with_reducible refine Lim.cond ?_ ?_ | with_reducible refine Lim.bind ?_ fun _ => ?_

-- spec.rpLeaves
theorem MFs_rpLeaves_1003 (k : Nat) {r1003 q1003 : List (Int × Int) → List (Int × Int) → Int → Int → Option (List (Int × Int))} (h1003 : ∀ (outs : List (Int × Int)) (t6 : List (Int × Int)) (t7 : Int) (t8 : Int), Le (r1003 outs t6 t7 t8) (q1003 outs t6 t7 t8)) (outs : List (Int × Int)) (t6 : List (Int × Int)) (t7 : Int) (t8 : Int) : Le (F48_1003 k r1003 outs t6 t7 t8) (F48_1003 (k + 1) q1003 outs t6 t7 t8) := by
  unfold F48_1003
  repeat' first | with_reducible exact Le.rfl _ | with_reducible exact h1003 _ _ _ _ | with_reducible refine Le.cond ?_ ?_ | with_reducible refine Le.bind ?_ fun _ => ?_
theorem Mls_rpLeaves : ∀ k : Nat, ∀ (outs : List (Int × Int)) (t6 : List (Int × Int)) (t7 : Int) (t8 : Int), Le ((l48 k) outs t6 t7 t8) ((l48 (k + 1)) outs t6 t7 t8)
  | 0 => fun outs t6 t7 t8 => Le.no _
  | k + 1 => by
    have h := Mls_rpLeaves k
    exact fun outs t6 t7 t8 => MFs_rpLeaves_1003 k h outs t6 t7 t8
noncomputable def s_rpLeaves_1003 (outs : List (Int × Int)) (t6 : List (Int × Int)) (t7 : Int) (t8 : Int) : Option (List (Int × Int)) := lim fun k => (l48 k) outs t6 t7 t8
theorem Rls_rpLeaves_1003 (outs : List (Int × Int)) (t6 : List (Int × Int)) (t7 : Int) (t8 : Int) : Lim (fun k => (l48 k) outs t6 t7 t8) (s_rpLeaves_1003 outs t6 t7 t8) := Lim.of_mono fun k => Mls_rpLeaves k outs t6 t7 t8
theorem Es_rpLeaves_1003 (outs : List (Int × Int)) (t6 : List (Int × Int)) (t7 : Int) (t8 : Int) : s_rpLeaves_1003 outs t6 t7 t8 =
  bif decide (t8 < t7) then
    bif boundA t8 (List.length t6) then
      bif !decide ((List.getD t6 (Int.toNat t8) (0, 0)).fst = 0) then
        bif decide ((List.length outs + List.length [((List.getD t6 (Int.toNat t8) (0, 0)).fst, (List.getD t6 (Int.toNat t8) (0, 0)).snd)]) * 16 ≤ 140737488355328) then
          s_rpLeaves_1003 (outs ++ [((List.getD t6 (Int.toNat t8) (0, 0)).fst, (List.getD t6 (Int.toNat t8) (0, 0)).snd)]) t6 t7 (IntKind.wrap IntKind.i64 (t8 + 1))
        else
          none
      else
        s_rpLeaves_1003 outs t6 t7 (IntKind.wrap IntKind.i64 (t8 + 1))
    else
      none
  else
    some outs := by
  refine Lim.uniq (Lim.shift (Rls_rpLeaves_1003 outs t6 t7 t8)) (?_ : Lim (fun k => F48_1003 k ((l48 k)) outs t6 t7 t8) _)
  unfold F48_1003
  repeat' first | with_reducible exact Lim.ret _ | with_reducible exact Rls_rpLeaves_1003 _ _ _ _ | with_reducible refine Lim.cond ?_ ?_ | with_reducible refine Lim.bind ?_ fun _ => ?_
noncomputable def s_rpLeaves (l : List (Int × Int)) : Option (List (Int × Int)) :=
  s_rpLeaves_1003 ([]) l ((↑(List.length l) : Int)) (0)
theorem Ms_rpLeaves (k : Nat) (l : List (Int × Int)) : Le (f48 k l) (f48 (k + 1) l) := by
  have h := Mls_rpLeaves k
  unfold f48 F48
  repeat' first | with_reducible exact Le.rfl _ | with_reducible exact h _ _ _ _ | with_reducible refine Le.cond ?_ ?_ | with_reducible refine Le.bind ?_ fun _ => ?_
theorem Rs_rpLeaves (l : List (Int × Int)) : Lim (fun k => f48 k l) (s_rpLeaves l) := by
  unfold f48 F48 s_rpLeaves
  repeat' first | with_reducible exact Lim.ret _ | with_reducible exact Rls_rpLeaves_1003 _ _ _ _ | with_reducible refine Lim.cond ?_ ?_ | with_reducible refine Lim.bind ?_ fun _ => ?_

-- spec.BoxesOfKind
theorem MFs_BoxesOfKind_1006 (k : Nat) {r1006 q1006 : Int → List (Int × List Int × List Int) → List (Int × List Int × List Int) → List (Int × Int) → Int → Int → Option ((List (Int × (List (Int)) × List (Int))) × Bool)} (h1006 : ∀ (kind : Int) (boxess : List (Int × List Int × List Int)) (outs : List (Int × List Int × List Int)) (t27s : List (Int × Int)) (t28 : Int) (t29 : Int), Le (r1006 kind boxess outs t27s t28 t29) (q1006 kind boxess outs t27s t28 t29)) (kind : Int) (boxess : List (Int × List Int × List Int)) (outs : List (Int × List Int × List Int)) (t27s : List (Int × Int)) (t28 : Int) (t29 : Int) : Le (F20_1006 k r1006 kind boxess outs t27s t28 t29) (F20_1006 (k + 1) q1006 kind boxess outs t27s t28 t29) := by
  unfold F20_1006
  repeat' first | with_reducible exact Le.rfl _ | with_reducible exact h1006 _ _ _ _ _ _ | with_reducible refine Le.cond ?_ ?_ | with_reducible refine Le.bind ?_ fun _ => ?_
theorem Mls_BoxesOfKind : ∀ k : Nat, ∀ (kind : Int) (boxess : List (Int × List Int × List Int)) (outs : List (Int × List Int × List Int)) (t27s : List (Int × Int)) (t28 : Int) (t29 : Int), Le ((l20 k) kind boxess outs t27s t28 t29) ((l20 (k + 1)) kind boxess outs t27s t28 t29)
  | 0 => fun kind boxess outs t27s t28 t29 => Le.no _
  | k + 1 => by
    have h := Mls_BoxesOfKind k
    exact fun kind boxess outs t27s t28 t29 => MFs_BoxesOfKind_1006 k h kind boxess outs t27s t28 t29
noncomputable def s_BoxesOfKind_1006 (kind : Int) (boxess : List (Int × List Int × List Int)) (outs : List (Int × List Int × List Int)) (t27s : List (Int × Int)) (t28 : Int) (t29 : Int) : Option ((List (Int × (List (Int)) × List (Int))) × Bool) := lim fun k => (l20 k) kind boxess outs t27s t28 t29
theorem Rls_BoxesOfKind_1006 (kind : Int) (boxess : List (Int × List Int × List Int)) (outs : List (Int × List Int × List Int)) (t27s : List (Int × Int)) (t28 : Int) (t29 : Int) : Lim (fun k => (l20 k) kind boxess outs t27s t28 t29) (s_BoxesOfKind_1006 kind boxess outs t27s t28 t29) := Lim.of_mono fun k => Mls_BoxesOfKind k kind boxess outs t27s t28 t29
theorem Es_BoxesOfKind_1006 (kind : Int) (boxess : List (Int × List Int × List Int)) (outs : List (Int × List Int × List Int)) (t27s : List (Int × Int)) (t28 : Int) (t29 : Int) : s_BoxesOfKind_1006 kind boxess outs t27s t28 t29 =
  bif decide (t29 < t28) then
    bif boundA t29 (List.length t27s) then
      bif Nat.blt (Int.toNat t29) (List.length t27s) then
        bif decide ((List.getD t27s (Int.toNat t29) (0, 0)).fst = kind) then
          bif boundA t29 (List.length boxess) then
            bif Nat.blt (Int.toNat t29) (List.length boxess) then
              bif decide ((List.length outs + List.length [((List.getD boxess (Int.toNat t29) (0, [], [])).fst, (List.getD boxess (Int.toNat t29) (0, [], [])).snd.fst, (List.getD boxess (Int.toNat t29) (0, [], [])).snd.snd)]) * 56 ≤ 140737488355328) then
                s_BoxesOfKind_1006 kind boxess (outs ++ [((List.getD boxess (Int.toNat t29) (0, [], [])).fst, (List.getD boxess (Int.toNat t29) (0, [], [])).snd.fst, (List.getD boxess (Int.toNat t29) (0, [], [])).snd.snd)]) t27s t28 (IntKind.wrap IntKind.i64 (t29 + 1))
              else
                none
            else
              none
          else
            none
        else
          s_BoxesOfKind_1006 kind boxess outs t27s t28 (IntKind.wrap IntKind.i64 (t29 + 1))
      else
        none
    else
      none
  else
    some ((outs, true)) := by
  refine Lim.uniq (Lim.shift (Rls_BoxesOfKind_1006 kind boxess outs t27s t28 t29)) (?_ : Lim (fun k => F20_1006 k ((l20 k)) kind boxess outs t27s t28 t29) _)
  unfold F20_1006
  repeat' first | with_reducible exact Lim.ret _ | with_reducible exact Rls_BoxesOfKind_1006 _ _ _ _ _ _ | with_reducible refine Lim.cond ?_ ?_ | with_reducible refine Lim.bind ?_ fun _ => ?_
noncomputable def s_BoxesOfKind (b_K : Int) (b_Low : List (Int)) (b_High : List (Int)) (l : List (Int × Int)) (kind : Int) : Option ((List (Int × (List (Int)) × List (Int))) × Bool) :=
  (s_rpAsked b_K b_Low b_High l).bind fun r0 =>
  bif !r0.snd then
    some (([], false))
  else
    (s_rpKind kind).bind fun r1 =>
    bif !r1 then
      some (([], false))
    else
      (s_rpLeaves l).bind fun r2 =>
      s_BoxesOfKind_1006 kind (r0.fst) ([]) r2 ((↑(List.length r2) : Int)) (0)
theorem Ms_BoxesOfKind (k : Nat) (b_K : Int) (b_Low : List (Int)) (b_High : List (Int)) (l : List (Int × Int)) (kind : Int) : Le (f20 k b_K b_Low b_High l kind) (f20 (k + 1) b_K b_Low b_High l kind) := by
  have h := Mls_BoxesOfKind k
  unfold f20 F20
  repeat' first | with_reducible exact Le.rfl _ | with_reducible exact Ms_rpAsked _ _ _ _ _ | with_reducible exact Ms_rpKind _ _ | with_reducible exact Ms_rpLeaves _ _ | with_reducible exact h _ _ _ _ _ _ | with_reducible refine Le.cond ?_ ?_ | with_reducible refine Le.bind ?_ fun _ => ?_
theorem Rs_BoxesOfKind (b_K : Int) (b_Low : List (Int)) (b_High : List (Int)) (l : List (Int × Int)) (kind : Int) : Lim (fun k => f20 k b_K b_Low b_High l kind) (s_BoxesOfKind b_K b_Low b_High l kind) := by
  unfold f20 F20 s_BoxesOfKind
  repeat' first | with_reducible exact Lim.ret _ | with_reducible exact Rs_rpAsked _ _ _ _ | with_reducible exact Rs_rpKind _ | with_reducible exact Rs_rpLeaves _ | with_reducible exact Rls_BoxesOfKind_1006 _ _ _ _ _ _ | with_reducible refine Lim.cond ?_ ?_ | with_reducible refine Lim.bind ?_ fun _ => ?_

-- impl.treeFits
noncomputable def i_treeFits (b : Int × (List (Int)) × List (Int)) (l : List (Int × Int)) : Option (Bool) :=
  (i_isBox b).bind fun r0 =>
  bif !r0 then
    some false
  else
    (i_isTree l (↑(List.length b.snd.fst) : Int)).bind fun r1 =>
    bif !r1 then
      some false
    else
      (i_leafBoxes b l).bind fun r2 =>
      some (r2.snd)
theorem Mi_treeFits (k : Nat) (b : Int × (List (Int)) × List (Int)) (l : List (Int × Int)) : Le (f49 k b l) (f49 (k + 1) b l) := by
  unfold f49
  repeat' first | with_reducible exact Le.rfl _ | with_reducible exact Mi_isBox _ _ | with_reducible exact Mi_isTree _ _ _ | with_reducible exact Mi_leafBoxes _ _ _ | with_reducible refine Le.cond ?_ ?_ | with_reducible refine Le.bind ?_ fun _ => ?_
theorem Ri_treeFits (b : Int × (List (Int)) × List (Int)) (l : List (Int × Int)) : Lim (fun k => f49 k b l) (i_treeFits b l) := by
  unfold f49 i_treeFits
  repeat' first | with_reducible exact Lim.ret _ | with_reducible exact Ri_isBox _ | with_reducible exact Ri_isTree _ _ | with_reducible exact Ri_leafBoxes _ _ | with_reducible refine Lim.cond ?_ ?_ | with_reducible refine Lim.bind ?_ fun _ => ?_

-- impl.isLeafKind
noncomputable def i_isLeafKind (kind : Int) : Option (Bool) :=
  (i_inside kind 1 3).bind fun r0 =>
  some r0
theorem Mi_isLeafKind (k : Nat) (kind : Int) : Le (f50 k kind) (f50 (k + 1) kind) := by
  unfold f50
  repeat' first | with_reducible exact Le.rfl _ | with_reducible exact Mi_inside _ _ _ _ | with_reducible refine Le.cond ?_ ?_ | with_reducible refine Le.bind ?_ fun _ => ?_
theorem Ri_isLeafKind (kind : Int) : Lim (fun k => f50 k kind) (i_isLeafKind kind) := by
  unfold f50 i_isLeafKind
  repeat' first | with_reducible exact Lim.ret _ | with_reducible exact Ri_inside _ _ _ | with_reducible refine Lim.cond ?_ ?_ | with_reducible refine Lim.bind ?_ fun _ => ?_

-- impl.leafPlaces
theorem MFi_leafPlaces_1003 (k : Nat) {r1003 q1003 : List Int → List (Int × Int) → Int → Int → Option (List (Int))} (h1003 : ∀ (outs : List Int) (t6 : List (Int × Int)) (t7 : Int) (t8 : Int), Le (r1003 outs t6 t7 t8) (q1003 outs t6 t7 t8)) (outs : List Int) (t6 : List (Int × Int)) (t7 : Int) (t8 : Int) : Le (F58_1003 k r1003 outs t6 t7 t8) (F58_1003 (k + 1) q1003 outs t6 t7 t8) := by
  unfold F58_1003
  repeat' first | with_reducible exact Le.rfl _ | with_reducible exact h1003 _ _ _ _ | with_reducible refine Le.cond ?_ ?_ | with_reducible refine Le.bind ?_ fun _ => ?_
theorem Mli_leafPlaces : ∀ k : Nat, ∀ (outs : List Int) (t6 : List (Int × Int)) (t7 : Int) (t8 : Int), Le ((l58 k) outs t6 t7 t8) ((l58 (k + 1)) outs t6 t7 t8)
  | 0 => fun outs t6 t7 t8 => Le.no _
  | k + 1 => by
    have h := Mli_leafPlaces k
    exact fun outs t6 t7 t8 => MFi_leafPlaces_1003 k h outs t6 t7 t8
noncomputable def i_leafPlaces_1003 (outs : List Int) (t6 : List (Int × Int)) (t7 : Int) (t8 : Int) : Option (List (Int)) := lim fun k => (l58 k) outs t6 t7 t8
theorem Rli_leafPlaces_1003 (outs : List Int) (t6 : List (Int × Int)) (t7 : Int) (t8 : Int) : Lim (fun k => (l58 k) outs t6 t7 t8) (i_leafPlaces_1003 outs t6 t7 t8) := Lim.of_mono fun k => Mli_leafPlaces k outs t6 t7 t8
theorem Ei_leafPlaces_1003 (outs : List Int) (t6 : List (Int × Int)) (t7 : Int) (t8 : Int) : i_leafPlaces_1003 outs t6 t7 t8 =
  bif decide (t8 < t7) then
    bif boundA t8 (List.length t6) then
      bif !decide ((List.getD t6 (Int.toNat t8) (0, 0)).fst = 0) then
        bif decide ((List.length outs + List.length [t8]) * 8 ≤ 140737488355328) then
          i_leafPlaces_1003 (outs ++ [t8]) t6 t7 (IntKind.wrap IntKind.i64 (t8 + 1))
        else
          none
      else
        i_leafPlaces_1003 outs t6 t7 (IntKind.wrap IntKind.i64 (t8 + 1))
    else
      none
  else
    some outs := by
  refine Lim.uniq (Lim.shift (Rli_leafPlaces_1003 outs t6 t7 t8)) (?_ : Lim (fun k => F58_1003 k ((l58 k)) outs t6 t7 t8) _)
  unfold F58_1003
  repeat' first | with_reducible exact Lim.ret _ | with_reducible exact Rli_leafPlaces_1003 _ _ _ _ | with_reducible refine Lim.cond ?_ ?_ | with_reducible refine Lim.bind ?_ fun _ => ?_
noncomputable def i_leafPlaces (l : List (Int × Int)) : Option (List (Int)) :=
  i_leafPlaces_1003 ([]) l ((↑(List.length l) : Int)) (0)
theorem Mi_leafPlaces (k : Nat) (l : List (Int × Int)) : Le (f58 k l) (f58 (k + 1) l) := by
  have h := Mli_leafPlaces k
  unfold f58 F58
  repeat' first | with_reducible exact Le.rfl _ | with_reducible exact h _ _ _ _ | with_reducible refine Le.cond ?_ ?_ | with_reducible refine Le.bind ?_ fun _ => ?_
theorem Ri_leafPlaces (l : List (Int × Int)) : Lim (fun k => f58 k l) (i_leafPlaces l) := by
  unfold f58 F58 i_leafPlaces
  repeat' first | with_reducible exact Lim.ret _ | with_reducible exact Rli_leafPlaces_1003 _ _ _ _ | with_reducible refine Lim.cond ?_ ?_ | with_reducible refine Lim.bind ?_ fun _ => ?_

-- impl.boxesOfKind
theorem MFi_boxesOfKind_1004 (k : Nat) {r1004 q1004 : List (Int × Int) → Int → Nat → List (Int × List Int × List Int) → List (Int × List Int × List Int) → List Int → Int → Int → Option (List (Int × (List (Int)) × List (Int)))} (h1004 : ∀ (l : List (Int × Int)) (kind : Int) (boxess_k : Nat) (boxess : List (Int × List Int × List Int)) (outs : List (Int × List Int × List Int)) (t19s : List Int) (t20 : Int) (t21 : Int), Le (r1004 l kind boxess_k boxess outs t19s t20 t21) (q1004 l kind boxess_k boxess outs t19s t20 t21)) (l : List (Int × Int)) (kind : Int) (boxess_k : Nat) (boxess : List (Int × List Int × List Int)) (outs : List (Int × List Int × List Int)) (t19s : List Int) (t20 : Int) (t21 : Int) : Le (F51_1004 k r1004 l kind boxess_k boxess outs t19s t20 t21) (F51_1004 (k + 1) q1004 l kind boxess_k boxess outs t19s t20 t21) := by
  unfold F51_1004
  repeat' first | with_reducible exact Le.rfl _ | with_reducible exact h1004 _ _ _ _ _ _ _ _ | with_reducible refine Le.cond ?_ ?_ | with_reducible refine Le.bind ?_ fun _ => ?_
theorem Mli_boxesOfKind : ∀ k : Nat, ∀ (l : List (Int × Int)) (kind : Int) (boxess_k : Nat) (boxess : List (Int × List Int × List Int)) (outs : List (Int × List Int × List Int)) (t19s : List Int) (t20 : Int) (t21 : Int), Le ((l51 k) l kind boxess_k boxess outs t19s t20 t21) ((l51 (k + 1)) l kind boxess_k boxess outs t19s t20 t21)
  | 0 => fun l kind boxess_k boxess outs t19s t20 t21 => Le.no _
  | k + 1 => by
    have h := Mli_boxesOfKind k
    exact fun l kind boxess_k boxess outs t19s t20 t21 => MFi_boxesOfKind_1004 k h l kind boxess_k boxess outs t19s t20 t21
noncomputable def i_boxesOfKind_1004 (l : List (Int × Int)) (kind : Int) (boxess_k : Nat) (boxess : List (Int × List Int × List Int)) (outs : List (Int × List Int × List Int)) (t19s : List Int) (t20 : Int) (t21 : Int) : Option (List (Int × (List (Int)) × List (Int))) := lim fun k => (l51 k) l kind boxess_k boxess outs t19s t20 t21
theorem Rli_boxesOfKind_1004 (l : List (Int × Int)) (kind : Int) (boxess_k : Nat) (boxess : List (Int × List Int × List Int)) (outs : List (Int × List Int × List Int)) (t19s : List Int) (t20 : Int) (t21 : Int) : Lim (fun k => (l51 k) l kind boxess_k boxess outs t19s t20 t21) (i_boxesOfKind_1004 l kind boxess_k boxess outs t19s t20 t21) := Lim.of_mono fun k => Mli_boxesOfKind k l kind boxess_k boxess outs t19s t20 t21
theorem Ei_boxesOfKind_1004 (l : List (Int × Int)) (kind : Int) (boxess_k : Nat) (boxess : List (Int × List Int × List Int)) (outs : List (Int × List Int × List Int)) (t19s : List Int) (t20 : Int) (t21 : Int) : i_boxesOfKind_1004 l kind boxess_k boxess outs t19s t20 t21 =
  bif decide (t21 < t20) then
    bif boundA t21 (List.length t19s) then
      bif Nat.blt (Int.toNat t21) (List.length t19s) then
        bif boundA (List.getD t19s (Int.toNat t21) 0) (List.length l) then
          bif decide ((List.getD l (Int.toNat (List.getD t19s (Int.toNat t21) 0)) (0, 0)).fst = kind) then
            bif boundA t21 (List.length boxess) then
              bif Nat.blt (Int.toNat t21) (List.length boxess) then
                bif leK boxess_k (Int.toNat t21) then
                  bif decide ((List.length outs + List.length [((List.getD boxess (Int.toNat t21) (0, [], [])).fst, (List.getD boxess (Int.toNat t21) (0, [], [])).snd.fst, (List.getD boxess (Int.toNat t21) (0, [], [])).snd.snd)]) * 56 ≤ 140737488355328) then
                    i_boxesOfKind_1004 l kind (Int.toNat t21 + 1) boxess (outs ++ [((List.getD boxess (Int.toNat t21) (0, [], [])).fst, (List.getD boxess (Int.toNat t21) (0, [], [])).snd.fst, (List.getD boxess (Int.toNat t21) (0, [], [])).snd.snd)]) t19s t20 (IntKind.wrap IntKind.i64 (t21 + 1))
                  else
                    none
                else
                  none
              else
                none
            else
              none
          else
            i_boxesOfKind_1004 l kind boxess_k boxess outs t19s t20 (IntKind.wrap IntKind.i64 (t21 + 1))
        else
          none
      else
        none
    else
      none
  else
    some outs := by
  refine Lim.uniq (Lim.shift (Rli_boxesOfKind_1004 l kind boxess_k boxess outs t19s t20 t21)) (?_ : Lim (fun k => F51_1004 k ((l51 k)) l kind boxess_k boxess outs t19s t20 t21) _)
  unfold F51_1004
  repeat' first | with_reducible exact Lim.ret _ | with_reducible exact Rli_boxesOfKind_1004 _ _ _ _ _ _ _ _ | with_reducible refine Lim.cond ?_ ?_ | with_reducible refine Lim.bind ?_ fun _ => ?_
noncomputable def i_boxesOfKind (b : Int × (List (Int)) × List (Int)) (l : List (Int × Int)) (kind : Int) : Option (List (Int × (List (Int)) × List (Int))) :=
  (i_leafBoxes b l).bind fun r0 =>
  (i_leafPlaces l).bind fun r1 =>
  i_boxesOfKind_1004 l kind (0) (r0.fst) ([]) r1 ((↑(List.length r1) : Int)) (0)
theorem Mi_boxesOfKind (k : Nat) (b : Int × (List (Int)) × List (Int)) (l : List (Int × Int)) (kind : Int) : Le (f51 k b l kind) (f51 (k + 1) b l kind) := by
  have h := Mli_boxesOfKind k
  unfold f51 F51
  repeat' first | with_reducible exact Le.rfl _ | with_reducible exact Mi_leafBoxes _ _ _ | with_reducible exact Mi_leafPlaces _ _ | with_reducible exact h _ _ _ _ _ _ _ _ | with_reducible refine Le.cond ?_ ?_ | with_reducible refine Le.bind ?_ fun _ => ?_
theorem Ri_boxesOfKind (b : Int × (List (Int)) × List (Int)) (l : List (Int × Int)) (kind : Int) : Lim (fun k => f51 k b l kind) (i_boxesOfKind b l kind) := by
  unfold f51 F51 i_boxesOfKind
  repeat' first | with_reducible exact Lim.ret _ | with_reducible exact Ri_leafBoxes _ _ | with_reducible exact Ri_leafPlaces _ | with_reducible exact Rli_boxesOfKind_1004 _ _ _ _ _ _ _ _ | with_reducible refine Lim.cond ?_ ?_ | with_reducible refine Lim.bind ?_ fun _ => ?_

-- impl.BoxesOfKind
noncomputable def i_BoxesOfKind (b_K : Int) (b_Low : List (Int)) (b_High : List (Int)) (l : List (Int × Int)) (kind : Int) : Option ((List (Int × (List (Int)) × List (Int))) × Bool) :=
  (i_treeFits (b_K, b_Low, b_High) l).bind fun r0 =>
  bif !r0 then
    some (([], false))
  else
    (i_isLeafKind kind).bind fun r1 =>
    bif !r1 then
      some (([], false))
    else
      (i_boxesOfKind (b_K, b_Low, b_High) l kind).bind fun r2 =>
      some ((r2, true))
theorem Mi_BoxesOfKind (k : Nat) (b_K : Int) (b_Low : List (Int)) (b_High : List (Int)) (l : List (Int × Int)) (kind : Int) : Le (f21 k b_K b_Low b_High l kind) (f21 (k + 1) b_K b_Low b_High l kind) := by
  unfold f21
  repeat' first | with_reducible exact Le.rfl _ | with_reducible exact Mi_treeFits _ _ _ | with_reducible exact Mi_isLeafKind _ _ | with_reducible exact Mi_boxesOfKind _ _ _ _ | with_reducible refine Le.cond ?_ ?_ | with_reducible refine Le.bind ?_ fun _ => ?_
theorem Ri_BoxesOfKind (b_K : Int) (b_Low : List (Int)) (b_High : List (Int)) (l : List (Int × Int)) (kind : Int) : Lim (fun k => f21 k b_K b_Low b_High l kind) (i_BoxesOfKind b_K b_Low b_High l kind) := by
  unfold f21 i_BoxesOfKind
  repeat' first | with_reducible exact Lim.ret _ | with_reducible exact Ri_treeFits _ _ | with_reducible exact Ri_isLeafKind _ | with_reducible exact Ri_boxesOfKind _ _ _ | with_reducible refine Lim.cond ?_ ?_ | with_reducible refine Lim.bind ?_ fun _ => ?_

-- laws.FnExactBoxesOfKind
noncomputable def w_FnExactBoxesOfKind (L_K : Int) (L_Low : List (Int)) (L_High : List (Int)) (i : List (Int × Int)) (s : Int) : Option (Bool) :=
  (w_szBox L_K L_Low L_High 1000000).bind fun r0 =>
  bif decide (r0 < 0) then
    some true
  else
    (w_szNodeS i r0).bind fun r1 =>
    bif decide (r1 < 0) then
      some true
    else
      (w_toBox L_K L_Low L_High false).bind fun r2 =>
      (w_toNodeS i false).bind fun r3 =>
      (s_BoxesOfKind r2.fst (List.take r2.snd.fst.snd r2.snd.fst.fst) (List.take r2.snd.snd.snd r2.snd.snd.fst) (List.take r3.snd r3.fst) s).bind fun r4 =>
      (w_toBox L_K L_Low L_High false).bind fun r5 =>
      (w_toNodeS i false).bind fun r6 =>
      (i_BoxesOfKind r5.fst (List.take r5.snd.fst.snd r5.snd.fst.fst) (List.take r5.snd.snd.snd r5.snd.snd.fst) (List.take r6.snd r6.fst) s).bind fun r7 =>
      (w_eqBoxS r7.fst r4.fst).bind fun r8 =>
      bif !r8 then
        some false
      else
        bif !r7.snd == r4.snd then
          some false
        else
          (w_toBox L_K L_Low L_High false).bind fun r9 =>
          (w_intactBox r5.fst r5.snd.fst.fst r5.snd.fst.snd r5.snd.snd.fst r5.snd.snd.snd r9.fst r9.snd.fst.fst r9.snd.fst.snd r9.snd.snd.fst r9.snd.snd.snd).bind fun r10 =>
          bif !r10 then
            some false
          else
            (w_toNodeS i false).bind fun r11 =>
            (w_intactNodeS r6.fst r6.snd r11.fst r11.snd).bind fun r12 =>
            bif !r12 then
              some false
            else
              (w_markBox r5.snd.fst.fst r5.snd.snd.fst r5.fst r5.snd.fst.snd r5.snd.snd.snd 101).bind fun r13 =>
              (w_markNodeS r6.fst r6.snd r13.snd).bind fun r14 =>
              bif decide (r14.snd < 0) then
                some false
              else
                (w_eqBoxS r7.fst r4.fst).bind fun r15 =>
                bif !r15 then
                  some false
                else
                  bif !r7.snd == r4.snd then
                    some false
                  else
                    (w_markBoxS r7.fst 101).bind fun r16 =>
                    (w_heldBoxS r16.fst 101).bind fun r17 =>
                    bif decide (r17 < 0) then
                      some false
                    else
                      bif !decide (r17 = r16.snd) then
                        some false
                      else
                        (w_toBox L_K L_Low L_High true).bind fun r18 =>
                        (w_toNodeS i true).bind fun r19 =>
                        (i_BoxesOfKind r18.fst (List.take r18.snd.fst.snd r18.snd.fst.fst) (List.take r18.snd.snd.snd r18.snd.snd.fst) (List.take r19.snd r19.fst) s).bind fun r20 =>
                        (w_eqBoxS r20.fst r4.fst).bind fun r21 =>
                        bif !r21 then
                          some false
                        else
                          bif !r20.snd == r4.snd then
                            some false
                          else
                            (w_heldBoxS r16.fst 101).bind fun r22 =>
                            bif decide (r22 < 0) then
                              some false
                            else
                              bif !decide (r22 = r16.snd) then
                                some false
                              else
                                some true
theorem Mw_FnExactBoxesOfKind (k : Nat) (L_K : Int) (L_Low : List (Int)) (L_High : List (Int)) (i : List (Int × Int)) (s : Int) : Le (f4 k L_K L_Low L_High i s) (f4 (k + 1) L_K L_Low L_High i s) := by
  unfold f4
  repeat' first | with_reducible exact Le.rfl _ | with_reducible exact Mw_toBox _ _ _ _ _ | with_reducible exact Mw_toNodeS _ _ _ | with_reducible exact Mw_eqBoxS _ _ _ | with_reducible exact Mw_intactBox _ _ _ _ _ _ _ _ _ _ _ | with_reducible exact Mw_intactNodeS _ _ _ _ _ | with_reducible exact Mw_markBox _ _ _ _ _ _ _ | with_reducible exact Mw_markNodeS _ _ _ _ | with_reducible exact Mw_markBoxS _ _ _ | with_reducible exact Mw_heldBoxS _ _ _ | with_reducible exact Ms_BoxesOfKind _ _ _ _ _ _ | with_reducible exact Mi_BoxesOfKind _ _ _ _ _ _ | with_reducible exact Mw_szBox _ _ _ _ _ | with_reducible exact Mw_szNodeS _ _ _ | with_reducible refine Le.cond ?_ ?_ | with_reducible refine Le.bind ?_ fun _ => ?_
theorem Rw_FnExactBoxesOfKind (L_K : Int) (L_Low : List (Int)) (L_High : List (Int)) (i : List (Int × Int)) (s : Int) : Lim (fun k => f4 k L_K L_Low L_High i s) (w_FnExactBoxesOfKind L_K L_Low L_High i s) := by
  unfold f4 w_FnExactBoxesOfKind
  repeat' first | with_reducible exact Lim.ret _ | with_reducible exact Rw_toBox _ _ _ _ | with_reducible exact Rw_toNodeS _ _ | with_reducible exact Rw_eqBoxS _ _ | with_reducible exact Rw_intactBox _ _ _ _ _ _ _ _ _ _ | with_reducible exact Rw_intactNodeS _ _ _ _ | with_reducible exact Rw_markBox _ _ _ _ _ _ | with_reducible exact Rw_markNodeS _ _ _ | with_reducible exact Rw_markBoxS _ _ | with_reducible exact Rw_heldBoxS _ _ | with_reducible exact Rs_BoxesOfKind _ _ _ _ _ | with_reducible exact Ri_BoxesOfKind _ _ _ _ _ | with_reducible exact Rw_szBox _ _ _ _ | with_reducible exact Rw_szNodeS _ _ | with_reducible refine Lim.cond ?_ ?_ | with_reducible refine Lim.bind ?_ fun _ => ?_

-- spec.bxAt
theorem MFs_bxAt_1004 (k : Nat) {r1004 q1004 : Int → List Int → List Int → List Int → List Int → Int → List Int → Int → Int → Option ((List (Int)) × List (Int))} (h1004 : ∀ (bs_0 : Int) (bs_1 : List Int) (bs_2 : List Int) (lows : List Int) (highs : List Int) (step : Int) (t14 : List Int) (t15 : Int) (t16 : Int), Le (r1004 bs_0 bs_1 bs_2 lows highs step t14 t15 t16) (q1004 bs_0 bs_1 bs_2 lows highs step t14 t15 t16)) (bs_0 : Int) (bs_1 : List Int) (bs_2 : List Int) (lows : List Int) (highs : List Int) (step : Int) (t14 : List Int) (t15 : Int) (t16 : Int) : Le (F81_1004 k r1004 bs_0 bs_1 bs_2 lows highs step t14 t15 t16) (F81_1004 (k + 1) q1004 bs_0 bs_1 bs_2 lows highs step t14 t15 t16) := by
  unfold F81_1004
  repeat' first | with_reducible exact Le.rfl _ | with_reducible exact h1004 _ _ _ _ _ _ _ _ _ | with_reducible refine Le.cond ?_ ?_ | with_reducible refine Le.bind ?_ fun _ => ?_
theorem Mls_bxAt : ∀ k : Nat, ∀ (bs_0 : Int) (bs_1 : List Int) (bs_2 : List Int) (lows : List Int) (highs : List Int) (step : Int) (t14 : List Int) (t15 : Int) (t16 : Int), Le ((l81 k) bs_0 bs_1 bs_2 lows highs step t14 t15 t16) ((l81 (k + 1)) bs_0 bs_1 bs_2 lows highs step t14 t15 t16)
  | 0 => fun bs_0 bs_1 bs_2 lows highs step t14 t15 t16 => Le.no _
  | k + 1 => by
    have h := Mls_bxAt k
    exact fun bs_0 bs_1 bs_2 lows highs step t14 t15 t16 => MFs_bxAt_1004 k h bs_0 bs_1 bs_2 lows highs step t14 t15 t16
noncomputable def s_bxAt_1004 (bs_0 : Int) (bs_1 : List Int) (bs_2 : List Int) (lows : List Int) (highs : List Int) (step : Int) (t14 : List Int) (t15 : Int) (t16 : Int) : Option ((List (Int)) × List (Int)) := lim fun k => (l81 k) bs_0 bs_1 bs_2 lows highs step t14 t15 t16
theorem Rls_bxAt_1004 (bs_0 : Int) (bs_1 : List Int) (bs_2 : List Int) (lows : List Int) (highs : List Int) (step : Int) (t14 : List Int) (t15 : Int) (t16 : Int) : Lim (fun k => (l81 k) bs_0 bs_1 bs_2 lows highs step t14 t15 t16) (s_bxAt_1004 bs_0 bs_1 bs_2 lows highs step t14 t15 t16) := Lim.of_mono fun k => Mls_bxAt k bs_0 bs_1 bs_2 lows highs step t14 t15 t16
theorem Es_bxAt_1004 (bs_0 : Int) (bs_1 : List Int) (bs_2 : List Int) (lows : List Int) (highs : List Int) (step : Int) (t14 : List Int) (t15 : Int) (t16 : Int) : s_bxAt_1004 bs_0 bs_1 bs_2 lows highs step t14 t15 t16 =
  bif decide (t16 < t15) then
    bif boundA t16 (List.length t14) then
      bif decide ((List.length lows + List.length [IntKind.wrap IntKind.i64 (List.getD t14 (Int.toNat t16) 0 * step)]) * 8 ≤ 140737488355328) then
        bif boundA t16 (List.length bs_2) then
          bif decide ((List.length highs + List.length [IntKind.wrap IntKind.i64 (List.getD bs_2 (Int.toNat t16) 0 * step)]) * 8 ≤ 140737488355328) then
            s_bxAt_1004 bs_0 bs_1 bs_2 (lows ++ [IntKind.wrap IntKind.i64 (List.getD t14 (Int.toNat t16) 0 * step)]) (highs ++ [IntKind.wrap IntKind.i64 (List.getD bs_2 (Int.toNat t16) 0 * step)]) step t14 t15 (IntKind.wrap IntKind.i64 (t16 + 1))
          else
            none
        else
          none
      else
        none
    else
      none
  else
    some ((lows, highs)) := by
  refine Lim.uniq (Lim.shift (Rls_bxAt_1004 bs_0 bs_1 bs_2 lows highs step t14 t15 t16)) (?_ : Lim (fun k => F81_1004 k ((l81 k)) bs_0 bs_1 bs_2 lows highs step t14 t15 t16) _)
  unfold F81_1004
  repeat' first | with_reducible exact Lim.ret _ | with_reducible exact Rls_bxAt_1004 _ _ _ _ _ _ _ _ _ | with_reducible refine Lim.cond ?_ ?_ | with_reducible refine Lim.bind ?_ fun _ => ?_
noncomputable def s_bxAt (b_K : Int) (b_Low : List (Int)) (b_High : List (Int)) : Option ((List (Int)) × List (Int)) :=
  (s_dyPower (IntKind.wrap IntKind.i64 (8 - b_K))).bind fun r0 =>
  s_bxAt_1004 b_K b_Low b_High ([]) ([]) r0 b_Low ((↑(List.length b_Low) : Int)) (0)
theorem Ms_bxAt (k : Nat) (b_K : Int) (b_Low : List (Int)) (b_High : List (Int)) : Le (f81 k b_K b_Low b_High) (f81 (k + 1) b_K b_Low b_High) := by
  have h := Mls_bxAt k
  unfold f81 F81
  repeat' first | with_reducible exact Le.rfl _ | with_reducible exact Ms_dyPower _ _ | with_reducible exact h _ _ _ _ _ _ _ _ _ | with_reducible refine Le.cond ?_ ?_ | with_reducible refine Le.bind ?_ fun _ => ?_
theorem Rs_bxAt (b_K : Int) (b_Low : List (Int)) (b_High : List (Int)) : Lim (fun k => f81 k b_K b_Low b_High) (s_bxAt b_K b_Low b_High) := by
  unfold f81 F81 s_bxAt
  repeat' first | with_reducible exact Lim.ret _ | with_reducible exact Rs_dyPower _ | with_reducible exact Rls_bxAt_1004 _ _ _ _ _ _ _ _ _ | with_reducible refine Lim.cond ?_ ?_ | with_reducible refine Lim.bind ?_ fun _ => ?_

-- spec.l1Most
noncomputable def s_l1Most (a : Int) (b : Int) : Option (Int) :=
  bif decide (b < a) then
    some a
  else
    some b
theorem Ms_l1Most (k : Nat) (a : Int) (b : Int) : Le (f82 k a b) (f82 (k + 1) a b) := by
  unfold f82
  repeat' first | with_reducible exact Le.rfl _ | with_reducible refine Le.cond ?_ ?_ | with_reducible refine Le.bind ?_ fun _ => ?_
theorem Rs_l1Most (a : Int) (b : Int) : Lim (fun k => f82 k a b) (s_l1Most a b) := by
  unfold f82 s_l1Most
  repeat' first | with_reducible exact Lim.ret _ | with_reducible refine Lim.cond ?_ ?_ | with_reducible refine Lim.bind ?_ fun _ => ?_

-- spec.l1Least
noncomputable def s_l1Least (a : Int) (b : Int) : Option (Int) :=
  bif decide (a < b) then
    some a
  else
    some b
theorem Ms_l1Least (k : Nat) (a : Int) (b : Int) : Le (f83 k a b) (f83 (k + 1) a b) := by
  unfold f83
  repeat' first | with_reducible exact Le.rfl _ | with_reducible refine Le.cond ?_ ?_ | with_reducible refine Le.bind ?_ fun _ => ?_
theorem Rs_l1Least (a : Int) (b : Int) : Lim (fun k => f83 k a b) (s_l1Least a b) := by
  unfold f83 s_l1Least
  repeat' first | with_reducible exact Lim.ret _ | with_reducible refine Lim.cond ?_ ?_ | with_reducible refine Lim.bind ?_ fun _ => ?_

-- spec.rpTouch
theorem MFs_rpTouch_1004 (k : Nat) {r1004 q1004 : List Int → List Int → List Int → List Int → Int → Int → Option (Bool)} (h1004 : ∀ (highs : List Int) (leasts : List Int) (mosts : List Int) (t21s : List Int) (t22 : Int) (t23 : Int), Le (r1004 highs leasts mosts t21s t22 t23) (q1004 highs leasts mosts t21s t22 t23)) (highs : List Int) (leasts : List Int) (mosts : List Int) (t21s : List Int) (t22 : Int) (t23 : Int) : Le (F57_1004 k r1004 highs leasts mosts t21s t22 t23) (F57_1004 (k + 1) q1004 highs leasts mosts t21s t22 t23) := by
  unfold F57_1004
  repeat' first | with_reducible exact Le.rfl _ | with_reducible exact Ms_l1Most _ _ _ | with_reducible exact Ms_l1Least _ _ _ | with_reducible exact h1004 _ _ _ _ _ _ | with_reducible refine Le.cond ?_ ?_ | with_reducible refine Le.bind ?_ fun _ => ?_
theorem Mls_rpTouch : ∀ k : Nat, ∀ (highs : List Int) (leasts : List Int) (mosts : List Int) (t21s : List Int) (t22 : Int) (t23 : Int), Le ((l57 k) highs leasts mosts t21s t22 t23) ((l57 (k + 1)) highs leasts mosts t21s t22 t23)
  | 0 => fun highs leasts mosts t21s t22 t23 => Le.no _
  | k + 1 => by
    have h := Mls_rpTouch k
    exact fun highs leasts mosts t21s t22 t23 => MFs_rpTouch_1004 k h highs leasts mosts t21s t22 t23
noncomputable def s_rpTouch_1004 (highs : List Int) (leasts : List Int) (mosts : List Int) (t21s : List Int) (t22 : Int) (t23 : Int) : Option (Bool) := lim fun k => (l57 k) highs leasts mosts t21s t22 t23
theorem Rls_rpTouch_1004 (highs : List Int) (leasts : List Int) (mosts : List Int) (t21s : List Int) (t22 : Int) (t23 : Int) : Lim (fun k => (l57 k) highs leasts mosts t21s t22 t23) (s_rpTouch_1004 highs leasts mosts t21s t22 t23) := Lim.of_mono fun k => Mls_rpTouch k highs leasts mosts t21s t22 t23
theorem Es_rpTouch_1004 (highs : List Int) (leasts : List Int) (mosts : List Int) (t21s : List Int) (t22 : Int) (t23 : Int) : s_rpTouch_1004 highs leasts mosts t21s t22 t23 =
  bif decide (t23 < t22) then
    bif boundA t23 (List.length t21s) then
      bif Nat.blt (Int.toNat t23) (List.length t21s) then
        bif boundA t23 (List.length leasts) then
          bif Nat.blt (Int.toNat t23) (List.length leasts) then
            (s_l1Most (List.getD t21s (Int.toNat t23) 0) (List.getD leasts (Int.toNat t23) 0)).bind fun r0 =>
            bif boundA t23 (List.length highs) then
              bif Nat.blt (Int.toNat t23) (List.length highs) then
                bif boundA t23 (List.length mosts) then
                  bif Nat.blt (Int.toNat t23) (List.length mosts) then
                    (s_l1Least (List.getD highs (Int.toNat t23) 0) (List.getD mosts (Int.toNat t23) 0)).bind fun r1 =>
                    bif decide (r1 < r0) then
                      some false
                    else
                      s_rpTouch_1004 highs leasts mosts t21s t22 (IntKind.wrap IntKind.i64 (t23 + 1))
                  else
                    none
                else
                  none
              else
                none
            else
              none
          else
            none
        else
          none
      else
        none
    else
      none
  else
    some true := by
  refine Lim.uniq (Lim.shift (Rls_rpTouch_1004 highs leasts mosts t21s t22 t23)) (?_ : Lim (fun k => F57_1004 k ((l57 k)) highs leasts mosts t21s t22 t23) _)
  unfold F57_1004
  repeat' first | with_reducible exact Lim.ret _ | with_reducible exact Rs_l1Most _ _ | with_reducible exact Rs_l1Least _ _ | with_reducible exact Rls_rpTouch_1004 _ _ _ _ _ _ | with_reducible refine Lim.cond ?_ ?_ | with_reducible refine Lim.bind ?_ fun _ => ?_
noncomputable def s_rpTouch (a_K : Int) (a_Low : List (Int)) (a_High : List (Int)) (b_K : Int) (b_Low : List (Int)) (b_High : List (Int)) : Option (Bool) :=
  (s_bxAt a_K a_Low a_High).bind fun r0 =>
  (s_bxAt b_K b_Low b_High).bind fun r1 =>
  s_rpTouch_1004 (r0.snd) (r1.fst) (r1.snd) (r0.fst) ((↑(List.length r0.fst) : Int)) (0)
theorem Ms_rpTouch (k : Nat) (a_K : Int) (a_Low : List (Int)) (a_High : List (Int)) (b_K : Int) (b_Low : List (Int)) (b_High : List (Int)) : Le (f57 k a_K a_Low a_High b_K b_Low b_High) (f57 (k + 1) a_K a_Low a_High b_K b_Low b_High) := by
  have h := Mls_rpTouch k
  unfold f57 F57
  repeat' first | with_reducible exact Le.rfl _ | with_reducible exact Ms_bxAt _ _ _ _ | with_reducible exact h _ _ _ _ _ _ | with_reducible refine Le.cond ?_ ?_ | with_reducible refine Le.bind ?_ fun _ => ?_
theorem Rs_rpTouch (a_K : Int) (a_Low : List (Int)) (a_High : List (Int)) (b_K : Int) (b_Low : List (Int)) (b_High : List (Int)) : Lim (fun k => f57 k a_K a_Low a_High b_K b_Low b_High) (s_rpTouch a_K a_Low a_High b_K b_Low b_High) := by
  unfold f57 F57 s_rpTouch
  repeat' first | with_reducible exact Lim.ret _ | with_reducible exact Rs_bxAt _ _ _ | with_reducible exact Rls_rpTouch_1004 _ _ _ _ _ _ | with_reducible refine Lim.cond ?_ ?_ | with_reducible refine Lim.bind ?_ fun _ => ?_

-- spec.TouchingHolds
theorem MFs_TouchingHolds_1007 (k : Nat) {r1007 q1007 : List (Int × List Int × List Int) → List (Int × Int) → List (List Int) → Int → Int → Option ((List (List (Int))) × Bool)} (h1007 : ∀ (os : List (Int × List Int × List Int)) (rs : List (Int × Int)) (r_9s : List (List Int)) (t24 : Int) (t25 : Int), Le (r1007 os rs r_9s t24 t25) (q1007 os rs r_9s t24 t25)) {r1010 q1010 : List (Int × List Int × List Int) → List (Int × Int) → List (List Int) → Int → Int → Int → Int → Int → Int → Option ((List (List (Int))) × Bool)} (h1010 : ∀ (os : List (Int × List Int × List Int)) (rs : List (Int × Int)) (r_9s : List (List Int)) (a : Int) (ys_0 : Int) (ys_1 : Int) (t12 : Int) (t24 : Int) (t25 : Int), Le (r1010 os rs r_9s a ys_0 ys_1 t12 t24 t25) (q1010 os rs r_9s a ys_0 ys_1 t12 t24 t25)) (os : List (Int × List Int × List Int)) (rs : List (Int × Int)) (r_9s : List (List Int)) (t24 : Int) (t25 : Int) : Le (F26_1007 k r1007 r1010 os rs r_9s t24 t25) (F26_1007 (k + 1) q1007 q1010 os rs r_9s t24 t25) := by
  unfold F26_1007
  repeat' first | with_reducible exact Le.rfl _ | with_reducible exact h1007 _ _ _ _ _ | with_reducible exact h1010 _ _ _ _ _ _ _ _ _ | with_reducible refine Le.cond ?_ ?_ | with_reducible refine Le.bind ?_ fun _ => ?_
theorem MFs_TouchingHolds_1010 (k : Nat) {r1007 q1007 : List (Int × List Int × List Int) → List (Int × Int) → List (List Int) → Int → Int → Option ((List (List (Int))) × Bool)} (h1007 : ∀ (os : List (Int × List Int × List Int)) (rs : List (Int × Int)) (r_9s : List (List Int)) (t24 : Int) (t25 : Int), Le (r1007 os rs r_9s t24 t25) (q1007 os rs r_9s t24 t25)) {r1010 q1010 : List (Int × List Int × List Int) → List (Int × Int) → List (List Int) → Int → Int → Int → Int → Int → Int → Option ((List (List (Int))) × Bool)} (h1010 : ∀ (os : List (Int × List Int × List Int)) (rs : List (Int × Int)) (r_9s : List (List Int)) (a : Int) (ys_0 : Int) (ys_1 : Int) (t12 : Int) (t24 : Int) (t25 : Int), Le (r1010 os rs r_9s a ys_0 ys_1 t12 t24 t25) (q1010 os rs r_9s a ys_0 ys_1 t12 t24 t25)) (os : List (Int × List Int × List Int)) (rs : List (Int × Int)) (r_9s : List (List Int)) (a : Int) (ys_0 : Int) (ys_1 : Int) (t12 : Int) (t24 : Int) (t25 : Int) : Le (F26_1010 k r1007 r1010 os rs r_9s a ys_0 ys_1 t12 t24 t25) (F26_1010 (k + 1) q1007 q1010 os rs r_9s a ys_0 ys_1 t12 t24 t25) := by
  unfold F26_1010
  repeat' first | with_reducible exact Le.rfl _ | with_reducible exact Ms_rpTouch _ _ _ _ _ _ _ | with_reducible exact h1007 _ _ _ _ _ | with_reducible exact h1010 _ _ _ _ _ _ _ _ _ | with_reducible refine Le.cond ?_ ?_ | with_reducible refine Le.bind ?_ fun _ => ?_
theorem Mls_TouchingHolds : ∀ k : Nat, (∀ (os : List (Int × List Int × List Int)) (rs : List (Int × Int)) (r_9s : List (List Int)) (t24 : Int) (t25 : Int), Le ((l26 k).1 os rs r_9s t24 t25) ((l26 (k + 1)).1 os rs r_9s t24 t25)) ∧ (∀ (os : List (Int × List Int × List Int)) (rs : List (Int × Int)) (r_9s : List (List Int)) (a : Int) (ys_0 : Int) (ys_1 : Int) (t12 : Int) (t24 : Int) (t25 : Int), Le ((l26 k).2 os rs r_9s a ys_0 ys_1 t12 t24 t25) ((l26 (k + 1)).2 os rs r_9s a ys_0 ys_1 t12 t24 t25))
  | 0 => ⟨fun os rs r_9s t24 t25 => Le.no _, fun os rs r_9s a ys_0 ys_1 t12 t24 t25 => Le.no _⟩
  | k + 1 => by
    have h := Mls_TouchingHolds k
    exact ⟨fun os rs r_9s t24 t25 => MFs_TouchingHolds_1007 k h.1 h.2 os rs r_9s t24 t25, fun os rs r_9s a ys_0 ys_1 t12 t24 t25 => MFs_TouchingHolds_1010 k h.1 h.2 os rs r_9s a ys_0 ys_1 t12 t24 t25⟩
noncomputable def s_TouchingHolds_1007 (os : List (Int × List Int × List Int)) (rs : List (Int × Int)) (r_9s : List (List Int)) (t24 : Int) (t25 : Int) : Option ((List (List (Int))) × Bool) := lim fun k => (l26 k).1 os rs r_9s t24 t25
theorem Rls_TouchingHolds_1007 (os : List (Int × List Int × List Int)) (rs : List (Int × Int)) (r_9s : List (List Int)) (t24 : Int) (t25 : Int) : Lim (fun k => (l26 k).1 os rs r_9s t24 t25) (s_TouchingHolds_1007 os rs r_9s t24 t25) := Lim.of_mono fun k => (Mls_TouchingHolds k).1 os rs r_9s t24 t25
noncomputable def s_TouchingHolds_1010 (os : List (Int × List Int × List Int)) (rs : List (Int × Int)) (r_9s : List (List Int)) (a : Int) (ys_0 : Int) (ys_1 : Int) (t12 : Int) (t24 : Int) (t25 : Int) : Option ((List (List (Int))) × Bool) := lim fun k => (l26 k).2 os rs r_9s a ys_0 ys_1 t12 t24 t25
theorem Rls_TouchingHolds_1010 (os : List (Int × List Int × List Int)) (rs : List (Int × Int)) (r_9s : List (List Int)) (a : Int) (ys_0 : Int) (ys_1 : Int) (t12 : Int) (t24 : Int) (t25 : Int) : Lim (fun k => (l26 k).2 os rs r_9s a ys_0 ys_1 t12 t24 t25) (s_TouchingHolds_1010 os rs r_9s a ys_0 ys_1 t12 t24 t25) := Lim.of_mono fun k => (Mls_TouchingHolds k).2 os rs r_9s a ys_0 ys_1 t12 t24 t25
theorem Es_TouchingHolds_1007 (os : List (Int × List Int × List Int)) (rs : List (Int × Int)) (r_9s : List (List Int)) (t24 : Int) (t25 : Int) : s_TouchingHolds_1007 os rs r_9s t24 t25 =
  bif decide (t25 < t24) then
    bif boundA t25 (List.length rs) then
      bif Nat.blt (Int.toNat t25) (List.length rs) then
        s_TouchingHolds_1010 os rs r_9s t25 ((List.getD rs (Int.toNat t25) (0, 0)).fst) ((List.getD rs (Int.toNat t25) (0, 0)).snd) (IntKind.wrap IntKind.i64 (t25 + 1)) t24 t25
      else
        none
    else
      none
  else
    some ((r_9s, true)) := by
  refine Lim.uniq (Lim.shift (Rls_TouchingHolds_1007 os rs r_9s t24 t25)) (?_ : Lim (fun k => F26_1007 k ((l26 k).1) ((l26 k).2) os rs r_9s t24 t25) _)
  unfold F26_1007
  repeat' first | with_reducible exact Lim.ret _ | with_reducible exact Rls_TouchingHolds_1007 _ _ _ _ _ | with_reducible exact Rls_TouchingHolds_1010 _ _ _ _ _ _ _ _ _ | with_reducible refine Lim.cond ?_ ?_ | with_reducible refine Lim.bind ?_ fun _ => ?_
theorem Es_TouchingHolds_1010 (os : List (Int × List Int × List Int)) (rs : List (Int × Int)) (r_9s : List (List Int)) (a : Int) (ys_0 : Int) (ys_1 : Int) (t12 : Int) (t24 : Int) (t25 : Int) : s_TouchingHolds_1010 os rs r_9s a ys_0 ys_1 t12 t24 t25 =
  bif decide (t12 < (↑(List.length rs) : Int)) then
    bif decide (ys_0 = 2) then
      bif boundA t12 (List.length rs) then
        bif Nat.blt (Int.toNat t12) (List.length rs) then
          bif decide ((List.getD rs (Int.toNat t12) (0, 0)).fst = 2) then
            bif boundA a (List.length os) then
              bif Nat.blt (Int.toNat a) (List.length os) then
                bif boundA t12 (List.length os) then
                  bif Nat.blt (Int.toNat t12) (List.length os) then
                    (s_rpTouch (List.getD os (Int.toNat a) (0, [], [])).fst (List.getD os (Int.toNat a) (0, [], [])).snd.fst (List.getD os (Int.toNat a) (0, [], [])).snd.snd (List.getD os (Int.toNat t12) (0, [], [])).fst (List.getD os (Int.toNat t12) (0, [], [])).snd.fst (List.getD os (Int.toNat t12) (0, [], [])).snd.snd).bind fun r0 =>
                    bif r0 then
                      bif decide ((List.length r_9s + List.length [[a, t12]]) * 24 ≤ 140737488355328) then
                        s_TouchingHolds_1010 os rs (r_9s ++ [[a, t12]]) a ys_0 ys_1 (IntKind.wrap IntKind.i64 (t12 + 1)) t24 t25
                      else
                        none
                    else
                      s_TouchingHolds_1010 os rs r_9s a ys_0 ys_1 (IntKind.wrap IntKind.i64 (t12 + 1)) t24 t25
                  else
                    none
                else
                  none
              else
                none
            else
              none
          else
            s_TouchingHolds_1010 os rs r_9s a ys_0 ys_1 (IntKind.wrap IntKind.i64 (t12 + 1)) t24 t25
        else
          none
      else
        none
    else
      s_TouchingHolds_1010 os rs r_9s a ys_0 ys_1 (IntKind.wrap IntKind.i64 (t12 + 1)) t24 t25
  else
    s_TouchingHolds_1007 os rs r_9s t24 (IntKind.wrap IntKind.i64 (t25 + 1)) := by
  refine Lim.uniq (Lim.shift (Rls_TouchingHolds_1010 os rs r_9s a ys_0 ys_1 t12 t24 t25)) (?_ : Lim (fun k => F26_1010 k ((l26 k).1) ((l26 k).2) os rs r_9s a ys_0 ys_1 t12 t24 t25) _)
  unfold F26_1010
  repeat' first | with_reducible exact Lim.ret _ | with_reducible exact Rs_rpTouch _ _ _ _ _ _ | with_reducible exact Rls_TouchingHolds_1007 _ _ _ _ _ | with_reducible exact Rls_TouchingHolds_1010 _ _ _ _ _ _ _ _ _ | with_reducible refine Lim.cond ?_ ?_ | with_reducible refine Lim.bind ?_ fun _ => ?_
noncomputable def s_TouchingHolds (L_K : Int) (L_Low : List (Int)) (L_High : List (Int)) (i : List (Int × Int)) : Option ((List (List (Int))) × Bool) :=
  (s_rpAsked L_K L_Low L_High i).bind fun r0 =>
  bif !r0.snd then
    some (([], false))
  else
    (s_rpLeaves i).bind fun r1 =>
    s_TouchingHolds_1007 (r0.fst) r1 ([]) ((↑(List.length r1) : Int)) (0)
theorem Ms_TouchingHolds (k : Nat) (L_K : Int) (L_Low : List (Int)) (L_High : List (Int)) (i : List (Int × Int)) : Le (f26 k L_K L_Low L_High i) (f26 (k + 1) L_K L_Low L_High i) := by
  have h := Mls_TouchingHolds k
  unfold f26 F26
  repeat' first | with_reducible exact Le.rfl _ | with_reducible exact Ms_rpAsked _ _ _ _ _ | with_reducible exact Ms_rpLeaves _ _ | with_reducible exact h.1 _ _ _ _ _ | with_reducible exact h.2 _ _ _ _ _ _ _ _ _ | with_reducible refine Le.cond ?_ ?_ | with_reducible refine Le.bind ?_ fun _ => ?_
theorem Rs_TouchingHolds (L_K : Int) (L_Low : List (Int)) (L_High : List (Int)) (i : List (Int × Int)) : Lim (fun k => f26 k L_K L_Low L_High i) (s_TouchingHolds L_K L_Low L_High i) := by
  unfold f26 F26 s_TouchingHolds
  repeat' first | with_reducible exact Lim.ret _ | with_reducible exact Rs_rpAsked _ _ _ _ | with_reducible exact Rs_rpLeaves _ | with_reducible exact Rls_TouchingHolds_1007 _ _ _ _ _ | with_reducible exact Rls_TouchingHolds_1010 _ _ _ _ _ _ _ _ _ | with_reducible refine Lim.cond ?_ ?_ | with_reducible refine Lim.bind ?_ fun _ => ?_

-- impl.align
noncomputable def i_align (L : Int × (List (Int)) × List (Int)) (i : Int × (List (Int)) × List (Int)) : Option (Int × (Int × (List (Int)) × List (Int)) × Int × (List (Int)) × List (Int)) :=
  (i_scaled L.snd.fst (IntKind.wrap IntKind.i64 ((bif decide (L.fst < i.fst) then i.fst else L.fst) - L.fst))).bind fun r0 =>
  (i_scaled L.snd.snd (IntKind.wrap IntKind.i64 ((bif decide (L.fst < i.fst) then i.fst else L.fst) - L.fst))).bind fun r1 =>
  (i_scaled i.snd.fst (IntKind.wrap IntKind.i64 ((bif decide (L.fst < i.fst) then i.fst else L.fst) - i.fst))).bind fun r2 =>
  (i_scaled i.snd.snd (IntKind.wrap IntKind.i64 ((bif decide (L.fst < i.fst) then i.fst else L.fst) - i.fst))).bind fun r3 =>
  some ((bif decide (L.fst < i.fst) then i.fst else L.fst, (bif decide (L.fst < i.fst) then i.fst else L.fst, r0, r1), bif decide (L.fst < i.fst) then i.fst else L.fst, r2, r3))
theorem Mi_align (k : Nat) (L : Int × (List (Int)) × List (Int)) (i : Int × (List (Int)) × List (Int)) : Le (f84 k L i) (f84 (k + 1) L i) := by
  unfold f84
  repeat' first | with_reducible exact Le.rfl _ | with_reducible exact Mi_scaled _ _ _ | with_reducible refine Le.cond ?_ ?_ | with_reducible refine Le.bind ?_ fun _ => ?_
theorem Ri_align (L : Int × (List (Int)) × List (Int)) (i : Int × (List (Int)) × List (Int)) : Lim (fun k => f84 k L i) (i_align L i) := by
  unfold f84 i_align
  repeat' first | with_reducible exact Lim.ret _ | with_reducible exact Ri_scaled _ _ | with_reducible refine Lim.cond ?_ ?_ | with_reducible refine Lim.bind ?_ fun _ => ?_

-- impl.doTouch
theorem MFi_doTouch_1003 (k : Nat) {r1003 q1003 : Int → List Int → List Int → Int → List Int → List Int → Int → Int → Option (Bool)} (h1003 : ∀ (xs_0 : Int) (xs : List Int) (xs' : List Int) (ys_0 : Int) (ys : List Int) (ys' : List Int) (t18 : Int) (t19 : Int), Le (r1003 xs_0 xs xs' ys_0 ys ys' t18 t19) (q1003 xs_0 xs xs' ys_0 ys ys' t18 t19)) (xs_0 : Int) (xs : List Int) (xs' : List Int) (ys_0 : Int) (ys : List Int) (ys' : List Int) (t18 : Int) (t19 : Int) : Le (F59_1003 k r1003 xs_0 xs xs' ys_0 ys ys' t18 t19) (F59_1003 (k + 1) q1003 xs_0 xs xs' ys_0 ys ys' t18 t19) := by
  unfold F59_1003
  repeat' first | with_reducible exact Le.rfl _ | with_reducible exact h1003 _ _ _ _ _ _ _ _ | with_reducible refine Le.cond ?_ ?_ | with_reducible refine Le.bind ?_ fun _ => ?_
theorem Mli_doTouch : ∀ k : Nat, ∀ (xs_0 : Int) (xs : List Int) (xs' : List Int) (ys_0 : Int) (ys : List Int) (ys' : List Int) (t18 : Int) (t19 : Int), Le ((l59 k) xs_0 xs xs' ys_0 ys ys' t18 t19) ((l59 (k + 1)) xs_0 xs xs' ys_0 ys ys' t18 t19)
  | 0 => fun xs_0 xs xs' ys_0 ys ys' t18 t19 => Le.no _
  | k + 1 => by
    have h := Mli_doTouch k
    exact fun xs_0 xs xs' ys_0 ys ys' t18 t19 => MFi_doTouch_1003 k h xs_0 xs xs' ys_0 ys ys' t18 t19
noncomputable def i_doTouch_1003 (xs_0 : Int) (xs : List Int) (xs' : List Int) (ys_0 : Int) (ys : List Int) (ys' : List Int) (t18 : Int) (t19 : Int) : Option (Bool) := lim fun k => (l59 k) xs_0 xs xs' ys_0 ys ys' t18 t19
theorem Rli_doTouch_1003 (xs_0 : Int) (xs : List Int) (xs' : List Int) (ys_0 : Int) (ys : List Int) (ys' : List Int) (t18 : Int) (t19 : Int) : Lim (fun k => (l59 k) xs_0 xs xs' ys_0 ys ys' t18 t19) (i_doTouch_1003 xs_0 xs xs' ys_0 ys ys' t18 t19) := Lim.of_mono fun k => Mli_doTouch k xs_0 xs xs' ys_0 ys ys' t18 t19
theorem Ei_doTouch_1003 (xs_0 : Int) (xs : List Int) (xs' : List Int) (ys_0 : Int) (ys : List Int) (ys' : List Int) (t18 : Int) (t19 : Int) : i_doTouch_1003 xs_0 xs xs' ys_0 ys ys' t18 t19 =
  bif decide (t19 < t18) then
    bif boundA t19 (List.length xs) then
      bif Nat.blt (Int.toNat t19) (List.length xs) then
        bif boundA t19 (List.length ys) then
          bif Nat.blt (Int.toNat t19) (List.length ys) then
            bif boundA t19 (List.length xs') then
              bif Nat.blt (Int.toNat t19) (List.length xs') then
                bif boundA t19 (List.length ys') then
                  bif Nat.blt (Int.toNat t19) (List.length ys') then
                    bif decide ((bif decide (List.getD ys' (Int.toNat t19) 0 < List.getD xs' (Int.toNat t19) 0) then List.getD ys' (Int.toNat t19) 0 else List.getD xs' (Int.toNat t19) 0) < bif decide (List.getD xs (Int.toNat t19) 0 < List.getD ys (Int.toNat t19) 0) then List.getD ys (Int.toNat t19) 0 else List.getD xs (Int.toNat t19) 0) then
                      some false
                    else
                      i_doTouch_1003 xs_0 xs xs' ys_0 ys ys' t18 (IntKind.wrap IntKind.i64 (t19 + 1))
                  else
                    none
                else
                  none
              else
                none
            else
              none
          else
            none
        else
          none
      else
        none
    else
      none
  else
    some true := by
  refine Lim.uniq (Lim.shift (Rli_doTouch_1003 xs_0 xs xs' ys_0 ys ys' t18 t19)) (?_ : Lim (fun k => F59_1003 k ((l59 k)) xs_0 xs xs' ys_0 ys ys' t18 t19) _)
  unfold F59_1003
  repeat' first | with_reducible exact Lim.ret _ | with_reducible exact Rli_doTouch_1003 _ _ _ _ _ _ _ _ | with_reducible refine Lim.cond ?_ ?_ | with_reducible refine Lim.bind ?_ fun _ => ?_
noncomputable def i_doTouch (a : Int × (List (Int)) × List (Int)) (b : Int × (List (Int)) × List (Int)) : Option (Bool) :=
  (i_align a b).bind fun r0 =>
  i_doTouch_1003 (r0.snd.fst.fst) (r0.snd.fst.snd.fst) (r0.snd.fst.snd.snd) (r0.snd.snd.fst) (r0.snd.snd.snd.fst) (r0.snd.snd.snd.snd) ((↑(List.length r0.snd.fst.snd.fst) : Int)) (0)
theorem Mi_doTouch (k : Nat) (a : Int × (List (Int)) × List (Int)) (b : Int × (List (Int)) × List (Int)) : Le (f59 k a b) (f59 (k + 1) a b) := by
  have h := Mli_doTouch k
  unfold f59 F59
  repeat' first | with_reducible exact Le.rfl _ | with_reducible exact Mi_align _ _ _ | with_reducible exact h _ _ _ _ _ _ _ _ | with_reducible refine Le.cond ?_ ?_ | with_reducible refine Le.bind ?_ fun _ => ?_
theorem Ri_doTouch (a : Int × (List (Int)) × List (Int)) (b : Int × (List (Int)) × List (Int)) : Lim (fun k => f59 k a b) (i_doTouch a b) := by
  unfold f59 F59 i_doTouch
  repeat' first | with_reducible exact Lim.ret _ | with_reducible exact Ri_align _ _ | with_reducible exact Rli_doTouch_1003 _ _ _ _ _ _ _ _ | with_reducible refine Lim.cond ?_ ?_ | with_reducible refine Lim.bind ?_ fun _ => ?_

-- impl.TouchingHolds
theorem MFi_TouchingHolds_1007 (k : Nat) {r1007 q1007 : List (Int × Int) → List (Int × List Int × List Int) → List Int → List (List Int) → Int → Int → Option ((List (List (Int))) × Bool)} (h1007 : ∀ (i : List (Int × Int)) (os : List (Int × List Int × List Int)) (rs : List Int) (r_9s : List (List Int)) (t23 : Int) (t24 : Int), Le (r1007 i os rs r_9s t23 t24) (q1007 i os rs r_9s t23 t24)) {r1010 q1010 : List (Int × Int) → List (Int × List Int × List Int) → List Int → List (List Int) → Int → Int → Int → Int → Option ((List (List (Int))) × Bool)} (h1010 : ∀ (i : List (Int × Int)) (os : List (Int × List Int × List Int)) (rs : List Int) (r_9s : List (List Int)) (a : Int) (y : Int) (t23 : Int) (t24 : Int), Le (r1010 i os rs r_9s a y t23 t24) (q1010 i os rs r_9s a y t23 t24)) (i : List (Int × Int)) (os : List (Int × List Int × List Int)) (rs : List Int) (r_9s : List (List Int)) (t23 : Int) (t24 : Int) : Le (F27_1007 k r1007 r1010 i os rs r_9s t23 t24) (F27_1007 (k + 1) q1007 q1010 i os rs r_9s t23 t24) := by
  unfold F27_1007
  repeat' first | with_reducible exact Le.rfl _ | with_reducible exact h1007 _ _ _ _ _ _ | with_reducible exact h1010 _ _ _ _ _ _ _ _ | with_reducible refine Le.cond ?_ ?_ | with_reducible refine Le.bind ?_ fun _ => ?_
theorem MFi_TouchingHolds_1010 (k : Nat) {r1007 q1007 : List (Int × Int) → List (Int × List Int × List Int) → List Int → List (List Int) → Int → Int → Option ((List (List (Int))) × Bool)} (h1007 : ∀ (i : List (Int × Int)) (os : List (Int × List Int × List Int)) (rs : List Int) (r_9s : List (List Int)) (t23 : Int) (t24 : Int), Le (r1007 i os rs r_9s t23 t24) (q1007 i os rs r_9s t23 t24)) {r1010 q1010 : List (Int × Int) → List (Int × List Int × List Int) → List Int → List (List Int) → Int → Int → Int → Int → Option ((List (List (Int))) × Bool)} (h1010 : ∀ (i : List (Int × Int)) (os : List (Int × List Int × List Int)) (rs : List Int) (r_9s : List (List Int)) (a : Int) (y : Int) (t23 : Int) (t24 : Int), Le (r1010 i os rs r_9s a y t23 t24) (q1010 i os rs r_9s a y t23 t24)) (i : List (Int × Int)) (os : List (Int × List Int × List Int)) (rs : List Int) (r_9s : List (List Int)) (a : Int) (y : Int) (t23 : Int) (t24 : Int) : Le (F27_1010 k r1007 r1010 i os rs r_9s a y t23 t24) (F27_1010 (k + 1) q1007 q1010 i os rs r_9s a y t23 t24) := by
  unfold F27_1010
  repeat' first | with_reducible exact Le.rfl _ | with_reducible exact Mi_doTouch _ _ _ | with_reducible exact h1007 _ _ _ _ _ _ | with_reducible exact h1010 _ _ _ _ _ _ _ _ | with_reducible refine Le.cond ?_ ?_ | with_reducible refine Le.bind ?_ fun _ => ?_
theorem Mli_TouchingHolds : ∀ k : Nat, (∀ (i : List (Int × Int)) (os : List (Int × List Int × List Int)) (rs : List Int) (r_9s : List (List Int)) (t23 : Int) (t24 : Int), Le ((l27 k).1 i os rs r_9s t23 t24) ((l27 (k + 1)).1 i os rs r_9s t23 t24)) ∧ (∀ (i : List (Int × Int)) (os : List (Int × List Int × List Int)) (rs : List Int) (r_9s : List (List Int)) (a : Int) (y : Int) (t23 : Int) (t24 : Int), Le ((l27 k).2 i os rs r_9s a y t23 t24) ((l27 (k + 1)).2 i os rs r_9s a y t23 t24))
  | 0 => ⟨fun i os rs r_9s t23 t24 => Le.no _, fun i os rs r_9s a y t23 t24 => Le.no _⟩
  | k + 1 => by
    have h := Mli_TouchingHolds k
    exact ⟨fun i os rs r_9s t23 t24 => MFi_TouchingHolds_1007 k h.1 h.2 i os rs r_9s t23 t24, fun i os rs r_9s a y t23 t24 => MFi_TouchingHolds_1010 k h.1 h.2 i os rs r_9s a y t23 t24⟩
noncomputable def i_TouchingHolds_1007 (i : List (Int × Int)) (os : List (Int × List Int × List Int)) (rs : List Int) (r_9s : List (List Int)) (t23 : Int) (t24 : Int) : Option ((List (List (Int))) × Bool) := lim fun k => (l27 k).1 i os rs r_9s t23 t24
theorem Rli_TouchingHolds_1007 (i : List (Int × Int)) (os : List (Int × List Int × List Int)) (rs : List Int) (r_9s : List (List Int)) (t23 : Int) (t24 : Int) : Lim (fun k => (l27 k).1 i os rs r_9s t23 t24) (i_TouchingHolds_1007 i os rs r_9s t23 t24) := Lim.of_mono fun k => (Mli_TouchingHolds k).1 i os rs r_9s t23 t24
noncomputable def i_TouchingHolds_1010 (i : List (Int × Int)) (os : List (Int × List Int × List Int)) (rs : List Int) (r_9s : List (List Int)) (a : Int) (y : Int) (t23 : Int) (t24 : Int) : Option ((List (List (Int))) × Bool) := lim fun k => (l27 k).2 i os rs r_9s a y t23 t24
theorem Rli_TouchingHolds_1010 (i : List (Int × Int)) (os : List (Int × List Int × List Int)) (rs : List Int) (r_9s : List (List Int)) (a : Int) (y : Int) (t23 : Int) (t24 : Int) : Lim (fun k => (l27 k).2 i os rs r_9s a y t23 t24) (i_TouchingHolds_1010 i os rs r_9s a y t23 t24) := Lim.of_mono fun k => (Mli_TouchingHolds k).2 i os rs r_9s a y t23 t24
theorem Ei_TouchingHolds_1007 (i : List (Int × Int)) (os : List (Int × List Int × List Int)) (rs : List Int) (r_9s : List (List Int)) (t23 : Int) (t24 : Int) : i_TouchingHolds_1007 i os rs r_9s t23 t24 =
  bif decide (t24 < t23) then
    i_TouchingHolds_1010 i os rs r_9s t24 (IntKind.wrap IntKind.i64 (t24 + 1)) t23 t24
  else
    some ((r_9s, true)) := by
  refine Lim.uniq (Lim.shift (Rli_TouchingHolds_1007 i os rs r_9s t23 t24)) (?_ : Lim (fun k => F27_1007 k ((l27 k).1) ((l27 k).2) i os rs r_9s t23 t24) _)
  unfold F27_1007
  repeat' first | with_reducible exact Lim.ret _ | with_reducible exact Rli_TouchingHolds_1007 _ _ _ _ _ _ | with_reducible exact Rli_TouchingHolds_1010 _ _ _ _ _ _ _ _ | with_reducible refine Lim.cond ?_ ?_ | with_reducible refine Lim.bind ?_ fun _ => ?_
theorem Ei_TouchingHolds_1010 (i : List (Int × Int)) (os : List (Int × List Int × List Int)) (rs : List Int) (r_9s : List (List Int)) (a : Int) (y : Int) (t23 : Int) (t24 : Int) : i_TouchingHolds_1010 i os rs r_9s a y t23 t24 =
  bif decide (y < (↑(List.length os) : Int)) then
    bif boundA a (List.length rs) then
      bif Nat.blt (Int.toNat a) (List.length rs) then
        bif boundA (List.getD rs (Int.toNat a) 0) (List.length i) then
          bif decide ((List.getD i (Int.toNat (List.getD rs (Int.toNat a) 0)) (0, 0)).fst = 2) then
            bif boundA y (List.length rs) then
              bif Nat.blt (Int.toNat y) (List.length rs) then
                bif boundA (List.getD rs (Int.toNat y) 0) (List.length i) then
                  bif decide ((List.getD i (Int.toNat (List.getD rs (Int.toNat y) 0)) (0, 0)).fst = 2) then
                    bif boundA a (List.length os) then
                      bif boundA y (List.length os) then
                        bif Nat.blt (Int.toNat a) (List.length os) then
                          bif Nat.blt (Int.toNat y) (List.length os) then
                            (i_doTouch (List.getD os (Int.toNat a) (0, [], [])) (List.getD os (Int.toNat y) (0, [], []))).bind fun r0 =>
                            bif r0 then
                              bif decide ((List.length r_9s + List.length [[a, y]]) * 24 ≤ 140737488355328) then
                                i_TouchingHolds_1010 i os rs (r_9s ++ [[a, y]]) a (IntKind.wrap IntKind.i64 (y + 1)) t23 t24
                              else
                                none
                            else
                              i_TouchingHolds_1010 i os rs r_9s a (IntKind.wrap IntKind.i64 (y + 1)) t23 t24
                          else
                            none
                        else
                          none
                      else
                        none
                    else
                      none
                  else
                    i_TouchingHolds_1010 i os rs r_9s a (IntKind.wrap IntKind.i64 (y + 1)) t23 t24
                else
                  none
              else
                none
            else
              none
          else
            i_TouchingHolds_1010 i os rs r_9s a (IntKind.wrap IntKind.i64 (y + 1)) t23 t24
        else
          none
      else
        none
    else
      none
  else
    i_TouchingHolds_1007 i os rs r_9s t23 (IntKind.wrap IntKind.i64 (t24 + 1)) := by
  refine Lim.uniq (Lim.shift (Rli_TouchingHolds_1010 i os rs r_9s a y t23 t24)) (?_ : Lim (fun k => F27_1010 k ((l27 k).1) ((l27 k).2) i os rs r_9s a y t23 t24) _)
  unfold F27_1010
  repeat' first | with_reducible exact Lim.ret _ | with_reducible exact Ri_doTouch _ _ | with_reducible exact Rli_TouchingHolds_1007 _ _ _ _ _ _ | with_reducible exact Rli_TouchingHolds_1010 _ _ _ _ _ _ _ _ | with_reducible refine Lim.cond ?_ ?_ | with_reducible refine Lim.bind ?_ fun _ => ?_
noncomputable def i_TouchingHolds (L_K : Int) (L_Low : List (Int)) (L_High : List (Int)) (i : List (Int × Int)) : Option ((List (List (Int))) × Bool) :=
  (i_treeFits (L_K, L_Low, L_High) i).bind fun r0 =>
  bif !r0 then
    some (([], false))
  else
    (i_leafBoxes (L_K, L_Low, L_High) i).bind fun r1 =>
    (i_leafPlaces i).bind fun r2 =>
    i_TouchingHolds_1007 i (r1.fst) r2 ([]) ((↑(List.length r1.fst) : Int)) (0)
theorem Mi_TouchingHolds (k : Nat) (L_K : Int) (L_Low : List (Int)) (L_High : List (Int)) (i : List (Int × Int)) : Le (f27 k L_K L_Low L_High i) (f27 (k + 1) L_K L_Low L_High i) := by
  have h := Mli_TouchingHolds k
  unfold f27 F27
  repeat' first | with_reducible exact Le.rfl _ | with_reducible exact Mi_leafBoxes _ _ _ | with_reducible exact Mi_treeFits _ _ _ | with_reducible exact Mi_leafPlaces _ _ | with_reducible exact h.1 _ _ _ _ _ _ | with_reducible exact h.2 _ _ _ _ _ _ _ _ | with_reducible refine Le.cond ?_ ?_ | with_reducible refine Le.bind ?_ fun _ => ?_
theorem Ri_TouchingHolds (L_K : Int) (L_Low : List (Int)) (L_High : List (Int)) (i : List (Int × Int)) : Lim (fun k => f27 k L_K L_Low L_High i) (i_TouchingHolds L_K L_Low L_High i) := by
  unfold f27 F27 i_TouchingHolds
  repeat' first | with_reducible exact Lim.ret _ | with_reducible exact Ri_leafBoxes _ _ | with_reducible exact Ri_treeFits _ _ | with_reducible exact Ri_leafPlaces _ | with_reducible exact Rli_TouchingHolds_1007 _ _ _ _ _ _ | with_reducible exact Rli_TouchingHolds_1010 _ _ _ _ _ _ _ _ | with_reducible refine Lim.cond ?_ ?_ | with_reducible refine Lim.bind ?_ fun _ => ?_

-- laws.eqIntSS
theorem MFw_eqIntSS_1004 (k : Nat) {r1004 q1004 : List (List Int) → List (List Int) → Int → Option (Bool)} (h1004 : ∀ (a : List (List Int)) (b : List (List Int)) (i : Int), Le (r1004 a b i) (q1004 a b i)) (a : List (List Int)) (b : List (List Int)) (i : Int) : Le (F28_1004 k r1004 a b i) (F28_1004 (k + 1) q1004 a b i) := by
  unfold F28_1004
  repeat' first | with_reducible exact Le.rfl _ | with_reducible exact Mw_eqIntS _ _ _ | with_reducible exact h1004 _ _ _ | with_reducible refine Le.cond ?_ ?_ | with_reducible refine Le.bind ?_ fun _ => ?_
theorem Mlw_eqIntSS : ∀ k : Nat, ∀ (a : List (List Int)) (b : List (List Int)) (i : Int), Le ((l28 k) a b i) ((l28 (k + 1)) a b i)
  | 0 => fun a b i => Le.no _
  | k + 1 => by
    have h := Mlw_eqIntSS k
    exact fun a b i => MFw_eqIntSS_1004 k h a b i
noncomputable def w_eqIntSS_1004 (a : List (List Int)) (b : List (List Int)) (i : Int) : Option (Bool) := lim fun k => (l28 k) a b i
theorem Rlw_eqIntSS_1004 (a : List (List Int)) (b : List (List Int)) (i : Int) : Lim (fun k => (l28 k) a b i) (w_eqIntSS_1004 a b i) := Lim.of_mono fun k => Mlw_eqIntSS k a b i
theorem Ew_eqIntSS_1004 (a : List (List Int)) (b : List (List Int)) (i : Int) : w_eqIntSS_1004 a b i =
  bif decide (i < (↑(List.length a) : Int)) then
    bif boundA i (List.length a) then
      bif boundA i (List.length b) then
        (w_eqIntS (List.getD a (Int.toNat i) []) (List.getD b (Int.toNat i) [])).bind fun r0 =>
        bif !r0 then
          some false
        else
          w_eqIntSS_1004 a b (IntKind.wrap IntKind.i64 (i + 1))
      else
        none
    else
      none
  else
    some true := by
  refine Lim.uniq (Lim.shift (Rlw_eqIntSS_1004 a b i)) (?_ : Lim (fun k => F28_1004 k ((l28 k)) a b i) _)
  unfold F28_1004
  repeat' first | with_reducible exact Lim.ret _ | with_reducible exact Rw_eqIntS _ _ | with_reducible exact Rlw_eqIntSS_1004 _ _ _ | with_reducible refine Lim.cond ?_ ?_ | with_reducible refine Lim.bind ?_ fun _ => ?_
noncomputable def w_eqIntSS (a : List (List (Int))) (b : List (List (Int))) : Option (Bool) :=
  bif !decide ((↑(List.length a) : Int) = (↑(List.length b) : Int)) then
    some false
  else
    w_eqIntSS_1004 a b (0)
theorem Mw_eqIntSS (k : Nat) (a : List (List (Int))) (b : List (List (Int))) : Le (f28 k a b) (f28 (k + 1) a b) := by
  have h := Mlw_eqIntSS k
  unfold f28 F28
  repeat' first | with_reducible exact Le.rfl _ | with_reducible exact h _ _ _ | with_reducible refine Le.cond ?_ ?_ | with_reducible refine Le.bind ?_ fun _ => ?_
theorem Rw_eqIntSS (a : List (List (Int))) (b : List (List (Int))) : Lim (fun k => f28 k a b) (w_eqIntSS a b) := by
  unfold f28 F28 w_eqIntSS
  repeat' first | with_reducible exact Lim.ret _ | with_reducible exact Rlw_eqIntSS_1004 _ _ _ | with_reducible refine Lim.cond ?_ ?_ | with_reducible refine Lim.bind ?_ fun _ => ?_

-- laws.markIntSS
theorem MFw_markIntSS_1002 (k : Nat) {r1002 q1002 : Int → Int → List (List Int) → Option (((List (List (Int)))) × Int)} (h1002 : ∀ (k_ : Int) (i : Int) (p3 : List (List Int)), Le (r1002 k_ i p3) (q1002 k_ i p3)) (k_ : Int) (i : Int) (p3 : List (List Int)) : Le (F29_1002 k r1002 k_ i p3) (F29_1002 (k + 1) q1002 k_ i p3) := by
  unfold F29_1002
  repeat' first | with_reducible exact Le.rfl _ | with_reducible exact Mw_markIntS_x0 _ _ _ | with_reducible exact h1002 _ _ _ | with_reducible refine Le.cond ?_ ?_ | with_reducible refine Le.bind ?_ fun _ => ?_
theorem Mlw_markIntSS : ∀ k : Nat, ∀ (k_ : Int) (i : Int) (p3 : List (List Int)), Le ((l29 k) k_ i p3) ((l29 (k + 1)) k_ i p3)
  | 0 => fun k_ i p3 => Le.no _
  | k + 1 => by
    have h := Mlw_markIntSS k
    exact fun k_ i p3 => MFw_markIntSS_1002 k h k_ i p3
noncomputable def w_markIntSS_1002 (k_ : Int) (i : Int) (p3 : List (List Int)) : Option (((List (List (Int)))) × Int) := lim fun k => (l29 k) k_ i p3
theorem Rlw_markIntSS_1002 (k_ : Int) (i : Int) (p3 : List (List Int)) : Lim (fun k => (l29 k) k_ i p3) (w_markIntSS_1002 k_ i p3) := Lim.of_mono fun k => Mlw_markIntSS k k_ i p3
theorem Ew_markIntSS_1002 (k_ : Int) (i : Int) (p3 : List (List Int)) : w_markIntSS_1002 k_ i p3 =
  bif decide (i < (↑(List.length p3) : Int)) then
    bif boundA i (List.length p3) then
      bif Nat.blt (Int.toNat i) (List.length p3) then
        (w_markIntS_x0 (List.getD p3 (Int.toNat i) []) k_).bind fun r0 =>
        w_markIntSS_1002 (r0.snd) (IntKind.wrap IntKind.i64 (i + 1)) (List.set p3 (Int.toNat i) r0.fst)
      else
        none
    else
      none
  else
    some ((p3, k_)) := by
  refine Lim.uniq (Lim.shift (Rlw_markIntSS_1002 k_ i p3)) (?_ : Lim (fun k => F29_1002 k ((l29 k)) k_ i p3) _)
  unfold F29_1002
  repeat' first | with_reducible exact Lim.ret _ | with_reducible exact Rw_markIntS_x0 _ _ | with_reducible exact Rlw_markIntSS_1002 _ _ _ | with_reducible refine Lim.cond ?_ ?_ | with_reducible refine Lim.bind ?_ fun _ => ?_
noncomputable def w_markIntSS (a : List (List (Int))) (k_ : Int) : Option (((List (List (Int)))) × Int) :=
  w_markIntSS_1002 k_ (0) a
theorem Mw_markIntSS (k : Nat) (a : List (List (Int))) (k_ : Int) : Le (f29 k a k_) (f29 (k + 1) a k_) := by
  have h := Mlw_markIntSS k
  unfold f29 F29
  repeat' first | with_reducible exact Le.rfl _ | with_reducible exact h _ _ _ | with_reducible refine Le.cond ?_ ?_ | with_reducible refine Le.bind ?_ fun _ => ?_
theorem Rw_markIntSS (a : List (List (Int))) (k_ : Int) : Lim (fun k => f29 k a k_) (w_markIntSS a k_) := by
  unfold f29 F29 w_markIntSS
  repeat' first | with_reducible exact Lim.ret _ | with_reducible exact Rlw_markIntSS_1002 _ _ _ | with_reducible refine Lim.cond ?_ ?_ | with_reducible refine Lim.bind ?_ fun _ => ?_

-- laws.heldIntSS
theorem MFw_heldIntSS_1002 (k : Nat) {r1002 q1002 : List (List Int) → Int → Int → Option (Int)} (h1002 : ∀ (a : List (List Int)) (k_ : Int) (i : Int), Le (r1002 a k_ i) (q1002 a k_ i)) (a : List (List Int)) (k_ : Int) (i : Int) : Le (F30_1002 k r1002 a k_ i) (F30_1002 (k + 1) q1002 a k_ i) := by
  unfold F30_1002
  repeat' first | with_reducible exact Le.rfl _ | with_reducible exact Mw_heldIntS _ _ _ _ | with_reducible exact h1002 _ _ _ | with_reducible refine Le.cond ?_ ?_ | with_reducible refine Le.bind ?_ fun _ => ?_
theorem Mlw_heldIntSS : ∀ k : Nat, ∀ (a : List (List Int)) (k_ : Int) (i : Int), Le ((l30 k) a k_ i) ((l30 (k + 1)) a k_ i)
  | 0 => fun a k_ i => Le.no _
  | k + 1 => by
    have h := Mlw_heldIntSS k
    exact fun a k_ i => MFw_heldIntSS_1002 k h a k_ i
noncomputable def w_heldIntSS_1002 (a : List (List Int)) (k_ : Int) (i : Int) : Option (Int) := lim fun k => (l30 k) a k_ i
theorem Rlw_heldIntSS_1002 (a : List (List Int)) (k_ : Int) (i : Int) : Lim (fun k => (l30 k) a k_ i) (w_heldIntSS_1002 a k_ i) := Lim.of_mono fun k => Mlw_heldIntSS k a k_ i
theorem Ew_heldIntSS_1002 (a : List (List Int)) (k_ : Int) (i : Int) : w_heldIntSS_1002 a k_ i =
  bif decide (i < (↑(List.length a) : Int)) then
    bif boundA i (List.length a) then
      (w_heldIntS (List.getD a (Int.toNat i) []) (List.length (List.getD a (Int.toNat i) [])) k_).bind fun r0 =>
      bif decide (r0 < 0) then
        some (-1)
      else
        w_heldIntSS_1002 a r0 (IntKind.wrap IntKind.i64 (i + 1))
    else
      none
  else
    some k_ := by
  refine Lim.uniq (Lim.shift (Rlw_heldIntSS_1002 a k_ i)) (?_ : Lim (fun k => F30_1002 k ((l30 k)) a k_ i) _)
  unfold F30_1002
  repeat' first | with_reducible exact Lim.ret _ | with_reducible exact Rw_heldIntS _ _ _ | with_reducible exact Rlw_heldIntSS_1002 _ _ _ | with_reducible refine Lim.cond ?_ ?_ | with_reducible refine Lim.bind ?_ fun _ => ?_
noncomputable def w_heldIntSS (a : List (List (Int))) (k_ : Int) : Option (Int) :=
  w_heldIntSS_1002 a k_ (0)
theorem Mw_heldIntSS (k : Nat) (a : List (List (Int))) (k_ : Int) : Le (f30 k a k_) (f30 (k + 1) a k_) := by
  have h := Mlw_heldIntSS k
  unfold f30 F30
  repeat' first | with_reducible exact Le.rfl _ | with_reducible exact h _ _ _ | with_reducible refine Le.cond ?_ ?_ | with_reducible refine Le.bind ?_ fun _ => ?_
theorem Rw_heldIntSS (a : List (List (Int))) (k_ : Int) : Lim (fun k => f30 k a k_) (w_heldIntSS a k_) := by
  unfold f30 F30 w_heldIntSS
  repeat' first | with_reducible exact Lim.ret _ | with_reducible exact Rlw_heldIntSS_1002 _ _ _ | with_reducible refine Lim.cond ?_ ?_ | with_reducible refine Lim.bind ?_ fun _ => ?_

-- laws.FnExactTouchingHolds
noncomputable def w_FnExactTouchingHolds (L_K : Int) (L_Low : List (Int)) (L_High : List (Int)) (i : List (Int × Int)) : Option (Bool) :=
  (w_szBox L_K L_Low L_High 1000000).bind fun r0 =>
  bif decide (r0 < 0) then
    some true
  else
    (w_szNodeS i r0).bind fun r1 =>
    bif decide (r1 < 0) then
      some true
    else
      (w_toBox L_K L_Low L_High false).bind fun r2 =>
      (w_toNodeS i false).bind fun r3 =>
      (s_TouchingHolds r2.fst (List.take r2.snd.fst.snd r2.snd.fst.fst) (List.take r2.snd.snd.snd r2.snd.snd.fst) (List.take r3.snd r3.fst)).bind fun r4 =>
      (w_toBox L_K L_Low L_High false).bind fun r5 =>
      (w_toNodeS i false).bind fun r6 =>
      (i_TouchingHolds r5.fst (List.take r5.snd.fst.snd r5.snd.fst.fst) (List.take r5.snd.snd.snd r5.snd.snd.fst) (List.take r6.snd r6.fst)).bind fun r7 =>
      (w_eqIntSS r7.fst r4.fst).bind fun r8 =>
      bif !r8 then
        some false
      else
        bif !r7.snd == r4.snd then
          some false
        else
          (w_toBox L_K L_Low L_High false).bind fun r9 =>
          (w_intactBox r5.fst r5.snd.fst.fst r5.snd.fst.snd r5.snd.snd.fst r5.snd.snd.snd r9.fst r9.snd.fst.fst r9.snd.fst.snd r9.snd.snd.fst r9.snd.snd.snd).bind fun r10 =>
          bif !r10 then
            some false
          else
            (w_toNodeS i false).bind fun r11 =>
            (w_intactNodeS r6.fst r6.snd r11.fst r11.snd).bind fun r12 =>
            bif !r12 then
              some false
            else
              (w_markBox r5.snd.fst.fst r5.snd.snd.fst r5.fst r5.snd.fst.snd r5.snd.snd.snd 101).bind fun r13 =>
              (w_markNodeS r6.fst r6.snd r13.snd).bind fun r14 =>
              bif decide (r14.snd < 0) then
                some false
              else
                (w_eqIntSS r7.fst r4.fst).bind fun r15 =>
                bif !r15 then
                  some false
                else
                  bif !r7.snd == r4.snd then
                    some false
                  else
                    (w_markIntSS r7.fst 101).bind fun r16 =>
                    (w_heldIntSS r16.fst 101).bind fun r17 =>
                    bif decide (r17 < 0) then
                      some false
                    else
                      bif !decide (r17 = r16.snd) then
                        some false
                      else
                        (w_toBox L_K L_Low L_High true).bind fun r18 =>
                        (w_toNodeS i true).bind fun r19 =>
                        (i_TouchingHolds r18.fst (List.take r18.snd.fst.snd r18.snd.fst.fst) (List.take r18.snd.snd.snd r18.snd.snd.fst) (List.take r19.snd r19.fst)).bind fun r20 =>
                        (w_eqIntSS r20.fst r4.fst).bind fun r21 =>
                        bif !r21 then
                          some false
                        else
                          bif !r20.snd == r4.snd then
                            some false
                          else
                            (w_heldIntSS r16.fst 101).bind fun r22 =>
                            bif decide (r22 < 0) then
                              some false
                            else
                              bif !decide (r22 = r16.snd) then
                                some false
                              else
                                some true
theorem Mw_FnExactTouchingHolds (k : Nat) (L_K : Int) (L_Low : List (Int)) (L_High : List (Int)) (i : List (Int × Int)) : Le (f6 k L_K L_Low L_High i) (f6 (k + 1) L_K L_Low L_High i) := by
  unfold f6
  repeat' first | with_reducible exact Le.rfl _ | with_reducible exact Mw_toBox _ _ _ _ _ | with_reducible exact Mw_toNodeS _ _ _ | with_reducible exact Mw_intactBox _ _ _ _ _ _ _ _ _ _ _ | with_reducible exact Mw_intactNodeS _ _ _ _ _ | with_reducible exact Mw_markBox _ _ _ _ _ _ _ | with_reducible exact Mw_markNodeS _ _ _ _ | with_reducible exact Ms_TouchingHolds _ _ _ _ _ | with_reducible exact Mi_TouchingHolds _ _ _ _ _ | with_reducible exact Mw_eqIntSS _ _ _ | with_reducible exact Mw_markIntSS _ _ _ | with_reducible exact Mw_heldIntSS _ _ _ | with_reducible exact Mw_szBox _ _ _ _ _ | with_reducible exact Mw_szNodeS _ _ _ | with_reducible refine Le.cond ?_ ?_ | with_reducible refine Le.bind ?_ fun _ => ?_
theorem Rw_FnExactTouchingHolds (L_K : Int) (L_Low : List (Int)) (L_High : List (Int)) (i : List (Int × Int)) : Lim (fun k => f6 k L_K L_Low L_High i) (w_FnExactTouchingHolds L_K L_Low L_High i) := by
  unfold f6 w_FnExactTouchingHolds
  repeat' first | with_reducible exact Lim.ret _ | with_reducible exact Rw_toBox _ _ _ _ | with_reducible exact Rw_toNodeS _ _ | with_reducible exact Rw_intactBox _ _ _ _ _ _ _ _ _ _ | with_reducible exact Rw_intactNodeS _ _ _ _ | with_reducible exact Rw_markBox _ _ _ _ _ _ | with_reducible exact Rw_markNodeS _ _ _ | with_reducible exact Rs_TouchingHolds _ _ _ _ | with_reducible exact Ri_TouchingHolds _ _ _ _ | with_reducible exact Rw_eqIntSS _ _ | with_reducible exact Rw_markIntSS _ _ | with_reducible exact Rw_heldIntSS _ _ | with_reducible exact Rw_szBox _ _ _ _ | with_reducible exact Rw_szNodeS _ _ | with_reducible refine Lim.cond ?_ ?_ | with_reducible refine Lim.bind ?_ fun _ => ?_

end Go.Proofs.YtchdegcfohegfaaE
