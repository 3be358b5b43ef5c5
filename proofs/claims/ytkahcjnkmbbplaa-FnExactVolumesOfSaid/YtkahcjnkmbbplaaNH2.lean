/- Functions without a count of rounds; printed. -/
import Derived.Test.YtkahcjnkmbbplaaNH1
set_option maxRecDepth 100000
set_option maxHeartbeats 4000000
set_option linter.unusedVariables false
namespace Go.Proofs.YtkahcjnkmbbplaaE
-- impl.CompareTrees
noncomputable def i_CompareTrees (b_K : Int) (b_Low : List (Int)) (b_High : List (Int)) (l : List (Int × Int)) (m : List (Int × Int)) : Option (Int × Bool) :=
  (i_treeFits (b_K, b_Low, b_High) l).bind fun r0 =>
  bif !r0 then
    some ((0, false))
  else
    (i_treeFits (b_K, b_Low, b_High) m).bind fun r1 =>
    bif !r1 then
      some ((0, false))
    else
      (i_kindVolumes (b_K, b_Low, b_High) l).bind fun r2 =>
      (i_kindVolumes (b_K, b_Low, b_High) m).bind fun r3 =>
      bif !r2.snd then
        some ((0, false))
      else
        bif !r3.snd then
          some ((0, false))
        else
          bif boundA 2 (List.length r2.fst) then
            bif Nat.blt (Int.toNat 2) (List.length r2.fst) then
              bif boundA 2 (List.length r3.fst) then
                bif Nat.blt (Int.toNat 2) (List.length r3.fst) then
                  (i_compareD (List.getD r2.fst (Int.toNat 2) (0, 0)).fst (List.getD r2.fst (Int.toNat 2) (0, 0)).snd (List.getD r3.fst (Int.toNat 2) (0, 0)).fst (List.getD r3.fst (Int.toNat 2) (0, 0)).snd).bind fun r4 =>
                  some ((r4, true))
                else
                  none
              else
                none
            else
              none
          else
            none
theorem Mi_CompareTrees (k : Nat) (b_K : Int) (b_Low : List (Int)) (b_High : List (Int)) (l : List (Int × Int)) (m : List (Int × Int)) : Le (f20 k b_K b_Low b_High l m) (f20 (k + 1) b_K b_Low b_High l m) := by
  unfold f20
  repeat' first | with_reducible exact Le.rfl _ | with_reducible exact Mi_treeFits _ _ _ | with_reducible exact Mi_kindVolumes _ _ _ | with_reducible exact Mi_compareD _ _ _ _ _ | with_reducible refine Le.cond ?_ ?_ | with_reducible refine Le.bind ?_ fun _ => ?_
theorem Ri_CompareTrees (b_K : Int) (b_Low : List (Int)) (b_High : List (Int)) (l : List (Int × Int)) (m : List (Int × Int)) : Lim (fun k => f20 k b_K b_Low b_High l m) (i_CompareTrees b_K b_Low b_High l m) := by
  unfold f20 i_CompareTrees
  repeat' first | with_reducible exact Lim.ret _ | with_reducible exact Ri_treeFits _ _ | with_reducible exact Ri_kindVolumes _ _ | with_reducible exact Ri_compareD _ _ _ _ | with_reducible refine Lim.cond ?_ ?_ | with_reducible refine Lim.bind ?_ fun _ => ?_

-- laws.FnExactCompareTrees
noncomputable def w_FnExactCompareTrees (L_K : Int) (L_Low : List (Int)) (L_High : List (Int)) (i : List (Int × Int)) (s : List (Int × Int)) : Option (Bool) :=
  (w_szBox L_K L_Low L_High 1000000).bind fun r0 =>
  bif decide (r0 < 0) then
    some true
  else
    (w_szNodeS i r0).bind fun r1 =>
    bif decide (r1 < 0) then
      some true
    else
      (w_szNodeS s r1).bind fun r2 =>
      bif decide (r2 < 0) then
        some true
      else
        (w_toBox L_K L_Low L_High false).bind fun r3 =>
        (w_toNodeS i false).bind fun r4 =>
        (w_toNodeS s false).bind fun r5 =>
        (s_CompareTrees r3.fst (List.take r3.snd.fst.snd r3.snd.fst.fst) (List.take r3.snd.snd.snd r3.snd.snd.fst) (List.take r4.snd r4.fst) (List.take r5.snd r5.fst)).bind fun r6 =>
        (w_toBox L_K L_Low L_High false).bind fun r7 =>
        (w_toNodeS i false).bind fun r8 =>
        (w_toNodeS s false).bind fun r9 =>
        (i_CompareTrees r7.fst (List.take r7.snd.fst.snd r7.snd.fst.fst) (List.take r7.snd.snd.snd r7.snd.snd.fst) (List.take r8.snd r8.fst) (List.take r9.snd r9.fst)).bind fun r10 =>
        bif !decide (r10.fst = r6.fst) then
          some false
        else
          bif !r10.snd == r6.snd then
            some false
          else
            (w_toBox L_K L_Low L_High false).bind fun r11 =>
            (w_intactBox r7.fst r7.snd.fst.fst r7.snd.fst.snd r7.snd.snd.fst r7.snd.snd.snd r11.fst r11.snd.fst.fst r11.snd.fst.snd r11.snd.snd.fst r11.snd.snd.snd).bind fun r12 =>
            bif !r12 then
              some false
            else
              (w_toNodeS i false).bind fun r13 =>
              (w_intactNodeS r8.fst r8.snd r13.fst r13.snd).bind fun r14 =>
              bif !r14 then
                some false
              else
                (w_toNodeS s false).bind fun r15 =>
                (w_intactNodeS r9.fst r9.snd r15.fst r15.snd).bind fun r16 =>
                bif !r16 then
                  some false
                else
                  (w_toBox L_K L_Low L_High true).bind fun r17 =>
                  (w_toNodeS i true).bind fun r18 =>
                  (w_toNodeS s true).bind fun r19 =>
                  (i_CompareTrees r17.fst (List.take r17.snd.fst.snd r17.snd.fst.fst) (List.take r17.snd.snd.snd r17.snd.snd.fst) (List.take r18.snd r18.fst) (List.take r19.snd r19.fst)).bind fun r20 =>
                  bif !decide (r20.fst = r6.fst) then
                    some false
                  else
                    bif !r20.snd == r6.snd then
                      some false
                    else
                      some true
theorem Mw_FnExactCompareTrees (k : Nat) (L_K : Int) (L_Low : List (Int)) (L_High : List (Int)) (i : List (Int × Int)) (s : List (Int × Int)) : Le (f4 k L_K L_Low L_High i s) (f4 (k + 1) L_K L_Low L_High i s) := by
  unfold f4
  repeat' first | with_reducible exact Le.rfl _ | with_reducible exact Mw_toBox _ _ _ _ _ | with_reducible exact Mw_toNodeS _ _ _ | with_reducible exact Mw_intactBox _ _ _ _ _ _ _ _ _ _ _ | with_reducible exact Mw_intactNodeS _ _ _ _ _ | with_reducible exact Ms_CompareTrees _ _ _ _ _ _ | with_reducible exact Mi_CompareTrees _ _ _ _ _ _ | with_reducible exact Mw_szBox _ _ _ _ _ | with_reducible exact Mw_szNodeS _ _ _ | with_reducible refine Le.cond ?_ ?_ | with_reducible refine Le.bind ?_ fun _ => ?_
theorem Rw_FnExactCompareTrees (L_K : Int) (L_Low : List (Int)) (L_High : List (Int)) (i : List (Int × Int)) (s : List (Int × Int)) : Lim (fun k => f4 k L_K L_Low L_High i s) (w_FnExactCompareTrees L_K L_Low L_High i s) := by
  unfold f4 w_FnExactCompareTrees
  repeat' first | with_reducible exact Lim.ret _ | with_reducible exact Rw_toBox _ _ _ _ | with_reducible exact Rw_toNodeS _ _ | with_reducible exact Rw_intactBox _ _ _ _ _ _ _ _ _ _ | with_reducible exact Rw_intactNodeS _ _ _ _ | with_reducible exact Rs_CompareTrees _ _ _ _ _ | with_reducible exact Ri_CompareTrees _ _ _ _ _ | with_reducible exact Rw_szBox _ _ _ _ | with_reducible exact Rw_szNodeS _ _ | with_reducible refine Lim.cond ?_ ?_ | with_reducible refine Lim.bind ?_ fun _ => ?_

-- spec.rpKind
noncomputable def s_rpKind (kind : Int) : Option (Bool) :=
  (s_l1In kind 1 3).bind fun r0 =>
  some r0
theorem Ms_rpKind (k : Nat) (kind : Int) : Le (f63 k kind) (f63 (k + 1) kind) := by
  unfold f63
  repeat' first | with_reducible exact Le.rfl _ | with_reducible exact Ms_l1In _ _ _ _ | with_reducible refine Le.cond ?_ ?_ | with_reducible refine Le.bind ?_ fun _ => ?_
theorem Rs_rpKind (kind : Int) : Lim (fun k => f63 k kind) (s_rpKind kind) := by
  unfold f63 s_rpKind
  repeat' first | with_reducible exact Lim.ret _ | with_reducible exact Rs_l1In _ _ _ | with_reducible refine Lim.cond ?_ ?_ | with_reducible refine Lim.bind ?_ fun _ => ?_

-- spec.ShareOf
noncomputable def s_ShareOf (b_K : Int) (b_Low : List (Int)) (b_High : List (Int)) (l : List (Int × Int)) (kind : Int) : Option (Int × Bool) :=
  (s_rpAsked b_K b_Low b_High l).bind fun r0 =>
  bif !r0.snd then
    some ((0, false))
  else
    (s_rpKind kind).bind fun r1 =>
    bif !r1 then
      some ((0, false))
    else
      (s_rpVolume r0.fst l kind).bind fun r2 =>
      (s_dyAt r2.fst r2.snd 24).bind fun r3 =>
      (s_bxVolume b_K b_Low b_High).bind fun r4 =>
      (s_dyAt r4.fst r4.snd 24).bind fun r5 =>
      bif !decide (r5.fst = 0) then
        some ((IntKind.wrap IntKind.i64 (Int.tdiv (IntKind.wrap IntKind.i64 (100 * r3.fst)) r5.fst), true))
      else
        none
theorem Ms_ShareOf (k : Nat) (b_K : Int) (b_Low : List (Int)) (b_High : List (Int)) (l : List (Int × Int)) (kind : Int) : Le (f32 k b_K b_Low b_High l kind) (f32 (k + 1) b_K b_Low b_High l kind) := by
  unfold f32
  repeat' first | with_reducible exact Le.rfl _ | with_reducible exact Ms_rpAsked _ _ _ _ _ | with_reducible exact Ms_rpVolume _ _ _ _ | with_reducible exact Ms_bxVolume _ _ _ _ | with_reducible exact Ms_rpKind _ _ | with_reducible exact Ms_dyAt _ _ _ _ | with_reducible refine Le.cond ?_ ?_ | with_reducible refine Le.bind ?_ fun _ => ?_
theorem Rs_ShareOf (b_K : Int) (b_Low : List (Int)) (b_High : List (Int)) (l : List (Int × Int)) (kind : Int) : Lim (fun k => f32 k b_K b_Low b_High l kind) (s_ShareOf b_K b_Low b_High l kind) := by
  unfold f32 s_ShareOf
  repeat' first | with_reducible exact Lim.ret _ | with_reducible exact Rs_rpAsked _ _ _ _ | with_reducible exact Rs_rpVolume _ _ _ | with_reducible exact Rs_bxVolume _ _ _ | with_reducible exact Rs_rpKind _ | with_reducible exact Rs_dyAt _ _ _ | with_reducible refine Lim.cond ?_ ?_ | with_reducible refine Lim.bind ?_ fun _ => ?_

-- impl.isLeafKind
noncomputable def i_isLeafKind (kind : Int) : Option (Bool) :=
  (i_inside kind 1 3).bind fun r0 =>
  some r0
theorem Mi_isLeafKind (k : Nat) (kind : Int) : Le (f65 k kind) (f65 (k + 1) kind) := by
  unfold f65
  repeat' first | with_reducible exact Le.rfl _ | with_reducible exact Mi_inside _ _ _ _ | with_reducible refine Le.cond ?_ ?_ | with_reducible refine Le.bind ?_ fun _ => ?_
theorem Ri_isLeafKind (kind : Int) : Lim (fun k => f65 k kind) (i_isLeafKind kind) := by
  unfold f65 i_isLeafKind
  repeat' first | with_reducible exact Lim.ret _ | with_reducible exact Ri_inside _ _ _ | with_reducible refine Lim.cond ?_ ?_ | with_reducible refine Lim.bind ?_ fun _ => ?_

-- bits.Len64
noncomputable def bits_Len64 (x : Int) : Option (Int) :=
  bif decide (4294967296 ≤ x) then
    bif decide (65536 ≤ Int.fdiv x (2 ^ min (Int.toNat 32) (IntKind.bits IntKind.u64))) then
      bif decide (256 ≤ Int.fdiv (Int.fdiv x (2 ^ min (Int.toNat 32) (IntKind.bits IntKind.u64))) (2 ^ min (Int.toNat 16) (IntKind.bits IntKind.u64))) then
        bif boundA (IntKind.wrap IntKind.u8 (Int.fdiv (Int.fdiv (Int.fdiv x (2 ^ min (Int.toNat 32) (IntKind.bits IntKind.u64))) (2 ^ min (Int.toNat 16) (IntKind.bits IntKind.u64))) (2 ^ min (Int.toNat 8) (IntKind.bits IntKind.u64)))) (ByteArray.size { data := List.toArray (List.append (List.append [0, 1, 2, 2, 3, 3, 3, 3, 4, 4, 4, 4, 4, 4, 4, 4, 5, 5, 5, 5, 5, 5, 5, 5, 5, 5, 5, 5, 5, 5, 5, 5, 6, 6, 6, 6, 6, 6, 6, 6, 6, 6, 6, 6, 6, 6, 6, 6, 6, 6, 6, 6, 6, 6, 6, 6, 6, 6, 6, 6, 6, 6, 6, 6] [7, 7, 7, 7, 7, 7, 7, 7, 7, 7, 7, 7, 7, 7, 7, 7, 7, 7, 7, 7, 7, 7, 7, 7, 7, 7, 7, 7, 7, 7, 7, 7, 7, 7, 7, 7, 7, 7, 7, 7, 7, 7, 7, 7, 7, 7, 7, 7, 7, 7, 7, 7, 7, 7, 7, 7, 7, 7, 7, 7, 7, 7, 7, 7]) (List.append [8, 8, 8, 8, 8, 8, 8, 8, 8, 8, 8, 8, 8, 8, 8, 8, 8, 8, 8, 8, 8, 8, 8, 8, 8, 8, 8, 8, 8, 8, 8, 8, 8, 8, 8, 8, 8, 8, 8, 8, 8, 8, 8, 8, 8, 8, 8, 8, 8, 8, 8, 8, 8, 8, 8, 8, 8, 8, 8, 8, 8, 8, 8, 8] [8, 8, 8, 8, 8, 8, 8, 8, 8, 8, 8, 8, 8, 8, 8, 8, 8, 8, 8, 8, 8, 8, 8, 8, 8, 8, 8, 8, 8, 8, 8, 8, 8, 8, 8, 8, 8, 8, 8, 8, 8, 8, 8, 8, 8, 8, 8, 8, 8, 8, 8, 8, 8, 8, 8, 8, 8, 8, 8, 8, 8, 8, 8, 8])) }) then
          some (IntKind.wrap IntKind.i64 (IntKind.wrap IntKind.i64 (IntKind.wrap IntKind.i64 (32 + 16) + 8) + IntKind.wrap IntKind.i64 (↑(UInt8.toNat (Array.getD (List.toArray (List.append (List.append [0, 1, 2, 2, 3, 3, 3, 3, 4, 4, 4, 4, 4, 4, 4, 4, 5, 5, 5, 5, 5, 5, 5, 5, 5, 5, 5, 5, 5, 5, 5, 5, 6, 6, 6, 6, 6, 6, 6, 6, 6, 6, 6, 6, 6, 6, 6, 6, 6, 6, 6, 6, 6, 6, 6, 6, 6, 6, 6, 6, 6, 6, 6, 6] [7, 7, 7, 7, 7, 7, 7, 7, 7, 7, 7, 7, 7, 7, 7, 7, 7, 7, 7, 7, 7, 7, 7, 7, 7, 7, 7, 7, 7, 7, 7, 7, 7, 7, 7, 7, 7, 7, 7, 7, 7, 7, 7, 7, 7, 7, 7, 7, 7, 7, 7, 7, 7, 7, 7, 7, 7, 7, 7, 7, 7, 7, 7, 7]) (List.append [8, 8, 8, 8, 8, 8, 8, 8, 8, 8, 8, 8, 8, 8, 8, 8, 8, 8, 8, 8, 8, 8, 8, 8, 8, 8, 8, 8, 8, 8, 8, 8, 8, 8, 8, 8, 8, 8, 8, 8, 8, 8, 8, 8, 8, 8, 8, 8, 8, 8, 8, 8, 8, 8, 8, 8, 8, 8, 8, 8, 8, 8, 8, 8] [8, 8, 8, 8, 8, 8, 8, 8, 8, 8, 8, 8, 8, 8, 8, 8, 8, 8, 8, 8, 8, 8, 8, 8, 8, 8, 8, 8, 8, 8, 8, 8, 8, 8, 8, 8, 8, 8, 8, 8, 8, 8, 8, 8, 8, 8, 8, 8, 8, 8, 8, 8, 8, 8, 8, 8, 8, 8, 8, 8, 8, 8, 8, 8]))) (Int.toNat (IntKind.wrap IntKind.u8 (Int.fdiv (Int.fdiv (Int.fdiv x (2 ^ min (Int.toNat 32) (IntKind.bits IntKind.u64))) (2 ^ min (Int.toNat 16) (IntKind.bits IntKind.u64))) (2 ^ min (Int.toNat 8) (IntKind.bits IntKind.u64))))) 0)) : Int)))
        else
          none
      else
        bif boundA (IntKind.wrap IntKind.u8 (Int.fdiv (Int.fdiv x (2 ^ min (Int.toNat 32) (IntKind.bits IntKind.u64))) (2 ^ min (Int.toNat 16) (IntKind.bits IntKind.u64)))) (ByteArray.size { data := List.toArray (List.append (List.append [0, 1, 2, 2, 3, 3, 3, 3, 4, 4, 4, 4, 4, 4, 4, 4, 5, 5, 5, 5, 5, 5, 5, 5, 5, 5, 5, 5, 5, 5, 5, 5, 6, 6, 6, 6, 6, 6, 6, 6, 6, 6, 6, 6, 6, 6, 6, 6, 6, 6, 6, 6, 6, 6, 6, 6, 6, 6, 6, 6, 6, 6, 6, 6] [7, 7, 7, 7, 7, 7, 7, 7, 7, 7, 7, 7, 7, 7, 7, 7, 7, 7, 7, 7, 7, 7, 7, 7, 7, 7, 7, 7, 7, 7, 7, 7, 7, 7, 7, 7, 7, 7, 7, 7, 7, 7, 7, 7, 7, 7, 7, 7, 7, 7, 7, 7, 7, 7, 7, 7, 7, 7, 7, 7, 7, 7, 7, 7]) (List.append [8, 8, 8, 8, 8, 8, 8, 8, 8, 8, 8, 8, 8, 8, 8, 8, 8, 8, 8, 8, 8, 8, 8, 8, 8, 8, 8, 8, 8, 8, 8, 8, 8, 8, 8, 8, 8, 8, 8, 8, 8, 8, 8, 8, 8, 8, 8, 8, 8, 8, 8, 8, 8, 8, 8, 8, 8, 8, 8, 8, 8, 8, 8, 8] [8, 8, 8, 8, 8, 8, 8, 8, 8, 8, 8, 8, 8, 8, 8, 8, 8, 8, 8, 8, 8, 8, 8, 8, 8, 8, 8, 8, 8, 8, 8, 8, 8, 8, 8, 8, 8, 8, 8, 8, 8, 8, 8, 8, 8, 8, 8, 8, 8, 8, 8, 8, 8, 8, 8, 8, 8, 8, 8, 8, 8, 8, 8, 8])) }) then
          some (IntKind.wrap IntKind.i64 (IntKind.wrap IntKind.i64 (32 + 16) + IntKind.wrap IntKind.i64 (↑(UInt8.toNat (Array.getD (List.toArray (List.append (List.append [0, 1, 2, 2, 3, 3, 3, 3, 4, 4, 4, 4, 4, 4, 4, 4, 5, 5, 5, 5, 5, 5, 5, 5, 5, 5, 5, 5, 5, 5, 5, 5, 6, 6, 6, 6, 6, 6, 6, 6, 6, 6, 6, 6, 6, 6, 6, 6, 6, 6, 6, 6, 6, 6, 6, 6, 6, 6, 6, 6, 6, 6, 6, 6] [7, 7, 7, 7, 7, 7, 7, 7, 7, 7, 7, 7, 7, 7, 7, 7, 7, 7, 7, 7, 7, 7, 7, 7, 7, 7, 7, 7, 7, 7, 7, 7, 7, 7, 7, 7, 7, 7, 7, 7, 7, 7, 7, 7, 7, 7, 7, 7, 7, 7, 7, 7, 7, 7, 7, 7, 7, 7, 7, 7, 7, 7, 7, 7]) (List.append [8, 8, 8, 8, 8, 8, 8, 8, 8, 8, 8, 8, 8, 8, 8, 8, 8, 8, 8, 8, 8, 8, 8, 8, 8, 8, 8, 8, 8, 8, 8, 8, 8, 8, 8, 8, 8, 8, 8, 8, 8, 8, 8, 8, 8, 8, 8, 8, 8, 8, 8, 8, 8, 8, 8, 8, 8, 8, 8, 8, 8, 8, 8, 8] [8, 8, 8, 8, 8, 8, 8, 8, 8, 8, 8, 8, 8, 8, 8, 8, 8, 8, 8, 8, 8, 8, 8, 8, 8, 8, 8, 8, 8, 8, 8, 8, 8, 8, 8, 8, 8, 8, 8, 8, 8, 8, 8, 8, 8, 8, 8, 8, 8, 8, 8, 8, 8, 8, 8, 8, 8, 8, 8, 8, 8, 8, 8, 8]))) (Int.toNat (IntKind.wrap IntKind.u8 (Int.fdiv (Int.fdiv x (2 ^ min (Int.toNat 32) (IntKind.bits IntKind.u64))) (2 ^ min (Int.toNat 16) (IntKind.bits IntKind.u64))))) 0)) : Int)))
        else
          none
    else
      bif decide (256 ≤ Int.fdiv x (2 ^ min (Int.toNat 32) (IntKind.bits IntKind.u64))) then
        bif boundA (IntKind.wrap IntKind.u8 (Int.fdiv (Int.fdiv x (2 ^ min (Int.toNat 32) (IntKind.bits IntKind.u64))) (2 ^ min (Int.toNat 8) (IntKind.bits IntKind.u64)))) (ByteArray.size { data := List.toArray (List.append (List.append [0, 1, 2, 2, 3, 3, 3, 3, 4, 4, 4, 4, 4, 4, 4, 4, 5, 5, 5, 5, 5, 5, 5, 5, 5, 5, 5, 5, 5, 5, 5, 5, 6, 6, 6, 6, 6, 6, 6, 6, 6, 6, 6, 6, 6, 6, 6, 6, 6, 6, 6, 6, 6, 6, 6, 6, 6, 6, 6, 6, 6, 6, 6, 6] [7, 7, 7, 7, 7, 7, 7, 7, 7, 7, 7, 7, 7, 7, 7, 7, 7, 7, 7, 7, 7, 7, 7, 7, 7, 7, 7, 7, 7, 7, 7, 7, 7, 7, 7, 7, 7, 7, 7, 7, 7, 7, 7, 7, 7, 7, 7, 7, 7, 7, 7, 7, 7, 7, 7, 7, 7, 7, 7, 7, 7, 7, 7, 7]) (List.append [8, 8, 8, 8, 8, 8, 8, 8, 8, 8, 8, 8, 8, 8, 8, 8, 8, 8, 8, 8, 8, 8, 8, 8, 8, 8, 8, 8, 8, 8, 8, 8, 8, 8, 8, 8, 8, 8, 8, 8, 8, 8, 8, 8, 8, 8, 8, 8, 8, 8, 8, 8, 8, 8, 8, 8, 8, 8, 8, 8, 8, 8, 8, 8] [8, 8, 8, 8, 8, 8, 8, 8, 8, 8, 8, 8, 8, 8, 8, 8, 8, 8, 8, 8, 8, 8, 8, 8, 8, 8, 8, 8, 8, 8, 8, 8, 8, 8, 8, 8, 8, 8, 8, 8, 8, 8, 8, 8, 8, 8, 8, 8, 8, 8, 8, 8, 8, 8, 8, 8, 8, 8, 8, 8, 8, 8, 8, 8])) }) then
          some (IntKind.wrap IntKind.i64 (IntKind.wrap IntKind.i64 (32 + 8) + IntKind.wrap IntKind.i64 (↑(UInt8.toNat (Array.getD (List.toArray (List.append (List.append [0, 1, 2, 2, 3, 3, 3, 3, 4, 4, 4, 4, 4, 4, 4, 4, 5, 5, 5, 5, 5, 5, 5, 5, 5, 5, 5, 5, 5, 5, 5, 5, 6, 6, 6, 6, 6, 6, 6, 6, 6, 6, 6, 6, 6, 6, 6, 6, 6, 6, 6, 6, 6, 6, 6, 6, 6, 6, 6, 6, 6, 6, 6, 6] [7, 7, 7, 7, 7, 7, 7, 7, 7, 7, 7, 7, 7, 7, 7, 7, 7, 7, 7, 7, 7, 7, 7, 7, 7, 7, 7, 7, 7, 7, 7, 7, 7, 7, 7, 7, 7, 7, 7, 7, 7, 7, 7, 7, 7, 7, 7, 7, 7, 7, 7, 7, 7, 7, 7, 7, 7, 7, 7, 7, 7, 7, 7, 7]) (List.append [8, 8, 8, 8, 8, 8, 8, 8, 8, 8, 8, 8, 8, 8, 8, 8, 8, 8, 8, 8, 8, 8, 8, 8, 8, 8, 8, 8, 8, 8, 8, 8, 8, 8, 8, 8, 8, 8, 8, 8, 8, 8, 8, 8, 8, 8, 8, 8, 8, 8, 8, 8, 8, 8, 8, 8, 8, 8, 8, 8, 8, 8, 8, 8] [8, 8, 8, 8, 8, 8, 8, 8, 8, 8, 8, 8, 8, 8, 8, 8, 8, 8, 8, 8, 8, 8, 8, 8, 8, 8, 8, 8, 8, 8, 8, 8, 8, 8, 8, 8, 8, 8, 8, 8, 8, 8, 8, 8, 8, 8, 8, 8, 8, 8, 8, 8, 8, 8, 8, 8, 8, 8, 8, 8, 8, 8, 8, 8]))) (Int.toNat (IntKind.wrap IntKind.u8 (Int.fdiv (Int.fdiv x (2 ^ min (Int.toNat 32) (IntKind.bits IntKind.u64))) (2 ^ min (Int.toNat 8) (IntKind.bits IntKind.u64))))) 0)) : Int)))
        else
          none
      else
        bif boundA (IntKind.wrap IntKind.u8 (Int.fdiv x (2 ^ min (Int.toNat 32) (IntKind.bits IntKind.u64)))) (ByteArray.size { data := List.toArray (List.append (List.append [0, 1, 2, 2, 3, 3, 3, 3, 4, 4, 4, 4, 4, 4, 4, 4, 5, 5, 5, 5, 5, 5, 5, 5, 5, 5, 5, 5, 5, 5, 5, 5, 6, 6, 6, 6, 6, 6, 6, 6, 6, 6, 6, 6, 6, 6, 6, 6, 6, 6, 6, 6, 6, 6, 6, 6, 6, 6, 6, 6, 6, 6, 6, 6] [7, 7, 7, 7, 7, 7, 7, 7, 7, 7, 7, 7, 7, 7, 7, 7, 7, 7, 7, 7, 7, 7, 7, 7, 7, 7, 7, 7, 7, 7, 7, 7, 7, 7, 7, 7, 7, 7, 7, 7, 7, 7, 7, 7, 7, 7, 7, 7, 7, 7, 7, 7, 7, 7, 7, 7, 7, 7, 7, 7, 7, 7, 7, 7]) (List.append [8, 8, 8, 8, 8, 8, 8, 8, 8, 8, 8, 8, 8, 8, 8, 8, 8, 8, 8, 8, 8, 8, 8, 8, 8, 8, 8, 8, 8, 8, 8, 8, 8, 8, 8, 8, 8, 8, 8, 8, 8, 8, 8, 8, 8, 8, 8, 8, 8, 8, 8, 8, 8, 8, 8, 8, 8, 8, 8, 8, 8, 8, 8, 8] [8, 8, 8, 8, 8, 8, 8, 8, 8, 8, 8, 8, 8, 8, 8, 8, 8, 8, 8, 8, 8, 8, 8, 8, 8, 8, 8, 8, 8, 8, 8, 8, 8, 8, 8, 8, 8, 8, 8, 8, 8, 8, 8, 8, 8, 8, 8, 8, 8, 8, 8, 8, 8, 8, 8, 8, 8, 8, 8, 8, 8, 8, 8, 8])) }) then
          some (IntKind.wrap IntKind.i64 (32 + IntKind.wrap IntKind.i64 (↑(UInt8.toNat (Array.getD (List.toArray (List.append (List.append [0, 1, 2, 2, 3, 3, 3, 3, 4, 4, 4, 4, 4, 4, 4, 4, 5, 5, 5, 5, 5, 5, 5, 5, 5, 5, 5, 5, 5, 5, 5, 5, 6, 6, 6, 6, 6, 6, 6, 6, 6, 6, 6, 6, 6, 6, 6, 6, 6, 6, 6, 6, 6, 6, 6, 6, 6, 6, 6, 6, 6, 6, 6, 6] [7, 7, 7, 7, 7, 7, 7, 7, 7, 7, 7, 7, 7, 7, 7, 7, 7, 7, 7, 7, 7, 7, 7, 7, 7, 7, 7, 7, 7, 7, 7, 7, 7, 7, 7, 7, 7, 7, 7, 7, 7, 7, 7, 7, 7, 7, 7, 7, 7, 7, 7, 7, 7, 7, 7, 7, 7, 7, 7, 7, 7, 7, 7, 7]) (List.append [8, 8, 8, 8, 8, 8, 8, 8, 8, 8, 8, 8, 8, 8, 8, 8, 8, 8, 8, 8, 8, 8, 8, 8, 8, 8, 8, 8, 8, 8, 8, 8, 8, 8, 8, 8, 8, 8, 8, 8, 8, 8, 8, 8, 8, 8, 8, 8, 8, 8, 8, 8, 8, 8, 8, 8, 8, 8, 8, 8, 8, 8, 8, 8] [8, 8, 8, 8, 8, 8, 8, 8, 8, 8, 8, 8, 8, 8, 8, 8, 8, 8, 8, 8, 8, 8, 8, 8, 8, 8, 8, 8, 8, 8, 8, 8, 8, 8, 8, 8, 8, 8, 8, 8, 8, 8, 8, 8, 8, 8, 8, 8, 8, 8, 8, 8, 8, 8, 8, 8, 8, 8, 8, 8, 8, 8, 8, 8]))) (Int.toNat (IntKind.wrap IntKind.u8 (Int.fdiv x (2 ^ min (Int.toNat 32) (IntKind.bits IntKind.u64))))) 0)) : Int)))
        else
          none
  else
    bif decide (65536 ≤ x) then
      bif decide (256 ≤ Int.fdiv x (2 ^ min (Int.toNat 16) (IntKind.bits IntKind.u64))) then
        bif boundA (IntKind.wrap IntKind.u8 (Int.fdiv (Int.fdiv x (2 ^ min (Int.toNat 16) (IntKind.bits IntKind.u64))) (2 ^ min (Int.toNat 8) (IntKind.bits IntKind.u64)))) (ByteArray.size { data := List.toArray (List.append (List.append [0, 1, 2, 2, 3, 3, 3, 3, 4, 4, 4, 4, 4, 4, 4, 4, 5, 5, 5, 5, 5, 5, 5, 5, 5, 5, 5, 5, 5, 5, 5, 5, 6, 6, 6, 6, 6, 6, 6, 6, 6, 6, 6, 6, 6, 6, 6, 6, 6, 6, 6, 6, 6, 6, 6, 6, 6, 6, 6, 6, 6, 6, 6, 6] [7, 7, 7, 7, 7, 7, 7, 7, 7, 7, 7, 7, 7, 7, 7, 7, 7, 7, 7, 7, 7, 7, 7, 7, 7, 7, 7, 7, 7, 7, 7, 7, 7, 7, 7, 7, 7, 7, 7, 7, 7, 7, 7, 7, 7, 7, 7, 7, 7, 7, 7, 7, 7, 7, 7, 7, 7, 7, 7, 7, 7, 7, 7, 7]) (List.append [8, 8, 8, 8, 8, 8, 8, 8, 8, 8, 8, 8, 8, 8, 8, 8, 8, 8, 8, 8, 8, 8, 8, 8, 8, 8, 8, 8, 8, 8, 8, 8, 8, 8, 8, 8, 8, 8, 8, 8, 8, 8, 8, 8, 8, 8, 8, 8, 8, 8, 8, 8, 8, 8, 8, 8, 8, 8, 8, 8, 8, 8, 8, 8] [8, 8, 8, 8, 8, 8, 8, 8, 8, 8, 8, 8, 8, 8, 8, 8, 8, 8, 8, 8, 8, 8, 8, 8, 8, 8, 8, 8, 8, 8, 8, 8, 8, 8, 8, 8, 8, 8, 8, 8, 8, 8, 8, 8, 8, 8, 8, 8, 8, 8, 8, 8, 8, 8, 8, 8, 8, 8, 8, 8, 8, 8, 8, 8])) }) then
          some (IntKind.wrap IntKind.i64 (IntKind.wrap IntKind.i64 (IntKind.wrap IntKind.i64 (0 + 16) + 8) + IntKind.wrap IntKind.i64 (↑(UInt8.toNat (Array.getD (List.toArray (List.append (List.append [0, 1, 2, 2, 3, 3, 3, 3, 4, 4, 4, 4, 4, 4, 4, 4, 5, 5, 5, 5, 5, 5, 5, 5, 5, 5, 5, 5, 5, 5, 5, 5, 6, 6, 6, 6, 6, 6, 6, 6, 6, 6, 6, 6, 6, 6, 6, 6, 6, 6, 6, 6, 6, 6, 6, 6, 6, 6, 6, 6, 6, 6, 6, 6] [7, 7, 7, 7, 7, 7, 7, 7, 7, 7, 7, 7, 7, 7, 7, 7, 7, 7, 7, 7, 7, 7, 7, 7, 7, 7, 7, 7, 7, 7, 7, 7, 7, 7, 7, 7, 7, 7, 7, 7, 7, 7, 7, 7, 7, 7, 7, 7, 7, 7, 7, 7, 7, 7, 7, 7, 7, 7, 7, 7, 7, 7, 7, 7]) (List.append [8, 8, 8, 8, 8, 8, 8, 8, 8, 8, 8, 8, 8, 8, 8, 8, 8, 8, 8, 8, 8, 8, 8, 8, 8, 8, 8, 8, 8, 8, 8, 8, 8, 8, 8, 8, 8, 8, 8, 8, 8, 8, 8, 8, 8, 8, 8, 8, 8, 8, 8, 8, 8, 8, 8, 8, 8, 8, 8, 8, 8, 8, 8, 8] [8, 8, 8, 8, 8, 8, 8, 8, 8, 8, 8, 8, 8, 8, 8, 8, 8, 8, 8, 8, 8, 8, 8, 8, 8, 8, 8, 8, 8, 8, 8, 8, 8, 8, 8, 8, 8, 8, 8, 8, 8, 8, 8, 8, 8, 8, 8, 8, 8, 8, 8, 8, 8, 8, 8, 8, 8, 8, 8, 8, 8, 8, 8, 8]))) (Int.toNat (IntKind.wrap IntKind.u8 (Int.fdiv (Int.fdiv x (2 ^ min (Int.toNat 16) (IntKind.bits IntKind.u64))) (2 ^ min (Int.toNat 8) (IntKind.bits IntKind.u64))))) 0)) : Int)))
        else
          none
      else
        bif boundA (IntKind.wrap IntKind.u8 (Int.fdiv x (2 ^ min (Int.toNat 16) (IntKind.bits IntKind.u64)))) (ByteArray.size { data := List.toArray (List.append (List.append [0, 1, 2, 2, 3, 3, 3, 3, 4, 4, 4, 4, 4, 4, 4, 4, 5, 5, 5, 5, 5, 5, 5, 5, 5, 5, 5, 5, 5, 5, 5, 5, 6, 6, 6, 6, 6, 6, 6, 6, 6, 6, 6, 6, 6, 6, 6, 6, 6, 6, 6, 6, 6, 6, 6, 6, 6, 6, 6, 6, 6, 6, 6, 6] [7, 7, 7, 7, 7, 7, 7, 7, 7, 7, 7, 7, 7, 7, 7, 7, 7, 7, 7, 7, 7, 7, 7, 7, 7, 7, 7, 7, 7, 7, 7, 7, 7, 7, 7, 7, 7, 7, 7, 7, 7, 7, 7, 7, 7, 7, 7, 7, 7, 7, 7, 7, 7, 7, 7, 7, 7, 7, 7, 7, 7, 7, 7, 7]) (List.append [8, 8, 8, 8, 8, 8, 8, 8, 8, 8, 8, 8, 8, 8, 8, 8, 8, 8, 8, 8, 8, 8, 8, 8, 8, 8, 8, 8, 8, 8, 8, 8, 8, 8, 8, 8, 8, 8, 8, 8, 8, 8, 8, 8, 8, 8, 8, 8, 8, 8, 8, 8, 8, 8, 8, 8, 8, 8, 8, 8, 8, 8, 8, 8] [8, 8, 8, 8, 8, 8, 8, 8, 8, 8, 8, 8, 8, 8, 8, 8, 8, 8, 8, 8, 8, 8, 8, 8, 8, 8, 8, 8, 8, 8, 8, 8, 8, 8, 8, 8, 8, 8, 8, 8, 8, 8, 8, 8, 8, 8, 8, 8, 8, 8, 8, 8, 8, 8, 8, 8, 8, 8, 8, 8, 8, 8, 8, 8])) }) then
          some (IntKind.wrap IntKind.i64 (IntKind.wrap IntKind.i64 (0 + 16) + IntKind.wrap IntKind.i64 (↑(UInt8.toNat (Array.getD (List.toArray (List.append (List.append [0, 1, 2, 2, 3, 3, 3, 3, 4, 4, 4, 4, 4, 4, 4, 4, 5, 5, 5, 5, 5, 5, 5, 5, 5, 5, 5, 5, 5, 5, 5, 5, 6, 6, 6, 6, 6, 6, 6, 6, 6, 6, 6, 6, 6, 6, 6, 6, 6, 6, 6, 6, 6, 6, 6, 6, 6, 6, 6, 6, 6, 6, 6, 6] [7, 7, 7, 7, 7, 7, 7, 7, 7, 7, 7, 7, 7, 7, 7, 7, 7, 7, 7, 7, 7, 7, 7, 7, 7, 7, 7, 7, 7, 7, 7, 7, 7, 7, 7, 7, 7, 7, 7, 7, 7, 7, 7, 7, 7, 7, 7, 7, 7, 7, 7, 7, 7, 7, 7, 7, 7, 7, 7, 7, 7, 7, 7, 7]) (List.append [8, 8, 8, 8, 8, 8, 8, 8, 8, 8, 8, 8, 8, 8, 8, 8, 8, 8, 8, 8, 8, 8, 8, 8, 8, 8, 8, 8, 8, 8, 8, 8, 8, 8, 8, 8, 8, 8, 8, 8, 8, 8, 8, 8, 8, 8, 8, 8, 8, 8, 8, 8, 8, 8, 8, 8, 8, 8, 8, 8, 8, 8, 8, 8] [8, 8, 8, 8, 8, 8, 8, 8, 8, 8, 8, 8, 8, 8, 8, 8, 8, 8, 8, 8, 8, 8, 8, 8, 8, 8, 8, 8, 8, 8, 8, 8, 8, 8, 8, 8, 8, 8, 8, 8, 8, 8, 8, 8, 8, 8, 8, 8, 8, 8, 8, 8, 8, 8, 8, 8, 8, 8, 8, 8, 8, 8, 8, 8]))) (Int.toNat (IntKind.wrap IntKind.u8 (Int.fdiv x (2 ^ min (Int.toNat 16) (IntKind.bits IntKind.u64))))) 0)) : Int)))
        else
          none
    else
      bif decide (256 ≤ x) then
        bif boundA (IntKind.wrap IntKind.u8 (Int.fdiv x (2 ^ min (Int.toNat 8) (IntKind.bits IntKind.u64)))) (ByteArray.size { data := List.toArray (List.append (List.append [0, 1, 2, 2, 3, 3, 3, 3, 4, 4, 4, 4, 4, 4, 4, 4, 5, 5, 5, 5, 5, 5, 5, 5, 5, 5, 5, 5, 5, 5, 5, 5, 6, 6, 6, 6, 6, 6, 6, 6, 6, 6, 6, 6, 6, 6, 6, 6, 6, 6, 6, 6, 6, 6, 6, 6, 6, 6, 6, 6, 6, 6, 6, 6] [7, 7, 7, 7, 7, 7, 7, 7, 7, 7, 7, 7, 7, 7, 7, 7, 7, 7, 7, 7, 7, 7, 7, 7, 7, 7, 7, 7, 7, 7, 7, 7, 7, 7, 7, 7, 7, 7, 7, 7, 7, 7, 7, 7, 7, 7, 7, 7, 7, 7, 7, 7, 7, 7, 7, 7, 7, 7, 7, 7, 7, 7, 7, 7]) (List.append [8, 8, 8, 8, 8, 8, 8, 8, 8, 8, 8, 8, 8, 8, 8, 8, 8, 8, 8, 8, 8, 8, 8, 8, 8, 8, 8, 8, 8, 8, 8, 8, 8, 8, 8, 8, 8, 8, 8, 8, 8, 8, 8, 8, 8, 8, 8, 8, 8, 8, 8, 8, 8, 8, 8, 8, 8, 8, 8, 8, 8, 8, 8, 8] [8, 8, 8, 8, 8, 8, 8, 8, 8, 8, 8, 8, 8, 8, 8, 8, 8, 8, 8, 8, 8, 8, 8, 8, 8, 8, 8, 8, 8, 8, 8, 8, 8, 8, 8, 8, 8, 8, 8, 8, 8, 8, 8, 8, 8, 8, 8, 8, 8, 8, 8, 8, 8, 8, 8, 8, 8, 8, 8, 8, 8, 8, 8, 8])) }) then
          some (IntKind.wrap IntKind.i64 (IntKind.wrap IntKind.i64 (0 + 8) + IntKind.wrap IntKind.i64 (↑(UInt8.toNat (Array.getD (List.toArray (List.append (List.append [0, 1, 2, 2, 3, 3, 3, 3, 4, 4, 4, 4, 4, 4, 4, 4, 5, 5, 5, 5, 5, 5, 5, 5, 5, 5, 5, 5, 5, 5, 5, 5, 6, 6, 6, 6, 6, 6, 6, 6, 6, 6, 6, 6, 6, 6, 6, 6, 6, 6, 6, 6, 6, 6, 6, 6, 6, 6, 6, 6, 6, 6, 6, 6] [7, 7, 7, 7, 7, 7, 7, 7, 7, 7, 7, 7, 7, 7, 7, 7, 7, 7, 7, 7, 7, 7, 7, 7, 7, 7, 7, 7, 7, 7, 7, 7, 7, 7, 7, 7, 7, 7, 7, 7, 7, 7, 7, 7, 7, 7, 7, 7, 7, 7, 7, 7, 7, 7, 7, 7, 7, 7, 7, 7, 7, 7, 7, 7]) (List.append [8, 8, 8, 8, 8, 8, 8, 8, 8, 8, 8, 8, 8, 8, 8, 8, 8, 8, 8, 8, 8, 8, 8, 8, 8, 8, 8, 8, 8, 8, 8, 8, 8, 8, 8, 8, 8, 8, 8, 8, 8, 8, 8, 8, 8, 8, 8, 8, 8, 8, 8, 8, 8, 8, 8, 8, 8, 8, 8, 8, 8, 8, 8, 8] [8, 8, 8, 8, 8, 8, 8, 8, 8, 8, 8, 8, 8, 8, 8, 8, 8, 8, 8, 8, 8, 8, 8, 8, 8, 8, 8, 8, 8, 8, 8, 8, 8, 8, 8, 8, 8, 8, 8, 8, 8, 8, 8, 8, 8, 8, 8, 8, 8, 8, 8, 8, 8, 8, 8, 8, 8, 8, 8, 8, 8, 8, 8, 8]))) (Int.toNat (IntKind.wrap IntKind.u8 (Int.fdiv x (2 ^ min (Int.toNat 8) (IntKind.bits IntKind.u64))))) 0)) : Int)))
        else
          none
      else
        bif boundA (IntKind.wrap IntKind.u8 x) (ByteArray.size { data := List.toArray (List.append (List.append [0, 1, 2, 2, 3, 3, 3, 3, 4, 4, 4, 4, 4, 4, 4, 4, 5, 5, 5, 5, 5, 5, 5, 5, 5, 5, 5, 5, 5, 5, 5, 5, 6, 6, 6, 6, 6, 6, 6, 6, 6, 6, 6, 6, 6, 6, 6, 6, 6, 6, 6, 6, 6, 6, 6, 6, 6, 6, 6, 6, 6, 6, 6, 6] [7, 7, 7, 7, 7, 7, 7, 7, 7, 7, 7, 7, 7, 7, 7, 7, 7, 7, 7, 7, 7, 7, 7, 7, 7, 7, 7, 7, 7, 7, 7, 7, 7, 7, 7, 7, 7, 7, 7, 7, 7, 7, 7, 7, 7, 7, 7, 7, 7, 7, 7, 7, 7, 7, 7, 7, 7, 7, 7, 7, 7, 7, 7, 7]) (List.append [8, 8, 8, 8, 8, 8, 8, 8, 8, 8, 8, 8, 8, 8, 8, 8, 8, 8, 8, 8, 8, 8, 8, 8, 8, 8, 8, 8, 8, 8, 8, 8, 8, 8, 8, 8, 8, 8, 8, 8, 8, 8, 8, 8, 8, 8, 8, 8, 8, 8, 8, 8, 8, 8, 8, 8, 8, 8, 8, 8, 8, 8, 8, 8] [8, 8, 8, 8, 8, 8, 8, 8, 8, 8, 8, 8, 8, 8, 8, 8, 8, 8, 8, 8, 8, 8, 8, 8, 8, 8, 8, 8, 8, 8, 8, 8, 8, 8, 8, 8, 8, 8, 8, 8, 8, 8, 8, 8, 8, 8, 8, 8, 8, 8, 8, 8, 8, 8, 8, 8, 8, 8, 8, 8, 8, 8, 8, 8])) }) then
          some (IntKind.wrap IntKind.i64 (0 + IntKind.wrap IntKind.i64 (↑(UInt8.toNat (Array.getD (List.toArray (List.append (List.append [0, 1, 2, 2, 3, 3, 3, 3, 4, 4, 4, 4, 4, 4, 4, 4, 5, 5, 5, 5, 5, 5, 5, 5, 5, 5, 5, 5, 5, 5, 5, 5, 6, 6, 6, 6, 6, 6, 6, 6, 6, 6, 6, 6, 6, 6, 6, 6, 6, 6, 6, 6, 6, 6, 6, 6, 6, 6, 6, 6, 6, 6, 6, 6] [7, 7, 7, 7, 7, 7, 7, 7, 7, 7, 7, 7, 7, 7, 7, 7, 7, 7, 7, 7, 7, 7, 7, 7, 7, 7, 7, 7, 7, 7, 7, 7, 7, 7, 7, 7, 7, 7, 7, 7, 7, 7, 7, 7, 7, 7, 7, 7, 7, 7, 7, 7, 7, 7, 7, 7, 7, 7, 7, 7, 7, 7, 7, 7]) (List.append [8, 8, 8, 8, 8, 8, 8, 8, 8, 8, 8, 8, 8, 8, 8, 8, 8, 8, 8, 8, 8, 8, 8, 8, 8, 8, 8, 8, 8, 8, 8, 8, 8, 8, 8, 8, 8, 8, 8, 8, 8, 8, 8, 8, 8, 8, 8, 8, 8, 8, 8, 8, 8, 8, 8, 8, 8, 8, 8, 8, 8, 8, 8, 8] [8, 8, 8, 8, 8, 8, 8, 8, 8, 8, 8, 8, 8, 8, 8, 8, 8, 8, 8, 8, 8, 8, 8, 8, 8, 8, 8, 8, 8, 8, 8, 8, 8, 8, 8, 8, 8, 8, 8, 8, 8, 8, 8, 8, 8, 8, 8, 8, 8, 8, 8, 8, 8, 8, 8, 8, 8, 8, 8, 8, 8, 8, 8, 8]))) (Int.toNat (IntKind.wrap IntKind.u8 x)) 0)) : Int)))
        else
          none
theorem Mbits_Len64 (k : Nat) (x : Int) : Le (f124 k x) (f124 (k + 1) x) := by
  unfold f124
  repeat' first | with_reducible exact Le.rfl _ | with_reducible refine Le.cond ?_ ?_ | with_reducible refine Le.bind ?_ fun _ => ?_
theorem Rbits_Len64 (x : Int) : Lim (fun k => f124 k x) (bits_Len64 x) := by
  unfold f124 bits_Len64
  repeat' first | with_reducible exact Lim.ret _ | with_reducible refine Lim.cond ?_ ?_ | with_reducible refine Lim.bind ?_ fun _ => ?_

-- bits.LeadingZeros64
noncomputable def bits_LeadingZeros64 (x : Int) : Option (Int) :=
  (bits_Len64 x).bind fun r0 =>
  some (IntKind.wrap IntKind.i64 (64 - r0))
theorem Mbits_LeadingZeros64 (k : Nat) (x : Int) : Le (f114 k x) (f114 (k + 1) x) := by
  unfold f114
  repeat' first | with_reducible exact Le.rfl _ | with_reducible exact Mbits_Len64 _ _ | with_reducible refine Le.cond ?_ ?_ | with_reducible refine Le.bind ?_ fun _ => ?_
theorem Rbits_LeadingZeros64 (x : Int) : Lim (fun k => f114 k x) (bits_LeadingZeros64 x) := by
  unfold f114 bits_LeadingZeros64
  repeat' first | with_reducible exact Lim.ret _ | with_reducible exact Rbits_Len64 _ | with_reducible refine Lim.cond ?_ ?_ | with_reducible refine Lim.bind ?_ fun _ => ?_

-- bits.Div64
theorem MFbits_Div64_1017 (k : Nat) {r1017 q1017 : Int → Int → Int → Int → Int → Int → Int → Int → Int → Option (Int × Int)} (h1017 : ∀ (s : Int) (r : Int) (r_9 : Int) (a : Int) (y : Int) (t13 : Int) (t14 : Int) (t15 : Int) (t16 : Int), Le (r1017 s r r_9 a y t13 t14 t15 t16) (q1017 s r r_9 a y t13 t14 t15 t16)) {r1024 q1024 : Int → Int → Int → Int → Int → Int → Int → Int → Int → Option (Int × Int)} (h1024 : ∀ (s : Int) (r : Int) (r_9 : Int) (a : Int) (t14 : Int) (t15 : Int) (t16 : Int) (t17 : Int) (t18 : Int), Le (r1024 s r r_9 a t14 t15 t16 t17 t18) (q1024 s r r_9 a t14 t15 t16 t17 t18)) {r3 q3 : Int → Int → Int → Option (Int × Int)} (h3 : ∀ (L : Int) (i : Int) (s : Int), Le (r3 L i s) (q3 L i s)) {r5 q5 : Int → Int → Int → Option (Int × Int)} (h5 : ∀ (L : Int) (i : Int) (s : Int), Le (r5 L i s) (q5 L i s)) {r21 q21 : Int → Int → Int → Int → Int → Int → Int → Int → Option (Int × Int)} (h21 : ∀ (s : Int) (r : Int) (r_9 : Int) (a : Int) (y : Int) (t13 : Int) (t14 : Int) (t15 : Int), Le (r21 s r r_9 a y t13 t14 t15) (q21 s r r_9 a y t13 t14 t15)) (s : Int) (r : Int) (r_9 : Int) (a : Int) (y : Int) (t13 : Int) (t14 : Int) (t15 : Int) (t16 : Int) : Le (F96_1017 k r1017 r1024 r3 r5 r21 s r r_9 a y t13 t14 t15 t16) (F96_1017 (k + 1) q1017 q1024 q3 q5 q21 s r r_9 a y t13 t14 t15 t16) := by
  unfold F96_1017
  repeat' first | with_reducible exact Le.rfl _ | with_reducible exact h1017 _ _ _ _ _ _ _ _ _ | with_reducible exact h1024 _ _ _ _ _ _ _ _ _ | with_reducible exact h3 _ _ _ | with_reducible exact h5 _ _ _ | with_reducible exact h21 _ _ _ _ _ _ _ _ | with_reducible refine Le.cond ?_ ?_ | with_reducible refine Le.bind ?_ fun _ => ?_
theorem MFbits_Div64_1024 (k : Nat) {r1017 q1017 : Int → Int → Int → Int → Int → Int → Int → Int → Int → Option (Int × Int)} (h1017 : ∀ (s : Int) (r : Int) (r_9 : Int) (a : Int) (y : Int) (t13 : Int) (t14 : Int) (t15 : Int) (t16 : Int), Le (r1017 s r r_9 a y t13 t14 t15 t16) (q1017 s r r_9 a y t13 t14 t15 t16)) {r1024 q1024 : Int → Int → Int → Int → Int → Int → Int → Int → Int → Option (Int × Int)} (h1024 : ∀ (s : Int) (r : Int) (r_9 : Int) (a : Int) (t14 : Int) (t15 : Int) (t16 : Int) (t17 : Int) (t18 : Int), Le (r1024 s r r_9 a t14 t15 t16 t17 t18) (q1024 s r r_9 a t14 t15 t16 t17 t18)) {r3 q3 : Int → Int → Int → Option (Int × Int)} (h3 : ∀ (L : Int) (i : Int) (s : Int), Le (r3 L i s) (q3 L i s)) {r5 q5 : Int → Int → Int → Option (Int × Int)} (h5 : ∀ (L : Int) (i : Int) (s : Int), Le (r5 L i s) (q5 L i s)) {r21 q21 : Int → Int → Int → Int → Int → Int → Int → Int → Option (Int × Int)} (h21 : ∀ (s : Int) (r : Int) (r_9 : Int) (a : Int) (y : Int) (t13 : Int) (t14 : Int) (t15 : Int), Le (r21 s r r_9 a y t13 t14 t15) (q21 s r r_9 a y t13 t14 t15)) (s : Int) (r : Int) (r_9 : Int) (a : Int) (t14 : Int) (t15 : Int) (t16 : Int) (t17 : Int) (t18 : Int) : Le (F96_1024 k r1017 r1024 r3 r5 r21 s r r_9 a t14 t15 t16 t17 t18) (F96_1024 (k + 1) q1017 q1024 q3 q5 q21 s r r_9 a t14 t15 t16 t17 t18) := by
  unfold F96_1024
  repeat' first | with_reducible exact Le.rfl _ | with_reducible exact h1017 _ _ _ _ _ _ _ _ _ | with_reducible exact h1024 _ _ _ _ _ _ _ _ _ | with_reducible exact h3 _ _ _ | with_reducible exact h5 _ _ _ | with_reducible exact h21 _ _ _ _ _ _ _ _ | with_reducible refine Le.cond ?_ ?_ | with_reducible refine Le.bind ?_ fun _ => ?_
theorem MFbits_Div64_3 (k : Nat) {r1017 q1017 : Int → Int → Int → Int → Int → Int → Int → Int → Int → Option (Int × Int)} (h1017 : ∀ (s : Int) (r : Int) (r_9 : Int) (a : Int) (y : Int) (t13 : Int) (t14 : Int) (t15 : Int) (t16 : Int), Le (r1017 s r r_9 a y t13 t14 t15 t16) (q1017 s r r_9 a y t13 t14 t15 t16)) {r1024 q1024 : Int → Int → Int → Int → Int → Int → Int → Int → Int → Option (Int × Int)} (h1024 : ∀ (s : Int) (r : Int) (r_9 : Int) (a : Int) (t14 : Int) (t15 : Int) (t16 : Int) (t17 : Int) (t18 : Int), Le (r1024 s r r_9 a t14 t15 t16 t17 t18) (q1024 s r r_9 a t14 t15 t16 t17 t18)) {r3 q3 : Int → Int → Int → Option (Int × Int)} (h3 : ∀ (L : Int) (i : Int) (s : Int), Le (r3 L i s) (q3 L i s)) {r5 q5 : Int → Int → Int → Option (Int × Int)} (h5 : ∀ (L : Int) (i : Int) (s : Int), Le (r5 L i s) (q5 L i s)) {r21 q21 : Int → Int → Int → Int → Int → Int → Int → Int → Option (Int × Int)} (h21 : ∀ (s : Int) (r : Int) (r_9 : Int) (a : Int) (y : Int) (t13 : Int) (t14 : Int) (t15 : Int), Le (r21 s r r_9 a y t13 t14 t15) (q21 s r r_9 a y t13 t14 t15)) (L : Int) (i : Int) (s : Int) : Le (F96_3 k r1017 r1024 r3 r5 r21 L i s) (F96_3 (k + 1) q1017 q1024 q3 q5 q21 L i s) := by
  unfold F96_3
  repeat' first | with_reducible exact Le.rfl _ | with_reducible exact h1017 _ _ _ _ _ _ _ _ _ | with_reducible exact h1024 _ _ _ _ _ _ _ _ _ | with_reducible exact h3 _ _ _ | with_reducible exact h5 _ _ _ | with_reducible exact h21 _ _ _ _ _ _ _ _ | with_reducible refine Le.cond ?_ ?_ | with_reducible refine Le.bind ?_ fun _ => ?_
theorem MFbits_Div64_5 (k : Nat) {r1017 q1017 : Int → Int → Int → Int → Int → Int → Int → Int → Int → Option (Int × Int)} (h1017 : ∀ (s : Int) (r : Int) (r_9 : Int) (a : Int) (y : Int) (t13 : Int) (t14 : Int) (t15 : Int) (t16 : Int), Le (r1017 s r r_9 a y t13 t14 t15 t16) (q1017 s r r_9 a y t13 t14 t15 t16)) {r1024 q1024 : Int → Int → Int → Int → Int → Int → Int → Int → Int → Option (Int × Int)} (h1024 : ∀ (s : Int) (r : Int) (r_9 : Int) (a : Int) (t14 : Int) (t15 : Int) (t16 : Int) (t17 : Int) (t18 : Int), Le (r1024 s r r_9 a t14 t15 t16 t17 t18) (q1024 s r r_9 a t14 t15 t16 t17 t18)) {r3 q3 : Int → Int → Int → Option (Int × Int)} (h3 : ∀ (L : Int) (i : Int) (s : Int), Le (r3 L i s) (q3 L i s)) {r5 q5 : Int → Int → Int → Option (Int × Int)} (h5 : ∀ (L : Int) (i : Int) (s : Int), Le (r5 L i s) (q5 L i s)) {r21 q21 : Int → Int → Int → Int → Int → Int → Int → Int → Option (Int × Int)} (h21 : ∀ (s : Int) (r : Int) (r_9 : Int) (a : Int) (y : Int) (t13 : Int) (t14 : Int) (t15 : Int), Le (r21 s r r_9 a y t13 t14 t15) (q21 s r r_9 a y t13 t14 t15)) (L : Int) (i : Int) (s : Int) : Le (F96_5 k r1017 r1024 r3 r5 r21 L i s) (F96_5 (k + 1) q1017 q1024 q3 q5 q21 L i s) := by
  unfold F96_5
  repeat' first | with_reducible exact Le.rfl _ | with_reducible exact Mbits_LeadingZeros64 _ _ | with_reducible exact h1017 _ _ _ _ _ _ _ _ _ | with_reducible exact h1024 _ _ _ _ _ _ _ _ _ | with_reducible exact h3 _ _ _ | with_reducible exact h5 _ _ _ | with_reducible exact h21 _ _ _ _ _ _ _ _ | with_reducible refine Le.cond ?_ ?_ | with_reducible refine Le.bind ?_ fun _ => ?_
theorem MFbits_Div64_21 (k : Nat) {r1017 q1017 : Int → Int → Int → Int → Int → Int → Int → Int → Int → Option (Int × Int)} (h1017 : ∀ (s : Int) (r : Int) (r_9 : Int) (a : Int) (y : Int) (t13 : Int) (t14 : Int) (t15 : Int) (t16 : Int), Le (r1017 s r r_9 a y t13 t14 t15 t16) (q1017 s r r_9 a y t13 t14 t15 t16)) {r1024 q1024 : Int → Int → Int → Int → Int → Int → Int → Int → Int → Option (Int × Int)} (h1024 : ∀ (s : Int) (r : Int) (r_9 : Int) (a : Int) (t14 : Int) (t15 : Int) (t16 : Int) (t17 : Int) (t18 : Int), Le (r1024 s r r_9 a t14 t15 t16 t17 t18) (q1024 s r r_9 a t14 t15 t16 t17 t18)) {r3 q3 : Int → Int → Int → Option (Int × Int)} (h3 : ∀ (L : Int) (i : Int) (s : Int), Le (r3 L i s) (q3 L i s)) {r5 q5 : Int → Int → Int → Option (Int × Int)} (h5 : ∀ (L : Int) (i : Int) (s : Int), Le (r5 L i s) (q5 L i s)) {r21 q21 : Int → Int → Int → Int → Int → Int → Int → Int → Option (Int × Int)} (h21 : ∀ (s : Int) (r : Int) (r_9 : Int) (a : Int) (y : Int) (t13 : Int) (t14 : Int) (t15 : Int), Le (r21 s r r_9 a y t13 t14 t15) (q21 s r r_9 a y t13 t14 t15)) (s : Int) (r : Int) (r_9 : Int) (a : Int) (y : Int) (t13 : Int) (t14 : Int) (t15 : Int) : Le (F96_21 k r1017 r1024 r3 r5 r21 s r r_9 a y t13 t14 t15) (F96_21 (k + 1) q1017 q1024 q3 q5 q21 s r r_9 a y t13 t14 t15) := by
  unfold F96_21
  repeat' first | with_reducible exact Le.rfl _ | with_reducible exact h1017 _ _ _ _ _ _ _ _ _ | with_reducible exact h1024 _ _ _ _ _ _ _ _ _ | with_reducible exact h3 _ _ _ | with_reducible exact h5 _ _ _ | with_reducible exact h21 _ _ _ _ _ _ _ _ | with_reducible refine Le.cond ?_ ?_ | with_reducible refine Le.bind ?_ fun _ => ?_
theorem Mlbits_Div64 : ∀ k : Nat, (∀ (s : Int) (r : Int) (r_9 : Int) (a : Int) (y : Int) (t13 : Int) (t14 : Int) (t15 : Int) (t16 : Int), Le ((l96 k).1 s r r_9 a y t13 t14 t15 t16) ((l96 (k + 1)).1 s r r_9 a y t13 t14 t15 t16)) ∧ (∀ (s : Int) (r : Int) (r_9 : Int) (a : Int) (t14 : Int) (t15 : Int) (t16 : Int) (t17 : Int) (t18 : Int), Le ((l96 k).2.1 s r r_9 a t14 t15 t16 t17 t18) ((l96 (k + 1)).2.1 s r r_9 a t14 t15 t16 t17 t18)) ∧ (∀ (L : Int) (i : Int) (s : Int), Le ((l96 k).2.2.1 L i s) ((l96 (k + 1)).2.2.1 L i s)) ∧ (∀ (L : Int) (i : Int) (s : Int), Le ((l96 k).2.2.2.1 L i s) ((l96 (k + 1)).2.2.2.1 L i s)) ∧ (∀ (s : Int) (r : Int) (r_9 : Int) (a : Int) (y : Int) (t13 : Int) (t14 : Int) (t15 : Int), Le ((l96 k).2.2.2.2 s r r_9 a y t13 t14 t15) ((l96 (k + 1)).2.2.2.2 s r r_9 a y t13 t14 t15))
  | 0 => ⟨fun s r r_9 a y t13 t14 t15 t16 => Le.no _, fun s r r_9 a t14 t15 t16 t17 t18 => Le.no _, fun L i s => Le.no _, fun L i s => Le.no _, fun s r r_9 a y t13 t14 t15 => Le.no _⟩
  | k + 1 => by
    have h := Mlbits_Div64 k
    exact ⟨fun s r r_9 a y t13 t14 t15 t16 => MFbits_Div64_1017 k h.1 h.2.1 h.2.2.1 h.2.2.2.1 h.2.2.2.2 s r r_9 a y t13 t14 t15 t16, fun s r r_9 a t14 t15 t16 t17 t18 => MFbits_Div64_1024 k h.1 h.2.1 h.2.2.1 h.2.2.2.1 h.2.2.2.2 s r r_9 a t14 t15 t16 t17 t18, fun L i s => MFbits_Div64_3 k h.1 h.2.1 h.2.2.1 h.2.2.2.1 h.2.2.2.2 L i s, fun L i s => MFbits_Div64_5 k h.1 h.2.1 h.2.2.1 h.2.2.2.1 h.2.2.2.2 L i s, fun s r r_9 a y t13 t14 t15 => MFbits_Div64_21 k h.1 h.2.1 h.2.2.1 h.2.2.2.1 h.2.2.2.2 s r r_9 a y t13 t14 t15⟩
noncomputable def bits_Div64_1017 (s : Int) (r : Int) (r_9 : Int) (a : Int) (y : Int) (t13 : Int) (t14 : Int) (t15 : Int) (t16 : Int) : Option (Int × Int) := lim fun k => (l96 k).1 s r r_9 a y t13 t14 t15 t16
theorem Rlbits_Div64_1017 (s : Int) (r : Int) (r_9 : Int) (a : Int) (y : Int) (t13 : Int) (t14 : Int) (t15 : Int) (t16 : Int) : Lim (fun k => (l96 k).1 s r r_9 a y t13 t14 t15 t16) (bits_Div64_1017 s r r_9 a y t13 t14 t15 t16) := Lim.of_mono fun k => (Mlbits_Div64 k).1 s r r_9 a y t13 t14 t15 t16
noncomputable def bits_Div64_1024 (s : Int) (r : Int) (r_9 : Int) (a : Int) (t14 : Int) (t15 : Int) (t16 : Int) (t17 : Int) (t18 : Int) : Option (Int × Int) := lim fun k => (l96 k).2.1 s r r_9 a t14 t15 t16 t17 t18
theorem Rlbits_Div64_1024 (s : Int) (r : Int) (r_9 : Int) (a : Int) (t14 : Int) (t15 : Int) (t16 : Int) (t17 : Int) (t18 : Int) : Lim (fun k => (l96 k).2.1 s r r_9 a t14 t15 t16 t17 t18) (bits_Div64_1024 s r r_9 a t14 t15 t16 t17 t18) := Lim.of_mono fun k => (Mlbits_Div64 k).2.1 s r r_9 a t14 t15 t16 t17 t18
noncomputable def bits_Div64_3 (L : Int) (i : Int) (s : Int) : Option (Int × Int) := lim fun k => (l96 k).2.2.1 L i s
theorem Rlbits_Div64_3 (L : Int) (i : Int) (s : Int) : Lim (fun k => (l96 k).2.2.1 L i s) (bits_Div64_3 L i s) := Lim.of_mono fun k => (Mlbits_Div64 k).2.2.1 L i s
noncomputable def bits_Div64_5 (L : Int) (i : Int) (s : Int) : Option (Int × Int) := lim fun k => (l96 k).2.2.2.1 L i s
theorem Rlbits_Div64_5 (L : Int) (i : Int) (s : Int) : Lim (fun k => (l96 k).2.2.2.1 L i s) (bits_Div64_5 L i s) := Lim.of_mono fun k => (Mlbits_Div64 k).2.2.2.1 L i s
noncomputable def bits_Div64_21 (s : Int) (r : Int) (r_9 : Int) (a : Int) (y : Int) (t13 : Int) (t14 : Int) (t15 : Int) : Option (Int × Int) := lim fun k => (l96 k).2.2.2.2 s r r_9 a y t13 t14 t15
theorem Rlbits_Div64_21 (s : Int) (r : Int) (r_9 : Int) (a : Int) (y : Int) (t13 : Int) (t14 : Int) (t15 : Int) : Lim (fun k => (l96 k).2.2.2.2 s r r_9 a y t13 t14 t15) (bits_Div64_21 s r r_9 a y t13 t14 t15) := Lim.of_mono fun k => (Mlbits_Div64 k).2.2.2.2 s r r_9 a y t13 t14 t15
theorem Ebits_Div64_1017 (s : Int) (r : Int) (r_9 : Int) (a : Int) (y : Int) (t13 : Int) (t14 : Int) (t15 : Int) (t16 : Int) : bits_Div64_1017 s r r_9 a y t13 t14 t15 t16 =
  bif decide (4294967296 ≤ t15) then
    bif decide (4294967296 ≤ IntKind.wrap IntKind.u64 (t16 + r_9)) then
      bits_Div64_21 s r r_9 a y t13 t14 (IntKind.wrap IntKind.u64 (t15 - 1))
    else
      bits_Div64_1017 s r r_9 a y t13 t14 (IntKind.wrap IntKind.u64 (t15 - 1)) (IntKind.wrap IntKind.u64 (t16 + r_9))
  else
    bif decide (IntKind.wrap IntKind.u64 (IntKind.wrap IntKind.u64 (4294967296 * t16) + t13) < IntKind.wrap IntKind.u64 (t15 * a)) then
      bif decide (4294967296 ≤ IntKind.wrap IntKind.u64 (t16 + r_9)) then
        bits_Div64_21 s r r_9 a y t13 t14 (IntKind.wrap IntKind.u64 (t15 - 1))
      else
        bits_Div64_1017 s r r_9 a y t13 t14 (IntKind.wrap IntKind.u64 (t15 - 1)) (IntKind.wrap IntKind.u64 (t16 + r_9))
    else
      bits_Div64_21 s r r_9 a y t13 t14 t15 := by
  refine Lim.uniq (Lim.shift (Rlbits_Div64_1017 s r r_9 a y t13 t14 t15 t16)) (?_ : Lim (fun k => F96_1017 k ((l96 k).1) ((l96 k).2.1) ((l96 k).2.2.1) ((l96 k).2.2.2.1) ((l96 k).2.2.2.2) s r r_9 a y t13 t14 t15 t16) _)
  unfold F96_1017
  repeat' first | with_reducible exact Lim.ret _ | with_reducible exact Rlbits_Div64_1017 _ _ _ _ _ _ _ _ _ | with_reducible exact Rlbits_Div64_1024 _ _ _ _ _ _ _ _ _ | with_reducible exact Rlbits_Div64_3 _ _ _ | with_reducible exact Rlbits_Div64_5 _ _ _ | with_reducible exact Rlbits_Div64_21 _ _ _ _ _ _ _ _ | with_reducible refine Lim.cond ?_ ?_ | with_reducible refine Lim.bind ?_ fun _ => ?_
theorem Ebits_Div64_1024 (s : Int) (r : Int) (r_9 : Int) (a : Int) (t14 : Int) (t15 : Int) (t16 : Int) (t17 : Int) (t18 : Int) : bits_Div64_1024 s r r_9 a t14 t15 t16 t17 t18 =
  bif decide (4294967296 ≤ t18) then
    bif decide (4294967296 ≤ IntKind.wrap IntKind.u64 (t16 + r_9)) then
      bif !decide (r < 0) then
        some ((IntKind.wrap IntKind.u64 (IntKind.wrap IntKind.u64 (t15 * 4294967296) + IntKind.wrap IntKind.u64 (t18 - 1)), Int.fdiv (IntKind.wrap IntKind.u64 (IntKind.wrap IntKind.u64 (IntKind.wrap IntKind.u64 (t17 * 4294967296) + t14) - IntKind.wrap IntKind.u64 (IntKind.wrap IntKind.u64 (t18 - 1) * s))) (2 ^ min (Int.toNat r) (IntKind.bits IntKind.u64))))
      else
        none
    else
      bits_Div64_1024 s r r_9 a t14 t15 (IntKind.wrap IntKind.u64 (t16 + r_9)) t17 (IntKind.wrap IntKind.u64 (t18 - 1))
  else
    bif decide (IntKind.wrap IntKind.u64 (IntKind.wrap IntKind.u64 (4294967296 * t16) + t14) < IntKind.wrap IntKind.u64 (t18 * a)) then
      bif decide (4294967296 ≤ IntKind.wrap IntKind.u64 (t16 + r_9)) then
        bif !decide (r < 0) then
          some ((IntKind.wrap IntKind.u64 (IntKind.wrap IntKind.u64 (t15 * 4294967296) + IntKind.wrap IntKind.u64 (t18 - 1)), Int.fdiv (IntKind.wrap IntKind.u64 (IntKind.wrap IntKind.u64 (IntKind.wrap IntKind.u64 (t17 * 4294967296) + t14) - IntKind.wrap IntKind.u64 (IntKind.wrap IntKind.u64 (t18 - 1) * s))) (2 ^ min (Int.toNat r) (IntKind.bits IntKind.u64))))
        else
          none
      else
        bits_Div64_1024 s r r_9 a t14 t15 (IntKind.wrap IntKind.u64 (t16 + r_9)) t17 (IntKind.wrap IntKind.u64 (t18 - 1))
    else
      bif !decide (r < 0) then
        some ((IntKind.wrap IntKind.u64 (IntKind.wrap IntKind.u64 (t15 * 4294967296) + t18), Int.fdiv (IntKind.wrap IntKind.u64 (IntKind.wrap IntKind.u64 (IntKind.wrap IntKind.u64 (t17 * 4294967296) + t14) - IntKind.wrap IntKind.u64 (t18 * s))) (2 ^ min (Int.toNat r) (IntKind.bits IntKind.u64))))
      else
        none := by
  refine Lim.uniq (Lim.shift (Rlbits_Div64_1024 s r r_9 a t14 t15 t16 t17 t18)) (?_ : Lim (fun k => F96_1024 k ((l96 k).1) ((l96 k).2.1) ((l96 k).2.2.1) ((l96 k).2.2.2.1) ((l96 k).2.2.2.2) s r r_9 a t14 t15 t16 t17 t18) _)
  unfold F96_1024
  repeat' first | with_reducible exact Lim.ret _ | with_reducible exact Rlbits_Div64_1017 _ _ _ _ _ _ _ _ _ | with_reducible exact Rlbits_Div64_1024 _ _ _ _ _ _ _ _ _ | with_reducible exact Rlbits_Div64_3 _ _ _ | with_reducible exact Rlbits_Div64_5 _ _ _ | with_reducible exact Rlbits_Div64_21 _ _ _ _ _ _ _ _ | with_reducible refine Lim.cond ?_ ?_ | with_reducible refine Lim.bind ?_ fun _ => ?_
theorem Ebits_Div64_3 (L : Int) (i : Int) (s : Int) : bits_Div64_3 L i s =
  bif decide (s ≤ L) then
    none
  else
    bits_Div64_5 L i s := by
  refine Lim.uniq (Lim.shift (Rlbits_Div64_3 L i s)) (?_ : Lim (fun k => F96_3 k ((l96 k).1) ((l96 k).2.1) ((l96 k).2.2.1) ((l96 k).2.2.2.1) ((l96 k).2.2.2.2) L i s) _)
  unfold F96_3
  repeat' first | with_reducible exact Lim.ret _ | with_reducible exact Rlbits_Div64_1017 _ _ _ _ _ _ _ _ _ | with_reducible exact Rlbits_Div64_1024 _ _ _ _ _ _ _ _ _ | with_reducible exact Rlbits_Div64_3 _ _ _ | with_reducible exact Rlbits_Div64_5 _ _ _ | with_reducible exact Rlbits_Div64_21 _ _ _ _ _ _ _ _ | with_reducible refine Lim.cond ?_ ?_ | with_reducible refine Lim.bind ?_ fun _ => ?_
theorem Ebits_Div64_5 (L : Int) (i : Int) (s : Int) : bits_Div64_5 L i s =
  bif decide (L = 0) then
    bif !decide (s = 0) then
      bif !decide (s = 0) then
        some ((IntKind.wrap IntKind.u64 (Int.tdiv i s), Int.tmod i s))
      else
        none
    else
      none
  else
    (bits_LeadingZeros64 s).bind fun r0 =>
    bif !decide (IntKind.wrap IntKind.u64 r0 < 0) then
      bif !decide (IntKind.wrap IntKind.u64 r0 < 0) then
        bif !decide (IntKind.wrap IntKind.u64 (64 - IntKind.wrap IntKind.u64 r0) < 0) then
          bif !decide (IntKind.wrap IntKind.u64 r0 < 0) then
            bif !decide (Int.fdiv (IntKind.wrap IntKind.u64 (s * 2 ^ min (Int.toNat (IntKind.wrap IntKind.u64 r0)) (IntKind.bits IntKind.u64))) (2 ^ min (Int.toNat 32) (IntKind.bits IntKind.u64)) = 0) then
              bits_Div64_1017 (IntKind.wrap IntKind.u64 (s * 2 ^ min (Int.toNat (IntKind.wrap IntKind.u64 r0)) (IntKind.bits IntKind.u64))) (IntKind.wrap IntKind.u64 r0) (Int.fdiv (IntKind.wrap IntKind.u64 (s * 2 ^ min (Int.toNat (IntKind.wrap IntKind.u64 r0)) (IntKind.bits IntKind.u64))) (2 ^ min (Int.toNat 32) (IntKind.bits IntKind.u64))) (IntKind.wrap IntKind.u64 (↑(BitVec.toNat (BitVec.ofInt (IntKind.bits IntKind.u64) (IntKind.wrap IntKind.u64 (s * 2 ^ min (Int.toNat (IntKind.wrap IntKind.u64 r0)) (IntKind.bits IntKind.u64))) &&& BitVec.ofInt (IntKind.bits IntKind.u64) 4294967295)) : Int)) (IntKind.wrap IntKind.u64 (↑(BitVec.toNat (BitVec.ofInt (IntKind.bits IntKind.u64) (IntKind.wrap IntKind.u64 (L * 2 ^ min (Int.toNat (IntKind.wrap IntKind.u64 r0)) (IntKind.bits IntKind.u64))) ||| BitVec.ofInt (IntKind.bits IntKind.u64) (Int.fdiv i (2 ^ min (Int.toNat (IntKind.wrap IntKind.u64 (64 - IntKind.wrap IntKind.u64 r0))) (IntKind.bits IntKind.u64))))) : Int)) (Int.fdiv (IntKind.wrap IntKind.u64 (i * 2 ^ min (Int.toNat (IntKind.wrap IntKind.u64 r0)) (IntKind.bits IntKind.u64))) (2 ^ min (Int.toNat 32) (IntKind.bits IntKind.u64))) (IntKind.wrap IntKind.u64 (↑(BitVec.toNat (BitVec.ofInt (IntKind.bits IntKind.u64) (IntKind.wrap IntKind.u64 (i * 2 ^ min (Int.toNat (IntKind.wrap IntKind.u64 r0)) (IntKind.bits IntKind.u64))) &&& BitVec.ofInt (IntKind.bits IntKind.u64) 4294967295)) : Int)) (IntKind.wrap IntKind.u64 (Int.tdiv (IntKind.wrap IntKind.u64 (↑(BitVec.toNat (BitVec.ofInt (IntKind.bits IntKind.u64) (IntKind.wrap IntKind.u64 (L * 2 ^ min (Int.toNat (IntKind.wrap IntKind.u64 r0)) (IntKind.bits IntKind.u64))) ||| BitVec.ofInt (IntKind.bits IntKind.u64) (Int.fdiv i (2 ^ min (Int.toNat (IntKind.wrap IntKind.u64 (64 - IntKind.wrap IntKind.u64 r0))) (IntKind.bits IntKind.u64))))) : Int)) (Int.fdiv (IntKind.wrap IntKind.u64 (s * 2 ^ min (Int.toNat (IntKind.wrap IntKind.u64 r0)) (IntKind.bits IntKind.u64))) (2 ^ min (Int.toNat 32) (IntKind.bits IntKind.u64))))) (IntKind.wrap IntKind.u64 (IntKind.wrap IntKind.u64 (↑(BitVec.toNat (BitVec.ofInt (IntKind.bits IntKind.u64) (IntKind.wrap IntKind.u64 (L * 2 ^ min (Int.toNat (IntKind.wrap IntKind.u64 r0)) (IntKind.bits IntKind.u64))) ||| BitVec.ofInt (IntKind.bits IntKind.u64) (Int.fdiv i (2 ^ min (Int.toNat (IntKind.wrap IntKind.u64 (64 - IntKind.wrap IntKind.u64 r0))) (IntKind.bits IntKind.u64))))) : Int) - IntKind.wrap IntKind.u64 (IntKind.wrap IntKind.u64 (Int.tdiv (IntKind.wrap IntKind.u64 (↑(BitVec.toNat (BitVec.ofInt (IntKind.bits IntKind.u64) (IntKind.wrap IntKind.u64 (L * 2 ^ min (Int.toNat (IntKind.wrap IntKind.u64 r0)) (IntKind.bits IntKind.u64))) ||| BitVec.ofInt (IntKind.bits IntKind.u64) (Int.fdiv i (2 ^ min (Int.toNat (IntKind.wrap IntKind.u64 (64 - IntKind.wrap IntKind.u64 r0))) (IntKind.bits IntKind.u64))))) : Int)) (Int.fdiv (IntKind.wrap IntKind.u64 (s * 2 ^ min (Int.toNat (IntKind.wrap IntKind.u64 r0)) (IntKind.bits IntKind.u64))) (2 ^ min (Int.toNat 32) (IntKind.bits IntKind.u64)))) * Int.fdiv (IntKind.wrap IntKind.u64 (s * 2 ^ min (Int.toNat (IntKind.wrap IntKind.u64 r0)) (IntKind.bits IntKind.u64))) (2 ^ min (Int.toNat 32) (IntKind.bits IntKind.u64)))))
            else
              none
          else
            none
        else
          none
      else
        none
    else
      none := by
  refine Lim.uniq (Lim.shift (Rlbits_Div64_5 L i s)) (?_ : Lim (fun k => F96_5 k ((l96 k).1) ((l96 k).2.1) ((l96 k).2.2.1) ((l96 k).2.2.2.1) ((l96 k).2.2.2.2) L i s) _)
  unfold F96_5
  repeat' first | with_reducible exact Lim.ret _ | with_reducible exact Rbits_LeadingZeros64 _ | with_reducible exact Rlbits_Div64_1017 _ _ _ _ _ _ _ _ _ | with_reducible exact Rlbits_Div64_1024 _ _ _ _ _ _ _ _ _ | with_reducible exact Rlbits_Div64_3 _ _ _ | with_reducible exact Rlbits_Div64_5 _ _ _ | with_reducible exact Rlbits_Div64_21 _ _ _ _ _ _ _ _ | with_reducible refine Lim.cond ?_ ?_ | with_reducible refine Lim.bind ?_ fun _ => ?_
theorem Ebits_Div64_21 (s : Int) (r : Int) (r_9 : Int) (a : Int) (y : Int) (t13 : Int) (t14 : Int) (t15 : Int) : bits_Div64_21 s r r_9 a y t13 t14 t15 =
  bif !decide (r_9 = 0) then
    bits_Div64_1024 s r r_9 a t14 t15 (IntKind.wrap IntKind.u64 (IntKind.wrap IntKind.u64 (IntKind.wrap IntKind.u64 (IntKind.wrap IntKind.u64 (y * 4294967296) + t13) - IntKind.wrap IntKind.u64 (t15 * s)) - IntKind.wrap IntKind.u64 (IntKind.wrap IntKind.u64 (Int.tdiv (IntKind.wrap IntKind.u64 (IntKind.wrap IntKind.u64 (IntKind.wrap IntKind.u64 (y * 4294967296) + t13) - IntKind.wrap IntKind.u64 (t15 * s))) r_9) * r_9))) (IntKind.wrap IntKind.u64 (IntKind.wrap IntKind.u64 (IntKind.wrap IntKind.u64 (y * 4294967296) + t13) - IntKind.wrap IntKind.u64 (t15 * s))) (IntKind.wrap IntKind.u64 (Int.tdiv (IntKind.wrap IntKind.u64 (IntKind.wrap IntKind.u64 (IntKind.wrap IntKind.u64 (y * 4294967296) + t13) - IntKind.wrap IntKind.u64 (t15 * s))) r_9))
  else
    none := by
  refine Lim.uniq (Lim.shift (Rlbits_Div64_21 s r r_9 a y t13 t14 t15)) (?_ : Lim (fun k => F96_21 k ((l96 k).1) ((l96 k).2.1) ((l96 k).2.2.1) ((l96 k).2.2.2.1) ((l96 k).2.2.2.2) s r r_9 a y t13 t14 t15) _)
  unfold F96_21
  repeat' first | with_reducible exact Lim.ret _ | with_reducible exact Rlbits_Div64_1017 _ _ _ _ _ _ _ _ _ | with_reducible exact Rlbits_Div64_1024 _ _ _ _ _ _ _ _ _ | with_reducible exact Rlbits_Div64_3 _ _ _ | with_reducible exact Rlbits_Div64_5 _ _ _ | with_reducible exact Rlbits_Div64_21 _ _ _ _ _ _ _ _ | with_reducible refine Lim.cond ?_ ?_ | with_reducible refine Lim.bind ?_ fun _ => ?_
noncomputable def bits_Div64 (L : Int) (i : Int) (s : Int) : Option (Int × Int) :=
  bif decide (s = 0) then
    none
  else
    bits_Div64_3 L i s
theorem Mbits_Div64 (k : Nat) (L : Int) (i : Int) (s : Int) : Le (f96 k L i s) (f96 (k + 1) L i s) := by
  have h := Mlbits_Div64 k
  unfold f96 F96
  repeat' first | with_reducible exact Le.rfl _ | with_reducible exact h.1 _ _ _ _ _ _ _ _ _ | with_reducible exact h.2.1 _ _ _ _ _ _ _ _ _ | with_reducible exact h.2.2.1 _ _ _ | with_reducible exact h.2.2.2.1 _ _ _ | with_reducible exact h.2.2.2.2 _ _ _ _ _ _ _ _ | with_reducible refine Le.cond ?_ ?_ | with_reducible refine Le.bind ?_ fun _ => ?_
theorem Rbits_Div64 (L : Int) (i : Int) (s : Int) : Lim (fun k => f96 k L i s) (bits_Div64 L i s) := by
  unfold f96 F96 bits_Div64
  repeat' first | with_reducible exact Lim.ret _ | with_reducible exact Rlbits_Div64_1017 _ _ _ _ _ _ _ _ _ | with_reducible exact Rlbits_Div64_1024 _ _ _ _ _ _ _ _ _ | with_reducible exact Rlbits_Div64_3 _ _ _ | with_reducible exact Rlbits_Div64_5 _ _ _ | with_reducible exact Rlbits_Div64_21 _ _ _ _ _ _ _ _ | with_reducible refine Lim.cond ?_ ?_ | with_reducible refine Lim.bind ?_ fun _ => ?_

-- impl.quotientDown
noncomputable def i_quotientDown (L : Int) (i : Int) (s : Int) (t : Int) : Option ((Int × Int) × Bool) :=
  (i_wideOf L).bind fun r0 =>
  (i_wide_shift r0.fst r0.snd.fst r0.snd.snd (bif decide (IntKind.wrap IntKind.i64 (i + t) < 0) then 0 else IntKind.wrap IntKind.i64 (i + t))).bind fun r1 =>
  (i_size s).bind fun r2 =>
  (bits_Div64 0 r1.snd.fst r2).bind fun r3 =>
  (i_size s).bind fun r4 =>
  (bits_Div64 r3.snd r1.snd.snd r4).bind fun r5 =>
  (i_wide_shift (!decide (L < 0) == decide (s < 0)) r3.fst r5.fst (bif decide (0 < IntKind.wrap IntKind.i64 (i + t)) then 0 else IntKind.wrap IntKind.i64 (i + t))).bind fun r6 =>
  bif decide (r5.snd = 0) then
    (i_wide_shift r6.fst r6.snd.fst r6.snd.snd (bif decide (IntKind.wrap IntKind.i64 (IntKind.wrap IntKind.i64 (0 - i) - t) < 0) then 0 else IntKind.wrap IntKind.i64 (IntKind.wrap IntKind.i64 (0 - i) - t))).bind fun r7 =>
    (i_compareSizes r7.fst r7.snd.fst r7.snd.snd (!decide (L < 0) == decide (s < 0)) r3.fst r5.fst).bind fun r8 =>
    bif !decide (L < 0) == decide (s < 0) then
      bif !decide (r8 = 0) then
        (i_wide_add r6.fst r6.snd.fst r6.snd.snd (decide (-1 < 0)) 0 (IntKind.wrap IntKind.u64 (IntKind.wrap IntKind.i64 (0 - -1)))).bind fun r9 =>
        (i_wide_fit true r9.snd.fst r9.snd.snd t).bind fun r10 =>
        some (((r10.fst.fst, r10.fst.snd), r10.snd))
      else
        (i_wide_fit r6.fst r6.snd.fst r6.snd.snd t).bind fun r11 =>
        some (((r11.fst.fst, r11.fst.snd), r11.snd))
    else
      (i_wide_fit r6.fst r6.snd.fst r6.snd.snd t).bind fun r12 =>
      some (((r12.fst.fst, r12.fst.snd), r12.snd))
  else
    bif !decide (L < 0) == decide (s < 0) then
      (i_wide_add r6.fst r6.snd.fst r6.snd.snd (decide (-1 < 0)) 0 (IntKind.wrap IntKind.u64 (IntKind.wrap IntKind.i64 (0 - -1)))).bind fun r13 =>
      (i_wide_fit true r13.snd.fst r13.snd.snd t).bind fun r14 =>
      some (((r14.fst.fst, r14.fst.snd), r14.snd))
    else
      (i_wide_fit r6.fst r6.snd.fst r6.snd.snd t).bind fun r15 =>
      some (((r15.fst.fst, r15.fst.snd), r15.snd))
theorem Mi_quotientDown (k : Nat) (L : Int) (i : Int) (s : Int) (t : Int) : Le (f66 k L i s t) (f66 (k + 1) L i s t) := by
  unfold f66
  repeat' first | with_reducible exact Le.rfl _ | with_reducible exact Mi_wideOf _ _ | with_reducible exact Mi_wide_shift _ _ _ _ _ | with_reducible exact Mi_wide_fit _ _ _ _ _ | with_reducible exact Mbits_Div64 _ _ _ _ | with_reducible exact Mi_size _ _ | with_reducible exact Mi_compareSizes _ _ _ _ _ _ _ | with_reducible exact Mi_wide_add _ _ _ _ _ _ _ | with_reducible refine Le.cond ?_ ?_ | with_reducible refine Le.bind ?_ fun _ => ?_
theorem Ri_quotientDown (L : Int) (i : Int) (s : Int) (t : Int) : Lim (fun k => f66 k L i s t) (i_quotientDown L i s t) := by
  unfold f66 i_quotientDown
  repeat' first | with_reducible exact Lim.ret _ | with_reducible exact Ri_wideOf _ | with_reducible exact Ri_wide_shift _ _ _ _ | with_reducible exact Ri_wide_fit _ _ _ _ | with_reducible exact Rbits_Div64 _ _ _ | with_reducible exact Ri_size _ | with_reducible exact Ri_compareSizes _ _ _ _ _ _ | with_reducible exact Ri_wide_add _ _ _ _ _ _ | with_reducible refine Lim.cond ?_ ?_ | with_reducible refine Lim.bind ?_ fun _ => ?_

-- impl.ShareOf
noncomputable def i_ShareOf (b_K : Int) (b_Low : List (Int)) (b_High : List (Int)) (l : List (Int × Int)) (kind : Int) : Option (Int × Bool) :=
  (i_treeFits (b_K, b_Low, b_High) l).bind fun r0 =>
  bif !r0 then
    some ((0, false))
  else
    (i_isLeafKind kind).bind fun r1 =>
    bif !r1 then
      some ((0, false))
    else
      (i_kindVolumes (b_K, b_Low, b_High) l).bind fun r2 =>
      (i_Box_volume (b_K, b_Low, b_High)).bind fun r3 =>
      bif !r2.snd then
        some ((0, false))
      else
        bif !r3.snd then
          some ((0, false))
        else
          bif boundA (IntKind.wrap IntKind.i64 (kind - 1)) (List.length r2.fst) then
            bif Nat.blt (Int.toNat (IntKind.wrap IntKind.i64 (kind - 1))) (List.length r2.fst) then
              (i_quotientDown (IntKind.wrap IntKind.i64 (100 * (List.getD r2.fst (Int.toNat (IntKind.wrap IntKind.i64 (kind - 1))) (0, 0)).fst)) (IntKind.wrap IntKind.i64 (r3.fst.snd - (List.getD r2.fst (Int.toNat (IntKind.wrap IntKind.i64 (kind - 1))) (0, 0)).snd)) r3.fst.fst 0).bind fun r4 =>
              some ((r4.fst.fst, true))
            else
              none
          else
            none
theorem Mi_ShareOf (k : Nat) (b_K : Int) (b_Low : List (Int)) (b_High : List (Int)) (l : List (Int × Int)) (kind : Int) : Le (f33 k b_K b_Low b_High l kind) (f33 (k + 1) b_K b_Low b_High l kind) := by
  unfold f33
  repeat' first | with_reducible exact Le.rfl _ | with_reducible exact Mi_treeFits _ _ _ | with_reducible exact Mi_kindVolumes _ _ _ | with_reducible exact Mi_Box_volume _ _ | with_reducible exact Mi_isLeafKind _ _ | with_reducible exact Mi_quotientDown _ _ _ _ _ | with_reducible refine Le.cond ?_ ?_ | with_reducible refine Le.bind ?_ fun _ => ?_
theorem Ri_ShareOf (b_K : Int) (b_Low : List (Int)) (b_High : List (Int)) (l : List (Int × Int)) (kind : Int) : Lim (fun k => f33 k b_K b_Low b_High l kind) (i_ShareOf b_K b_Low b_High l kind) := by
  unfold f33 i_ShareOf
  repeat' first | with_reducible exact Lim.ret _ | with_reducible exact Ri_treeFits _ _ | with_reducible exact Ri_kindVolumes _ _ | with_reducible exact Ri_Box_volume _ | with_reducible exact Ri_isLeafKind _ | with_reducible exact Ri_quotientDown _ _ _ _ | with_reducible refine Lim.cond ?_ ?_ | with_reducible refine Lim.bind ?_ fun _ => ?_

-- laws.FnExactShareOf
noncomputable def w_FnExactShareOf (L_K : Int) (L_Low : List (Int)) (L_High : List (Int)) (i : List (Int × Int)) (s : Int) : Option (Bool) :=
  (w_szBox L_K L_Low L_High 1000000).bind fun r0 =>
  bif decide (r0 < 0) then
    some true
  else
    (w_szNodeS i r0).bind fun r1 =>
    bif decide (r1 < 0) then
      some true
    else
      (w_toBox L_K L_Low L_High false).bind fun r2 =>
      (w_toNodeS i false).bind fun r3 =>
      (s_ShareOf r2.fst (List.take r2.snd.fst.snd r2.snd.fst.fst) (List.take r2.snd.snd.snd r2.snd.snd.fst) (List.take r3.snd r3.fst) s).bind fun r4 =>
      (w_toBox L_K L_Low L_High false).bind fun r5 =>
      (w_toNodeS i false).bind fun r6 =>
      (i_ShareOf r5.fst (List.take r5.snd.fst.snd r5.snd.fst.fst) (List.take r5.snd.snd.snd r5.snd.snd.fst) (List.take r6.snd r6.fst) s).bind fun r7 =>
      bif !decide (r7.fst = r4.fst) then
        some false
      else
        bif !r7.snd == r4.snd then
          some false
        else
          (w_toBox L_K L_Low L_High false).bind fun r8 =>
          (w_intactBox r5.fst r5.snd.fst.fst r5.snd.fst.snd r5.snd.snd.fst r5.snd.snd.snd r8.fst r8.snd.fst.fst r8.snd.fst.snd r8.snd.snd.fst r8.snd.snd.snd).bind fun r9 =>
          bif !r9 then
            some false
          else
            (w_toNodeS i false).bind fun r10 =>
            (w_intactNodeS r6.fst r6.snd r10.fst r10.snd).bind fun r11 =>
            bif !r11 then
              some false
            else
              (w_toBox L_K L_Low L_High true).bind fun r12 =>
              (w_toNodeS i true).bind fun r13 =>
              (i_ShareOf r12.fst (List.take r12.snd.fst.snd r12.snd.fst.fst) (List.take r12.snd.snd.snd r12.snd.snd.fst) (List.take r13.snd r13.fst) s).bind fun r14 =>
              bif !decide (r14.fst = r4.fst) then
                some false
              else
                bif !r14.snd == r4.snd then
                  some false
                else
                  some true
theorem Mw_FnExactShareOf (k : Nat) (L_K : Int) (L_Low : List (Int)) (L_High : List (Int)) (i : List (Int × Int)) (s : Int) : Le (f7 k L_K L_Low L_High i s) (f7 (k + 1) L_K L_Low L_High i s) := by
  unfold f7
  repeat' first | with_reducible exact Le.rfl _ | with_reducible exact Mw_toBox _ _ _ _ _ | with_reducible exact Mw_toNodeS _ _ _ | with_reducible exact Mw_intactBox _ _ _ _ _ _ _ _ _ _ _ | with_reducible exact Mw_intactNodeS _ _ _ _ _ | with_reducible exact Ms_ShareOf _ _ _ _ _ _ | with_reducible exact Mi_ShareOf _ _ _ _ _ _ | with_reducible exact Mw_szBox _ _ _ _ _ | with_reducible exact Mw_szNodeS _ _ _ | with_reducible refine Le.cond ?_ ?_ | with_reducible refine Le.bind ?_ fun _ => ?_
theorem Rw_FnExactShareOf (L_K : Int) (L_Low : List (Int)) (L_High : List (Int)) (i : List (Int × Int)) (s : Int) : Lim (fun k => f7 k L_K L_Low L_High i s) (w_FnExactShareOf L_K L_Low L_High i s) := by
  unfold f7 w_FnExactShareOf
  repeat' first | with_reducible exact Lim.ret _ | with_reducible exact Rw_toBox _ _ _ _ | with_reducible exact Rw_toNodeS _ _ | with_reducible exact Rw_intactBox _ _ _ _ _ _ _ _ _ _ | with_reducible exact Rw_intactNodeS _ _ _ _ | with_reducible exact Rs_ShareOf _ _ _ _ _ | with_reducible exact Ri_ShareOf _ _ _ _ _ | with_reducible exact Rw_szBox _ _ _ _ | with_reducible exact Rw_szNodeS _ _ | with_reducible refine Lim.cond ?_ ?_ | with_reducible refine Lim.bind ?_ fun _ => ?_

-- laws.markIntS
theorem MFw_markIntS_1002 (k : Nat) {r1002 q1002 : Nat → Int → Int → List Int → Option (((List (Int))) × Int)} (h1002 : ∀ (a_n : Nat) (k_ : Int) (i : Int) (p3 : List Int), Le (r1002 a_n k_ i p3) (q1002 a_n k_ i p3)) (a_n : Nat) (k_ : Int) (i : Int) (p3 : List Int) : Le (F58_1002 k r1002 a_n k_ i p3) (F58_1002 (k + 1) q1002 a_n k_ i p3) := by
  unfold F58_1002
  repeat' first | with_reducible exact Le.rfl _ | with_reducible exact h1002 _ _ _ _ | with_reducible refine Le.cond ?_ ?_ | with_reducible refine Le.bind ?_ fun _ => ?_
theorem Mlw_markIntS : ∀ k : Nat, ∀ (a_n : Nat) (k_ : Int) (i : Int) (p3 : List Int), Le ((l58 k) a_n k_ i p3) ((l58 (k + 1)) a_n k_ i p3)
  | 0 => fun a_n k_ i p3 => Le.no _
  | k + 1 => by
    have h := Mlw_markIntS k
    exact fun a_n k_ i p3 => MFw_markIntS_1002 k h a_n k_ i p3
noncomputable def w_markIntS_1002 (a_n : Nat) (k_ : Int) (i : Int) (p3 : List Int) : Option (((List (Int))) × Int) := lim fun k => (l58 k) a_n k_ i p3
theorem Rlw_markIntS_1002 (a_n : Nat) (k_ : Int) (i : Int) (p3 : List Int) : Lim (fun k => (l58 k) a_n k_ i p3) (w_markIntS_1002 a_n k_ i p3) := Lim.of_mono fun k => Mlw_markIntS k a_n k_ i p3
theorem Ew_markIntS_1002 (a_n : Nat) (k_ : Int) (i : Int) (p3 : List Int) : w_markIntS_1002 a_n k_ i p3 =
  bif decide (i < (↑a_n : Int)) then
    bif boundA i a_n then
      bif Nat.ble a_n (List.length p3) then
        bif Nat.blt (Int.toNat i) (List.length p3) then
          w_markIntS_1002 a_n (IntKind.wrap IntKind.i64 (k_ + 1)) (IntKind.wrap IntKind.i64 (i + 1)) (List.set p3 (Int.toNat i) k_)
        else
          none
      else
        none
    else
      none
  else
    some ((p3, k_)) := by
  refine Lim.uniq (Lim.shift (Rlw_markIntS_1002 a_n k_ i p3)) (?_ : Lim (fun k => F58_1002 k ((l58 k)) a_n k_ i p3) _)
  unfold F58_1002
  repeat' first | with_reducible exact Lim.ret _ | with_reducible exact Rlw_markIntS_1002 _ _ _ _ | with_reducible refine Lim.cond ?_ ?_ | with_reducible refine Lim.bind ?_ fun _ => ?_
noncomputable def w_markIntS (a : List (Int)) (a_n : Nat) (k_ : Int) : Option (((List (Int))) × Int) :=
  w_markIntS_1002 a_n k_ (0) a
theorem Mw_markIntS (k : Nat) (a : List (Int)) (a_n : Nat) (k_ : Int) : Le (f58 k a a_n k_) (f58 (k + 1) a a_n k_) := by
  have h := Mlw_markIntS k
  unfold f58 F58
  repeat' first | with_reducible exact Le.rfl _ | with_reducible exact h _ _ _ _ | with_reducible refine Le.cond ?_ ?_ | with_reducible refine Le.bind ?_ fun _ => ?_
theorem Rw_markIntS (a : List (Int)) (a_n : Nat) (k_ : Int) : Lim (fun k => f58 k a a_n k_) (w_markIntS a a_n k_) := by
  unfold f58 F58 w_markIntS
  repeat' first | with_reducible exact Lim.ret _ | with_reducible exact Rlw_markIntS_1002 _ _ _ _ | with_reducible refine Lim.cond ?_ ?_ | with_reducible refine Lim.bind ?_ fun _ => ?_

-- laws.markIntS
theorem MFw_markIntS_x0_1002 (k : Nat) {r1002 q1002 : Int → Int → List Int → Option (((List (Int))) × Int)} (h1002 : ∀ (k_ : Int) (i : Int) (p3 : List Int), Le (r1002 k_ i p3) (q1002 k_ i p3)) (k_ : Int) (i : Int) (p3 : List Int) : Le (F58_0_1002 k r1002 k_ i p3) (F58_0_1002 (k + 1) q1002 k_ i p3) := by
  unfold F58_0_1002
  repeat' first | with_reducible exact Le.rfl _ | with_reducible exact h1002 _ _ _ | with_reducible refine Le.cond ?_ ?_ | with_reducible refine Le.bind ?_ fun _ => ?_
theorem Mlw_markIntS_x0 : ∀ k : Nat, ∀ (k_ : Int) (i : Int) (p3 : List Int), Le ((l58_0 k) k_ i p3) ((l58_0 (k + 1)) k_ i p3)
  | 0 => fun k_ i p3 => Le.no _
  | k + 1 => by
    have h := Mlw_markIntS_x0 k
    exact fun k_ i p3 => MFw_markIntS_x0_1002 k h k_ i p3
noncomputable def w_markIntS_x0_1002 (k_ : Int) (i : Int) (p3 : List Int) : Option (((List (Int))) × Int) := lim fun k => (l58_0 k) k_ i p3
theorem Rlw_markIntS_x0_1002 (k_ : Int) (i : Int) (p3 : List Int) : Lim (fun k => (l58_0 k) k_ i p3) (w_markIntS_x0_1002 k_ i p3) := Lim.of_mono fun k => Mlw_markIntS_x0 k k_ i p3
theorem Ew_markIntS_x0_1002 (k_ : Int) (i : Int) (p3 : List Int) : w_markIntS_x0_1002 k_ i p3 =
  bif decide (i < (↑(List.length p3) : Int)) then
    bif boundA i (List.length p3) then
      bif Nat.blt (Int.toNat i) (List.length p3) then
        w_markIntS_x0_1002 (IntKind.wrap IntKind.i64 (k_ + 1)) (IntKind.wrap IntKind.i64 (i + 1)) (List.set p3 (Int.toNat i) k_)
      else
        none
    else
      none
  else
    some ((p3, k_)) := by
  refine Lim.uniq (Lim.shift (Rlw_markIntS_x0_1002 k_ i p3)) (?_ : Lim (fun k => F58_0_1002 k ((l58_0 k)) k_ i p3) _)
  unfold F58_0_1002
  repeat' first | with_reducible exact Lim.ret _ | with_reducible exact Rlw_markIntS_x0_1002 _ _ _ | with_reducible refine Lim.cond ?_ ?_ | with_reducible refine Lim.bind ?_ fun _ => ?_
noncomputable def w_markIntS_x0 (a : List (Int)) (k_ : Int) : Option (((List (Int))) × Int) :=
  w_markIntS_x0_1002 k_ (0) a
theorem Mw_markIntS_x0 (k : Nat) (a : List (Int)) (k_ : Int) : Le (f58_0 k a k_) (f58_0 (k + 1) a k_) := by
  have h := Mlw_markIntS_x0 k
  unfold f58_0 F58_0
  repeat' first | with_reducible exact Le.rfl _ | with_reducible exact h _ _ _ | with_reducible refine Le.cond ?_ ?_ | with_reducible refine Le.bind ?_ fun _ => ?_
theorem Rw_markIntS_x0 (a : List (Int)) (k_ : Int) : Lim (fun k => f58_0 k a k_) (w_markIntS_x0 a k_) := by
  unfold f58_0 F58_0 w_markIntS_x0
  repeat' first | with_reducible exact Lim.ret _ | with_reducible exact Rlw_markIntS_x0_1002 _ _ _ | with_reducible refine Lim.cond ?_ ?_ | with_reducible refine Lim.bind ?_ fun _ => ?_

-- laws.markBox
noncomputable def w_markBox (a_Low : List (Int)) (a_High : List (Int)) (a_K : Int) (a_Low_n : Nat) (a_High_n : Nat) (k_ : Int) : Option (((List (Int)) × (List (Int))) × Int) :=
  (w_markIntS a_Low a_Low_n k_).bind fun r0 =>
  (w_markIntS a_High a_High_n r0.snd).bind fun r1 =>
  some (((r0.fst, r1.fst), r1.snd))
theorem Mw_markBox (k : Nat) (a_Low : List (Int)) (a_High : List (Int)) (a_K : Int) (a_Low_n : Nat) (a_High_n : Nat) (k_ : Int) : Le (f24 k a_Low a_High a_K a_Low_n a_High_n k_) (f24 (k + 1) a_Low a_High a_K a_Low_n a_High_n k_) := by
  unfold f24
  repeat' first | with_reducible exact Le.rfl _ | with_reducible exact Mw_markIntS _ _ _ _ | with_reducible refine Le.cond ?_ ?_ | with_reducible refine Le.bind ?_ fun _ => ?_
theorem Rw_markBox (a_Low : List (Int)) (a_High : List (Int)) (a_K : Int) (a_Low_n : Nat) (a_High_n : Nat) (k_ : Int) : Lim (fun k => f24 k a_Low a_High a_K a_Low_n a_High_n k_) (w_markBox a_Low a_High a_K a_Low_n a_High_n k_) := by
  unfold f24 w_markBox
  repeat' first | with_reducible exact Lim.ret _ | with_reducible exact Rw_markIntS _ _ _ | with_reducible refine Lim.cond ?_ ?_ | with_reducible refine Lim.bind ?_ fun _ => ?_

-- laws.markBox
noncomputable def w_markBox_x0 (a_Low : List (Int)) (a_High : List (Int)) (a_K : Int) (k_ : Int) : Option (((List (Int)) × (List (Int))) × Int) :=
  (w_markIntS_x0 a_Low k_).bind fun r0 =>
  (w_markIntS_x0 a_High r0.snd).bind fun r1 =>
  some (((r0.fst, r1.fst), r1.snd))
theorem Mw_markBox_x0 (k : Nat) (a_Low : List (Int)) (a_High : List (Int)) (a_K : Int) (k_ : Int) : Le (f24_0 k a_Low a_High a_K k_) (f24_0 (k + 1) a_Low a_High a_K k_) := by
  unfold f24_0
  repeat' first | with_reducible exact Le.rfl _ | with_reducible exact Mw_markIntS_x0 _ _ _ | with_reducible refine Le.cond ?_ ?_ | with_reducible refine Le.bind ?_ fun _ => ?_
theorem Rw_markBox_x0 (a_Low : List (Int)) (a_High : List (Int)) (a_K : Int) (k_ : Int) : Lim (fun k => f24_0 k a_Low a_High a_K k_) (w_markBox_x0 a_Low a_High a_K k_) := by
  unfold f24_0 w_markBox_x0
  repeat' first | with_reducible exact Lim.ret _ | with_reducible exact Rw_markIntS_x0 _ _ | with_reducible refine Lim.cond ?_ ?_ | with_reducible refine Lim.bind ?_ fun _ => ?_

-- laws.markNodeS
theorem MFw_markNodeS_1002 (k : Nat) {r1002 q1002 : Nat → Int → Int → List (Int × Int) → Option (((List (Int × Int))) × Int)} (h1002 : ∀ (a_n : Nat) (k_ : Int) (i : Int) (p3 : List (Int × Int)), Le (r1002 a_n k_ i p3) (q1002 a_n k_ i p3)) (a_n : Nat) (k_ : Int) (i : Int) (p3 : List (Int × Int)) : Le (F25_1002 k r1002 a_n k_ i p3) (F25_1002 (k + 1) q1002 a_n k_ i p3) := by
  unfold F25_1002
  repeat' first | with_reducible exact Le.rfl _ | with_reducible exact h1002 _ _ _ _ | with_reducible refine Le.cond ?_ ?_ | with_reducible refine Le.bind ?_ fun _ => ?_
theorem Mlw_markNodeS : ∀ k : Nat, ∀ (a_n : Nat) (k_ : Int) (i : Int) (p3 : List (Int × Int)), Le ((l25 k) a_n k_ i p3) ((l25 (k + 1)) a_n k_ i p3)
  | 0 => fun a_n k_ i p3 => Le.no _
  | k + 1 => by
    have h := Mlw_markNodeS k
    exact fun a_n k_ i p3 => MFw_markNodeS_1002 k h a_n k_ i p3
noncomputable def w_markNodeS_1002 (a_n : Nat) (k_ : Int) (i : Int) (p3 : List (Int × Int)) : Option (((List (Int × Int))) × Int) := lim fun k => (l25 k) a_n k_ i p3
theorem Rlw_markNodeS_1002 (a_n : Nat) (k_ : Int) (i : Int) (p3 : List (Int × Int)) : Lim (fun k => (l25 k) a_n k_ i p3) (w_markNodeS_1002 a_n k_ i p3) := Lim.of_mono fun k => Mlw_markNodeS k a_n k_ i p3
theorem Ew_markNodeS_1002 (a_n : Nat) (k_ : Int) (i : Int) (p3 : List (Int × Int)) : w_markNodeS_1002 a_n k_ i p3 =
  bif decide (i < (↑a_n : Int)) then
    bif boundA i a_n then
      bif Nat.ble a_n (List.length p3) then
        bif Nat.blt (Int.toNat i) (List.length p3) then
          bif boundA i a_n then
            bif Nat.ble a_n (List.length (List.set p3 (Int.toNat i) (k_, (List.getD p3 (Int.toNat i) (0, 0)).snd))) then
              bif Nat.blt (Int.toNat i) (List.length (List.set p3 (Int.toNat i) (k_, (List.getD p3 (Int.toNat i) (0, 0)).snd))) then
                w_markNodeS_1002 a_n (IntKind.wrap IntKind.i64 (IntKind.wrap IntKind.i64 (k_ + 1) + 1)) (IntKind.wrap IntKind.i64 (i + 1)) (List.set (List.set p3 (Int.toNat i) (k_, (List.getD p3 (Int.toNat i) (0, 0)).snd)) (Int.toNat i) ((List.getD (List.set p3 (Int.toNat i) (k_, (List.getD p3 (Int.toNat i) (0, 0)).snd)) (Int.toNat i) (0, 0)).fst, IntKind.wrap IntKind.i64 (k_ + 1)))
              else
                none
            else
              none
          else
            none
        else
          none
      else
        none
    else
      none
  else
    some ((p3, k_)) := by
  refine Lim.uniq (Lim.shift (Rlw_markNodeS_1002 a_n k_ i p3)) (?_ : Lim (fun k => F25_1002 k ((l25 k)) a_n k_ i p3) _)
  unfold F25_1002
  repeat' first | with_reducible exact Lim.ret _ | with_reducible exact Rlw_markNodeS_1002 _ _ _ _ | with_reducible refine Lim.cond ?_ ?_ | with_reducible refine Lim.bind ?_ fun _ => ?_
noncomputable def w_markNodeS (a : List (Int × Int)) (a_n : Nat) (k_ : Int) : Option (((List (Int × Int))) × Int) :=
  w_markNodeS_1002 a_n k_ (0) a
theorem Mw_markNodeS (k : Nat) (a : List (Int × Int)) (a_n : Nat) (k_ : Int) : Le (f25 k a a_n k_) (f25 (k + 1) a a_n k_) := by
  have h := Mlw_markNodeS k
  unfold f25 F25
  repeat' first | with_reducible exact Le.rfl _ | with_reducible exact h _ _ _ _ | with_reducible refine Le.cond ?_ ?_ | with_reducible refine Le.bind ?_ fun _ => ?_
theorem Rw_markNodeS (a : List (Int × Int)) (a_n : Nat) (k_ : Int) : Lim (fun k => f25 k a a_n k_) (w_markNodeS a a_n k_) := by
  unfold f25 F25 w_markNodeS
  repeat' first | with_reducible exact Lim.ret _ | with_reducible exact Rlw_markNodeS_1002 _ _ _ _ | with_reducible refine Lim.cond ?_ ?_ | with_reducible refine Lim.bind ?_ fun _ => ?_

-- laws.markNodeS
theorem MFw_markNodeS_x0_1002 (k : Nat) {r1002 q1002 : Int → Int → List (Int × Int) → Option (((List (Int × Int))) × Int)} (h1002 : ∀ (k_ : Int) (i : Int) (p3 : List (Int × Int)), Le (r1002 k_ i p3) (q1002 k_ i p3)) (k_ : Int) (i : Int) (p3 : List (Int × Int)) : Le (F25_0_1002 k r1002 k_ i p3) (F25_0_1002 (k + 1) q1002 k_ i p3) := by
  unfold F25_0_1002
  repeat' first | with_reducible exact Le.rfl _ | with_reducible exact h1002 _ _ _ | with_reducible refine Le.cond ?_ ?_ | with_reducible refine Le.bind ?_ fun _ => ?_
theorem Mlw_markNodeS_x0 : ∀ k : Nat, ∀ (k_ : Int) (i : Int) (p3 : List (Int × Int)), Le ((l25_0 k) k_ i p3) ((l25_0 (k + 1)) k_ i p3)
  | 0 => fun k_ i p3 => Le.no _
  | k + 1 => by
    have h := Mlw_markNodeS_x0 k
    exact fun k_ i p3 => MFw_markNodeS_x0_1002 k h k_ i p3
noncomputable def w_markNodeS_x0_1002 (k_ : Int) (i : Int) (p3 : List (Int × Int)) : Option (((List (Int × Int))) × Int) := lim fun k => (l25_0 k) k_ i p3
theorem Rlw_markNodeS_x0_1002 (k_ : Int) (i : Int) (p3 : List (Int × Int)) : Lim (fun k => (l25_0 k) k_ i p3) (w_markNodeS_x0_1002 k_ i p3) := Lim.of_mono fun k => Mlw_markNodeS_x0 k k_ i p3
theorem Ew_markNodeS_x0_1002 (k_ : Int) (i : Int) (p3 : List (Int × Int)) : w_markNodeS_x0_1002 k_ i p3 =
  bif decide (i < (↑(List.length p3) : Int)) then
    bif boundA i (List.length p3) then
      bif Nat.blt (Int.toNat i) (List.length p3) then
        bif boundA i (List.length (List.set p3 (Int.toNat i) (k_, (List.getD p3 (Int.toNat i) (0, 0)).snd))) then
          bif Nat.blt (Int.toNat i) (List.length (List.set p3 (Int.toNat i) (k_, (List.getD p3 (Int.toNat i) (0, 0)).snd))) then
            w_markNodeS_x0_1002 (IntKind.wrap IntKind.i64 (IntKind.wrap IntKind.i64 (k_ + 1) + 1)) (IntKind.wrap IntKind.i64 (i + 1)) (List.set (List.set p3 (Int.toNat i) (k_, (List.getD p3 (Int.toNat i) (0, 0)).snd)) (Int.toNat i) ((List.getD (List.set p3 (Int.toNat i) (k_, (List.getD p3 (Int.toNat i) (0, 0)).snd)) (Int.toNat i) (0, 0)).fst, IntKind.wrap IntKind.i64 (k_ + 1)))
          else
            none
        else
          none
      else
        none
    else
      none
  else
    some ((p3, k_)) := by
  refine Lim.uniq (Lim.shift (Rlw_markNodeS_x0_1002 k_ i p3)) (?_ : Lim (fun k => F25_0_1002 k ((l25_0 k)) k_ i p3) _)
  unfold F25_0_1002
  repeat' first | with_reducible exact Lim.ret _ | with_reducible exact Rlw_markNodeS_x0_1002 _ _ _ | with_reducible refine Lim.cond ?_ ?_ | with_reducible refine Lim.bind ?_ fun _ => ?_
noncomputable def w_markNodeS_x0 (a : List (Int × Int)) (k_ : Int) : Option (((List (Int × Int))) × Int) :=
  w_markNodeS_x0_1002 k_ (0) a
theorem Mw_markNodeS_x0 (k : Nat) (a : List (Int × Int)) (k_ : Int) : Le (f25_0 k a k_) (f25_0 (k + 1) a k_) := by
  have h := Mlw_markNodeS_x0 k
  unfold f25_0 F25_0
  repeat' first | with_reducible exact Le.rfl _ | with_reducible exact h _ _ _ | with_reducible refine Le.cond ?_ ?_ | with_reducible refine Le.bind ?_ fun _ => ?_
theorem Rw_markNodeS_x0 (a : List (Int × Int)) (k_ : Int) : Lim (fun k => f25_0 k a k_) (w_markNodeS_x0 a k_) := by
  unfold f25_0 F25_0 w_markNodeS_x0
  repeat' first | with_reducible exact Lim.ret _ | with_reducible exact Rlw_markNodeS_x0_1002 _ _ _ | with_reducible refine Lim.cond ?_ ?_ | with_reducible refine Lim.bind ?_ fun _ => ?_

-- spec.VolumesOf
theorem MFs_VolumesOf_1006 (k : Nat) {r1006 q1006 : List (Int × Int) → List (Int × List Int × List Int) → List (Int × Int) → Int → Option ((List (Int × Int)) × Bool)} (h1006 : ∀ (l : List (Int × Int)) (boxess : List (Int × List Int × List Int)) (outs : List (Int × Int)) (kind : Int), Le (r1006 l boxess outs kind) (q1006 l boxess outs kind)) (l : List (Int × Int)) (boxess : List (Int × List Int × List Int)) (outs : List (Int × Int)) (kind : Int) : Le (F27_1006 k r1006 l boxess outs kind) (F27_1006 (k + 1) q1006 l boxess outs kind) := by
  unfold F27_1006
  repeat' first | with_reducible exact Le.rfl _ | with_reducible exact Ms_rpVolume _ _ _ _ | with_reducible exact h1006 _ _ _ _ | with_reducible refine Le.cond ?_ ?_ | with_reducible refine Le.bind ?_ fun _ => ?_
theorem Mls_VolumesOf : ∀ k : Nat, ∀ (l : List (Int × Int)) (boxess : List (Int × List Int × List Int)) (outs : List (Int × Int)) (kind : Int), Le ((l27 k) l boxess outs kind) ((l27 (k + 1)) l boxess outs kind)
  | 0 => fun l boxess outs kind => Le.no _
  | k + 1 => by
    have h := Mls_VolumesOf k
    exact fun l boxess outs kind => MFs_VolumesOf_1006 k h l boxess outs kind
noncomputable def s_VolumesOf_1006 (l : List (Int × Int)) (boxess : List (Int × List Int × List Int)) (outs : List (Int × Int)) (kind : Int) : Option ((List (Int × Int)) × Bool) := lim fun k => (l27 k) l boxess outs kind
theorem Rls_VolumesOf_1006 (l : List (Int × Int)) (boxess : List (Int × List Int × List Int)) (outs : List (Int × Int)) (kind : Int) : Lim (fun k => (l27 k) l boxess outs kind) (s_VolumesOf_1006 l boxess outs kind) := Lim.of_mono fun k => Mls_VolumesOf k l boxess outs kind
theorem Es_VolumesOf_1006 (l : List (Int × Int)) (boxess : List (Int × List Int × List Int)) (outs : List (Int × Int)) (kind : Int) : s_VolumesOf_1006 l boxess outs kind =
  bif decide (kind ≤ 3) then
    (s_rpVolume boxess l kind).bind fun r0 =>
    bif decide ((List.length outs + List.length [(r0.fst, r0.snd)]) * 16 ≤ 140737488355328) then
      s_VolumesOf_1006 l boxess (outs ++ [(r0.fst, r0.snd)]) (IntKind.wrap IntKind.i64 (kind + 1))
    else
      none
  else
    some ((outs, true)) := by
  refine Lim.uniq (Lim.shift (Rls_VolumesOf_1006 l boxess outs kind)) (?_ : Lim (fun k => F27_1006 k ((l27 k)) l boxess outs kind) _)
  unfold F27_1006
  repeat' first | with_reducible exact Lim.ret _ | with_reducible exact Rs_rpVolume _ _ _ | with_reducible exact Rls_VolumesOf_1006 _ _ _ _ | with_reducible refine Lim.cond ?_ ?_ | with_reducible refine Lim.bind ?_ fun _ => ?_
noncomputable def s_VolumesOf (b_K : Int) (b_Low : List (Int)) (b_High : List (Int)) (l : List (Int × Int)) : Option ((List (Int × Int)) × Bool) :=
  (s_rpAsked b_K b_Low b_High l).bind fun r0 =>
  bif !r0.snd then
    some (([], false))
  else
    s_VolumesOf_1006 l (r0.fst) ([]) (1)
theorem Ms_VolumesOf (k : Nat) (b_K : Int) (b_Low : List (Int)) (b_High : List (Int)) (l : List (Int × Int)) : Le (f27 k b_K b_Low b_High l) (f27 (k + 1) b_K b_Low b_High l) := by
  have h := Mls_VolumesOf k
  unfold f27 F27
  repeat' first | with_reducible exact Le.rfl _ | with_reducible exact Ms_rpAsked _ _ _ _ _ | with_reducible exact h _ _ _ _ | with_reducible refine Le.cond ?_ ?_ | with_reducible refine Le.bind ?_ fun _ => ?_
theorem Rs_VolumesOf (b_K : Int) (b_Low : List (Int)) (b_High : List (Int)) (l : List (Int × Int)) : Lim (fun k => f27 k b_K b_Low b_High l) (s_VolumesOf b_K b_Low b_High l) := by
  unfold f27 F27 s_VolumesOf
  repeat' first | with_reducible exact Lim.ret _ | with_reducible exact Rs_rpAsked _ _ _ _ | with_reducible exact Rls_VolumesOf_1006 _ _ _ _ | with_reducible refine Lim.cond ?_ ?_ | with_reducible refine Lim.bind ?_ fun _ => ?_

-- impl.VolumesOf
noncomputable def i_VolumesOf (b_K : Int) (b_Low : List (Int)) (b_High : List (Int)) (l : List (Int × Int)) : Option ((List (Int × Int)) × Bool) :=
  (i_isBox (b_K, b_Low, b_High)).bind fun r0 =>
  bif !r0 then
    some (([], false))
  else
    (i_isTree l (↑(List.length b_Low) : Int)).bind fun r1 =>
    bif !r1 then
      some (([], false))
    else
      (i_kindVolumes (b_K, b_Low, b_High) l).bind fun r2 =>
      some ((r2.fst, r2.snd))
theorem Mi_VolumesOf (k : Nat) (b_K : Int) (b_Low : List (Int)) (b_High : List (Int)) (l : List (Int × Int)) : Le (f28 k b_K b_Low b_High l) (f28 (k + 1) b_K b_Low b_High l) := by
  unfold f28
  repeat' first | with_reducible exact Le.rfl _ | with_reducible exact Mi_kindVolumes _ _ _ | with_reducible exact Mi_isBox _ _ | with_reducible exact Mi_isTree _ _ _ | with_reducible refine Le.cond ?_ ?_ | with_reducible refine Le.bind ?_ fun _ => ?_
theorem Ri_VolumesOf (b_K : Int) (b_Low : List (Int)) (b_High : List (Int)) (l : List (Int × Int)) : Lim (fun k => f28 k b_K b_Low b_High l) (i_VolumesOf b_K b_Low b_High l) := by
  unfold f28 i_VolumesOf
  repeat' first | with_reducible exact Lim.ret _ | with_reducible exact Ri_kindVolumes _ _ | with_reducible exact Ri_isBox _ | with_reducible exact Ri_isTree _ _ | with_reducible refine Lim.cond ?_ ?_ | with_reducible refine Lim.bind ?_ fun _ => ?_

-- laws.eqDyadic
noncomputable def w_eqDyadic (a_N : Int) (a_K : Int) (b_N : Int) (b_K : Int) : Option (Bool) :=
  bif !decide (a_N = b_N) then
    some false
  else
    bif !decide (a_K = b_K) then
      some false
    else
      some true
theorem Mw_eqDyadic (k : Nat) (a_N : Int) (a_K : Int) (b_N : Int) (b_K : Int) : Le (f62 k a_N a_K b_N b_K) (f62 (k + 1) a_N a_K b_N b_K) := by
  unfold f62
  repeat' first | with_reducible exact Le.rfl _ | with_reducible refine Le.cond ?_ ?_ | with_reducible refine Le.bind ?_ fun _ => ?_
theorem Rw_eqDyadic (a_N : Int) (a_K : Int) (b_N : Int) (b_K : Int) : Lim (fun k => f62 k a_N a_K b_N b_K) (w_eqDyadic a_N a_K b_N b_K) := by
  unfold f62 w_eqDyadic
  repeat' first | with_reducible exact Lim.ret _ | with_reducible refine Lim.cond ?_ ?_ | with_reducible refine Lim.bind ?_ fun _ => ?_

-- laws.eqDyadicS
theorem MFw_eqDyadicS_1004 (k : Nat) {r1004 q1004 : List (Int × Int) → List (Int × Int) → Int → Option (Bool)} (h1004 : ∀ (a : List (Int × Int)) (b : List (Int × Int)) (i : Int), Le (r1004 a b i) (q1004 a b i)) (a : List (Int × Int)) (b : List (Int × Int)) (i : Int) : Le (F29_1004 k r1004 a b i) (F29_1004 (k + 1) q1004 a b i) := by
  unfold F29_1004
  repeat' first | with_reducible exact Le.rfl _ | with_reducible exact Mw_eqDyadic _ _ _ _ _ | with_reducible exact h1004 _ _ _ | with_reducible refine Le.cond ?_ ?_ | with_reducible refine Le.bind ?_ fun _ => ?_
theorem Mlw_eqDyadicS : ∀ k : Nat, ∀ (a : List (Int × Int)) (b : List (Int × Int)) (i : Int), Le ((l29 k) a b i) ((l29 (k + 1)) a b i)
  | 0 => fun a b i => Le.no _
  | k + 1 => by
    have h := Mlw_eqDyadicS k
    exact fun a b i => MFw_eqDyadicS_1004 k h a b i
noncomputable def w_eqDyadicS_1004 (a : List (Int × Int)) (b : List (Int × Int)) (i : Int) : Option (Bool) := lim fun k => (l29 k) a b i
theorem Rlw_eqDyadicS_1004 (a : List (Int × Int)) (b : List (Int × Int)) (i : Int) : Lim (fun k => (l29 k) a b i) (w_eqDyadicS_1004 a b i) := Lim.of_mono fun k => Mlw_eqDyadicS k a b i
theorem Ew_eqDyadicS_1004 (a : List (Int × Int)) (b : List (Int × Int)) (i : Int) : w_eqDyadicS_1004 a b i =
  bif decide (i < (↑(List.length a) : Int)) then
    bif boundA i (List.length a) then
      bif boundA i (List.length b) then
        (w_eqDyadic (List.getD a (Int.toNat i) (0, 0)).fst (List.getD a (Int.toNat i) (0, 0)).snd (List.getD b (Int.toNat i) (0, 0)).fst (List.getD b (Int.toNat i) (0, 0)).snd).bind fun r0 =>
        bif !r0 then
          some false
        else
          w_eqDyadicS_1004 a b (IntKind.wrap IntKind.i64 (i + 1))
      else
        none
    else
      none
  else
    some true := by
  refine Lim.uniq (Lim.shift (Rlw_eqDyadicS_1004 a b i)) (?_ : Lim (fun k => F29_1004 k ((l29 k)) a b i) _)
  unfold F29_1004
  repeat' first | with_reducible exact Lim.ret _ | with_reducible exact Rw_eqDyadic _ _ _ _ | with_reducible exact Rlw_eqDyadicS_1004 _ _ _ | with_reducible refine Lim.cond ?_ ?_ | with_reducible refine Lim.bind ?_ fun _ => ?_
noncomputable def w_eqDyadicS (a : List (Int × Int)) (b : List (Int × Int)) : Option (Bool) :=
  bif !decide ((↑(List.length a) : Int) = (↑(List.length b) : Int)) then
    some false
  else
    w_eqDyadicS_1004 a b (0)
theorem Mw_eqDyadicS (k : Nat) (a : List (Int × Int)) (b : List (Int × Int)) : Le (f29 k a b) (f29 (k + 1) a b) := by
  have h := Mlw_eqDyadicS k
  unfold f29 F29
  repeat' first | with_reducible exact Le.rfl _ | with_reducible exact h _ _ _ | with_reducible refine Le.cond ?_ ?_ | with_reducible refine Le.bind ?_ fun _ => ?_
theorem Rw_eqDyadicS (a : List (Int × Int)) (b : List (Int × Int)) : Lim (fun k => f29 k a b) (w_eqDyadicS a b) := by
  unfold f29 F29 w_eqDyadicS
  repeat' first | with_reducible exact Lim.ret _ | with_reducible exact Rlw_eqDyadicS_1004 _ _ _ | with_reducible refine Lim.cond ?_ ?_ | with_reducible refine Lim.bind ?_ fun _ => ?_

-- laws.markDyadicS
theorem MFw_markDyadicS_1002 (k : Nat) {r1002 q1002 : Nat → Int → Int → List (Int × Int) → Option (((List (Int × Int))) × Int)} (h1002 : ∀ (a_n : Nat) (k_ : Int) (i : Int) (p3 : List (Int × Int)), Le (r1002 a_n k_ i p3) (q1002 a_n k_ i p3)) (a_n : Nat) (k_ : Int) (i : Int) (p3 : List (Int × Int)) : Le (F30_1002 k r1002 a_n k_ i p3) (F30_1002 (k + 1) q1002 a_n k_ i p3) := by
  unfold F30_1002
  repeat' first | with_reducible exact Le.rfl _ | with_reducible exact h1002 _ _ _ _ | with_reducible refine Le.cond ?_ ?_ | with_reducible refine Le.bind ?_ fun _ => ?_
theorem Mlw_markDyadicS : ∀ k : Nat, ∀ (a_n : Nat) (k_ : Int) (i : Int) (p3 : List (Int × Int)), Le ((l30 k) a_n k_ i p3) ((l30 (k + 1)) a_n k_ i p3)
  | 0 => fun a_n k_ i p3 => Le.no _
  | k + 1 => by
    have h := Mlw_markDyadicS k
    exact fun a_n k_ i p3 => MFw_markDyadicS_1002 k h a_n k_ i p3
noncomputable def w_markDyadicS_1002 (a_n : Nat) (k_ : Int) (i : Int) (p3 : List (Int × Int)) : Option (((List (Int × Int))) × Int) := lim fun k => (l30 k) a_n k_ i p3
theorem Rlw_markDyadicS_1002 (a_n : Nat) (k_ : Int) (i : Int) (p3 : List (Int × Int)) : Lim (fun k => (l30 k) a_n k_ i p3) (w_markDyadicS_1002 a_n k_ i p3) := Lim.of_mono fun k => Mlw_markDyadicS k a_n k_ i p3
theorem Ew_markDyadicS_1002 (a_n : Nat) (k_ : Int) (i : Int) (p3 : List (Int × Int)) : w_markDyadicS_1002 a_n k_ i p3 =
  bif decide (i < (↑a_n : Int)) then
    bif boundA i a_n then
      bif Nat.ble a_n (List.length p3) then
        bif Nat.blt (Int.toNat i) (List.length p3) then
          bif boundA i a_n then
            bif Nat.ble a_n (List.length (List.set p3 (Int.toNat i) (k_, (List.getD p3 (Int.toNat i) (0, 0)).snd))) then
              bif Nat.blt (Int.toNat i) (List.length (List.set p3 (Int.toNat i) (k_, (List.getD p3 (Int.toNat i) (0, 0)).snd))) then
                w_markDyadicS_1002 a_n (IntKind.wrap IntKind.i64 (IntKind.wrap IntKind.i64 (k_ + 1) + 1)) (IntKind.wrap IntKind.i64 (i + 1)) (List.set (List.set p3 (Int.toNat i) (k_, (List.getD p3 (Int.toNat i) (0, 0)).snd)) (Int.toNat i) ((List.getD (List.set p3 (Int.toNat i) (k_, (List.getD p3 (Int.toNat i) (0, 0)).snd)) (Int.toNat i) (0, 0)).fst, IntKind.wrap IntKind.i64 (k_ + 1)))
              else
                none
            else
              none
          else
            none
        else
          none
      else
        none
    else
      none
  else
    some ((p3, k_)) := by
  refine Lim.uniq (Lim.shift (Rlw_markDyadicS_1002 a_n k_ i p3)) (?_ : Lim (fun k => F30_1002 k ((l30 k)) a_n k_ i p3) _)
  unfold F30_1002
  repeat' first | with_reducible exact Lim.ret _ | with_reducible exact Rlw_markDyadicS_1002 _ _ _ _ | with_reducible refine Lim.cond ?_ ?_ | with_reducible refine Lim.bind ?_ fun _ => ?_
noncomputable def w_markDyadicS (a : List (Int × Int)) (a_n : Nat) (k_ : Int) : Option (((List (Int × Int))) × Int) :=
  w_markDyadicS_1002 a_n k_ (0) a
theorem Mw_markDyadicS (k : Nat) (a : List (Int × Int)) (a_n : Nat) (k_ : Int) : Le (f30 k a a_n k_) (f30 (k + 1) a a_n k_) := by
  have h := Mlw_markDyadicS k
  unfold f30 F30
  repeat' first | with_reducible exact Le.rfl _ | with_reducible exact h _ _ _ _ | with_reducible refine Le.cond ?_ ?_ | with_reducible refine Le.bind ?_ fun _ => ?_
theorem Rw_markDyadicS (a : List (Int × Int)) (a_n : Nat) (k_ : Int) : Lim (fun k => f30 k a a_n k_) (w_markDyadicS a a_n k_) := by
  unfold f30 F30 w_markDyadicS
  repeat' first | with_reducible exact Lim.ret _ | with_reducible exact Rlw_markDyadicS_1002 _ _ _ _ | with_reducible refine Lim.cond ?_ ?_ | with_reducible refine Lim.bind ?_ fun _ => ?_

-- laws.markDyadicS
theorem MFw_markDyadicS_x0_1002 (k : Nat) {r1002 q1002 : Int → Int → List (Int × Int) → Option (((List (Int × Int))) × Int)} (h1002 : ∀ (k_ : Int) (i : Int) (p3 : List (Int × Int)), Le (r1002 k_ i p3) (q1002 k_ i p3)) (k_ : Int) (i : Int) (p3 : List (Int × Int)) : Le (F30_0_1002 k r1002 k_ i p3) (F30_0_1002 (k + 1) q1002 k_ i p3) := by
  unfold F30_0_1002
  repeat' first | with_reducible exact Le.rfl _ | with_reducible exact h1002 _ _ _ | with_reducible refine Le.cond ?_ ?_ | with_reducible refine Le.bind ?_ fun _ => ?_
theorem Mlw_markDyadicS_x0 : ∀ k : Nat, ∀ (k_ : Int) (i : Int) (p3 : List (Int × Int)), Le ((l30_0 k) k_ i p3) ((l30_0 (k + 1)) k_ i p3)
  | 0 => fun k_ i p3 => Le.no _
  | k + 1 => by
    have h := Mlw_markDyadicS_x0 k
    exact fun k_ i p3 => MFw_markDyadicS_x0_1002 k h k_ i p3
noncomputable def w_markDyadicS_x0_1002 (k_ : Int) (i : Int) (p3 : List (Int × Int)) : Option (((List (Int × Int))) × Int) := lim fun k => (l30_0 k) k_ i p3
theorem Rlw_markDyadicS_x0_1002 (k_ : Int) (i : Int) (p3 : List (Int × Int)) : Lim (fun k => (l30_0 k) k_ i p3) (w_markDyadicS_x0_1002 k_ i p3) := Lim.of_mono fun k => Mlw_markDyadicS_x0 k k_ i p3
theorem Ew_markDyadicS_x0_1002 (k_ : Int) (i : Int) (p3 : List (Int × Int)) : w_markDyadicS_x0_1002 k_ i p3 =
  bif decide (i < (↑(List.length p3) : Int)) then
    bif boundA i (List.length p3) then
      bif Nat.blt (Int.toNat i) (List.length p3) then
        bif boundA i (List.length (List.set p3 (Int.toNat i) (k_, (List.getD p3 (Int.toNat i) (0, 0)).snd))) then
          bif Nat.blt (Int.toNat i) (List.length (List.set p3 (Int.toNat i) (k_, (List.getD p3 (Int.toNat i) (0, 0)).snd))) then
            w_markDyadicS_x0_1002 (IntKind.wrap IntKind.i64 (IntKind.wrap IntKind.i64 (k_ + 1) + 1)) (IntKind.wrap IntKind.i64 (i + 1)) (List.set (List.set p3 (Int.toNat i) (k_, (List.getD p3 (Int.toNat i) (0, 0)).snd)) (Int.toNat i) ((List.getD (List.set p3 (Int.toNat i) (k_, (List.getD p3 (Int.toNat i) (0, 0)).snd)) (Int.toNat i) (0, 0)).fst, IntKind.wrap IntKind.i64 (k_ + 1)))
          else
            none
        else
          none
      else
        none
    else
      none
  else
    some ((p3, k_)) := by
  refine Lim.uniq (Lim.shift (Rlw_markDyadicS_x0_1002 k_ i p3)) (?_ : Lim (fun k => F30_0_1002 k ((l30_0 k)) k_ i p3) _)
  unfold F30_0_1002
  repeat' first | with_reducible exact Lim.ret _ | with_reducible exact Rlw_markDyadicS_x0_1002 _ _ _ | with_reducible refine Lim.cond ?_ ?_ | with_reducible refine Lim.bind ?_ fun _ => ?_
noncomputable def w_markDyadicS_x0 (a : List (Int × Int)) (k_ : Int) : Option (((List (Int × Int))) × Int) :=
  w_markDyadicS_x0_1002 k_ (0) a
theorem Mw_markDyadicS_x0 (k : Nat) (a : List (Int × Int)) (k_ : Int) : Le (f30_0 k a k_) (f30_0 (k + 1) a k_) := by
  have h := Mlw_markDyadicS_x0 k
  unfold f30_0 F30_0
  repeat' first | with_reducible exact Le.rfl _ | with_reducible exact h _ _ _ | with_reducible refine Le.cond ?_ ?_ | with_reducible refine Le.bind ?_ fun _ => ?_
theorem Rw_markDyadicS_x0 (a : List (Int × Int)) (k_ : Int) : Lim (fun k => f30_0 k a k_) (w_markDyadicS_x0 a k_) := by
  unfold f30_0 F30_0 w_markDyadicS_x0
  repeat' first | with_reducible exact Lim.ret _ | with_reducible exact Rlw_markDyadicS_x0_1002 _ _ _ | with_reducible refine Lim.cond ?_ ?_ | with_reducible refine Lim.bind ?_ fun _ => ?_

-- laws.heldDyadicS
theorem MFw_heldDyadicS_1002 (k : Nat) {r1002 q1002 : List (Int × Int) → Nat → Int → Int → Option (Int)} (h1002 : ∀ (a : List (Int × Int)) (a_n : Nat) (k_ : Int) (i : Int), Le (r1002 a a_n k_ i) (q1002 a a_n k_ i)) (a : List (Int × Int)) (a_n : Nat) (k_ : Int) (i : Int) : Le (F31_1002 k r1002 a a_n k_ i) (F31_1002 (k + 1) q1002 a a_n k_ i) := by
  unfold F31_1002
  repeat' first | with_reducible exact Le.rfl _ | with_reducible exact h1002 _ _ _ _ | with_reducible refine Le.cond ?_ ?_ | with_reducible refine Le.bind ?_ fun _ => ?_
theorem Mlw_heldDyadicS : ∀ k : Nat, ∀ (a : List (Int × Int)) (a_n : Nat) (k_ : Int) (i : Int), Le ((l31 k) a a_n k_ i) ((l31 (k + 1)) a a_n k_ i)
  | 0 => fun a a_n k_ i => Le.no _
  | k + 1 => by
    have h := Mlw_heldDyadicS k
    exact fun a a_n k_ i => MFw_heldDyadicS_1002 k h a a_n k_ i
noncomputable def w_heldDyadicS_1002 (a : List (Int × Int)) (a_n : Nat) (k_ : Int) (i : Int) : Option (Int) := lim fun k => (l31 k) a a_n k_ i
theorem Rlw_heldDyadicS_1002 (a : List (Int × Int)) (a_n : Nat) (k_ : Int) (i : Int) : Lim (fun k => (l31 k) a a_n k_ i) (w_heldDyadicS_1002 a a_n k_ i) := Lim.of_mono fun k => Mlw_heldDyadicS k a a_n k_ i
theorem Ew_heldDyadicS_1002 (a : List (Int × Int)) (a_n : Nat) (k_ : Int) (i : Int) : w_heldDyadicS_1002 a a_n k_ i =
  bif decide (i < (↑a_n : Int)) then
    bif boundA i a_n then
      bif !decide ((List.getD a (Int.toNat i) (0, 0)).fst = k_) then
        some (-1)
      else
        bif boundA i a_n then
          bif !decide ((List.getD a (Int.toNat i) (0, 0)).snd = IntKind.wrap IntKind.i64 (k_ + 1)) then
            some (-1)
          else
            w_heldDyadicS_1002 a a_n (IntKind.wrap IntKind.i64 (IntKind.wrap IntKind.i64 (k_ + 1) + 1)) (IntKind.wrap IntKind.i64 (i + 1))
        else
          none
    else
      none
  else
    some k_ := by
  refine Lim.uniq (Lim.shift (Rlw_heldDyadicS_1002 a a_n k_ i)) (?_ : Lim (fun k => F31_1002 k ((l31 k)) a a_n k_ i) _)
  unfold F31_1002
  repeat' first | with_reducible exact Lim.ret _ | with_reducible exact Rlw_heldDyadicS_1002 _ _ _ _ | with_reducible refine Lim.cond ?_ ?_ | with_reducible refine Lim.bind ?_ fun _ => ?_
noncomputable def w_heldDyadicS (a : List (Int × Int)) (a_n : Nat) (k_ : Int) : Option (Int) :=
  w_heldDyadicS_1002 a a_n k_ (0)
theorem Mw_heldDyadicS (k : Nat) (a : List (Int × Int)) (a_n : Nat) (k_ : Int) : Le (f31 k a a_n k_) (f31 (k + 1) a a_n k_) := by
  have h := Mlw_heldDyadicS k
  unfold f31 F31
  repeat' first | with_reducible exact Le.rfl _ | with_reducible exact h _ _ _ _ | with_reducible refine Le.cond ?_ ?_ | with_reducible refine Le.bind ?_ fun _ => ?_
theorem Rw_heldDyadicS (a : List (Int × Int)) (a_n : Nat) (k_ : Int) : Lim (fun k => f31 k a a_n k_) (w_heldDyadicS a a_n k_) := by
  unfold f31 F31 w_heldDyadicS
  repeat' first | with_reducible exact Lim.ret _ | with_reducible exact Rlw_heldDyadicS_1002 _ _ _ _ | with_reducible refine Lim.cond ?_ ?_ | with_reducible refine Lim.bind ?_ fun _ => ?_

-- laws.FnExactVolumesOf
noncomputable def w_FnExactVolumesOf (L_K : Int) (L_Low : List (Int)) (L_High : List (Int)) (i : List (Int × Int)) : Option (Bool) :=
  (w_szBox L_K L_Low L_High 1000000).bind fun r0 =>
  bif decide (r0 < 0) then
    some true
  else
    (w_szNodeS i r0).bind fun r1 =>
    bif decide (r1 < 0) then
      some true
    else
      (w_toBox L_K L_Low L_High false).bind fun r2 =>
      (w_toNodeS i false).bind fun r3 =>
      (s_VolumesOf r2.fst (List.take r2.snd.fst.snd r2.snd.fst.fst) (List.take r2.snd.snd.snd r2.snd.snd.fst) (List.take r3.snd r3.fst)).bind fun r4 =>
      (w_toBox L_K L_Low L_High false).bind fun r5 =>
      (w_toNodeS i false).bind fun r6 =>
      (i_VolumesOf r5.fst (List.take r5.snd.fst.snd r5.snd.fst.fst) (List.take r5.snd.snd.snd r5.snd.snd.fst) (List.take r6.snd r6.fst)).bind fun r7 =>
      (w_eqDyadicS r7.fst r4.fst).bind fun r8 =>
      bif !r8 then
        some false
      else
        bif !r7.snd == r4.snd then
          some false
        else
          (w_toBox L_K L_Low L_High false).bind fun r9 =>
          (w_intactBox r5.fst r5.snd.fst.fst r5.snd.fst.snd r5.snd.snd.fst r5.snd.snd.snd r9.fst r9.snd.fst.fst r9.snd.fst.snd r9.snd.snd.fst r9.snd.snd.snd).bind fun r10 =>
          bif !r10 then
            some false
          else
            (w_toNodeS i false).bind fun r11 =>
            (w_intactNodeS r6.fst r6.snd r11.fst r11.snd).bind fun r12 =>
            bif !r12 then
              some false
            else
              (w_markBox r5.snd.fst.fst r5.snd.snd.fst r5.fst r5.snd.fst.snd r5.snd.snd.snd 101).bind fun r13 =>
              (w_markNodeS r6.fst r6.snd r13.snd).bind fun r14 =>
              bif decide (r14.snd < 0) then
                some false
              else
                (w_eqDyadicS r7.fst r4.fst).bind fun r15 =>
                bif !r15 then
                  some false
                else
                  bif !r7.snd == r4.snd then
                    some false
                  else
                    (w_markDyadicS_x0 r7.fst 101).bind fun r16 =>
                    (w_heldDyadicS r16.fst (List.length r16.fst) 101).bind fun r17 =>
                    bif decide (r17 < 0) then
                      some false
                    else
                      bif !decide (r17 = r16.snd) then
                        some false
                      else
                        (w_toBox L_K L_Low L_High true).bind fun r18 =>
                        (w_toNodeS i true).bind fun r19 =>
                        (i_VolumesOf r18.fst (List.take r18.snd.fst.snd r18.snd.fst.fst) (List.take r18.snd.snd.snd r18.snd.snd.fst) (List.take r19.snd r19.fst)).bind fun r20 =>
                        (w_eqDyadicS r20.fst r4.fst).bind fun r21 =>
                        bif !r21 then
                          some false
                        else
                          bif !r20.snd == r4.snd then
                            some false
                          else
                            (w_heldDyadicS r16.fst (List.length r16.fst) 101).bind fun r22 =>
                            bif decide (r22 < 0) then
                              some false
                            else
                              bif !decide (r22 = r16.snd) then
                                some false
                              else
                                some true
theorem Mw_FnExactVolumesOf (k : Nat) (L_K : Int) (L_Low : List (Int)) (L_High : List (Int)) (i : List (Int × Int)) : Le (f6 k L_K L_Low L_High i) (f6 (k + 1) L_K L_Low L_High i) := by
  unfold f6
  repeat' first | with_reducible exact Le.rfl _ | with_reducible exact Mw_toBox _ _ _ _ _ | with_reducible exact Mw_toNodeS _ _ _ | with_reducible exact Mw_intactBox _ _ _ _ _ _ _ _ _ _ _ | with_reducible exact Mw_intactNodeS _ _ _ _ _ | with_reducible exact Mw_markBox _ _ _ _ _ _ _ | with_reducible exact Mw_markNodeS _ _ _ _ | with_reducible exact Ms_VolumesOf _ _ _ _ _ | with_reducible exact Mi_VolumesOf _ _ _ _ _ | with_reducible exact Mw_eqDyadicS _ _ _ | with_reducible exact Mw_markDyadicS_x0 _ _ _ | with_reducible exact Mw_heldDyadicS _ _ _ _ | with_reducible exact Mw_szBox _ _ _ _ _ | with_reducible exact Mw_szNodeS _ _ _ | with_reducible refine Le.cond ?_ ?_ | with_reducible refine Le.bind ?_ fun _ => ?_
theorem Rw_FnExactVolumesOf (L_K : Int) (L_Low : List (Int)) (L_High : List (Int)) (i : List (Int × Int)) : Lim (fun k => f6 k L_K L_Low L_High i) (w_FnExactVolumesOf L_K L_Low L_High i) := by
  unfold f6 w_FnExactVolumesOf
  repeat' first | with_reducible exact Lim.ret _ | with_reducible exact Rw_toBox _ _ _ _ | with_reducible exact Rw_toNodeS _ _ | with_reducible exact Rw_intactBox _ _ _ _ _ _ _ _ _ _ | with_reducible exact Rw_intactNodeS _ _ _ _ | with_reducible exact Rw_markBox _ _ _ _ _ _ | with_reducible exact Rw_markNodeS _ _ _ | with_reducible exact Rs_VolumesOf _ _ _ _ | with_reducible exact Ri_VolumesOf _ _ _ _ | with_reducible exact Rw_eqDyadicS _ _ | with_reducible exact Rw_markDyadicS_x0 _ _ | with_reducible exact Rw_heldDyadicS _ _ _ | with_reducible exact Rw_szBox _ _ _ _ | with_reducible exact Rw_szNodeS _ _ | with_reducible refine Lim.cond ?_ ?_ | with_reducible refine Lim.bind ?_ fun _ => ?_

end Go.Proofs.YtkahcjnkmbbplaaE
