/- Functions without a count of rounds; printed. -/
import Derived.Test.YtchdegcfohegfaaHL1
set_option maxRecDepth 100000
set_option maxHeartbeats 4000000
set_option linter.unusedVariables false
namespace Go.Proofs.YtchdegcfohegfaaE
-- laws.heldBox
noncomputable def w_heldBox (a_K : Int) (a_Low : List (Int)) (a_Low_n : Nat) (a_High : List (Int)) (a_High_n : Nat) (k_ : Int) : Option (Int) :=
  (w_heldIntS a_Low a_Low_n k_).bind fun r0 =>
  bif decide (r0 < 0) then
    some (-1)
  else
    (w_heldIntS a_High a_High_n r0).bind fun r1 =>
    bif decide (r1 < 0) then
      some (-1)
    else
      some r1
theorem Mw_heldBox (k : Nat) (a_K : Int) (a_Low : List (Int)) (a_Low_n : Nat) (a_High : List (Int)) (a_High_n : Nat) (k_ : Int) : Le (f25 k a_K a_Low a_Low_n a_High a_High_n k_) (f25 (k + 1) a_K a_Low a_Low_n a_High a_High_n k_) := by
  unfold f25
  repeat' first | with_reducible exact Le.rfl _ | with_reducible exact Mw_heldIntS _ _ _ _ | with_reducible refine Le.cond ?_ ?_ | with_reducible refine Le.bind ?_ fun _ => ?_
theorem Rw_heldBox (a_K : Int) (a_Low : List (Int)) (a_Low_n : Nat) (a_High : List (Int)) (a_High_n : Nat) (k_ : Int) : Lim (fun k => f25 k a_K a_Low a_Low_n a_High a_High_n k_) (w_heldBox a_K a_Low a_Low_n a_High a_High_n k_) := by
  unfold f25 w_heldBox
  repeat' first | with_reducible exact Lim.ret _ | with_reducible exact Rw_heldIntS _ _ _ | with_reducible refine Lim.cond ?_ ?_ | with_reducible refine Lim.bind ?_ fun _ => ?_

-- laws.FnExactLargestOpen
noncomputable def w_FnExactLargestOpen (L_K : Int) (L_Low : List (Int)) (L_High : List (Int)) (i : List (Int × Int)) : Option (Bool) :=
  (w_szBox L_K L_Low L_High 1000000).bind fun r0 =>
  bif decide (r0 < 0) then
    some true
  else
    (w_szNodeS i r0).bind fun r1 =>
    bif decide (r1 < 0) then
      some true
    else
      (w_toBox L_K L_Low L_High false).bind fun r2 =>
      (w_toNodeS i false).bind fun r3 =>
      (s_LargestOpen r2.fst (List.take r2.snd.fst.snd r2.snd.fst.fst) (List.take r2.snd.snd.snd r2.snd.snd.fst) (List.take r3.snd r3.fst)).bind fun r4 =>
      (w_toBox L_K L_Low L_High false).bind fun r5 =>
      (w_toNodeS i false).bind fun r6 =>
      (i_LargestOpen r5.fst (List.take r5.snd.fst.snd r5.snd.fst.fst) (List.take r5.snd.snd.snd r5.snd.snd.fst) (List.take r6.snd r6.fst)).bind fun r7 =>
      (w_eqBox r7.fst.fst r7.fst.snd.fst r7.fst.snd.snd r4.fst.fst r4.fst.snd.fst r4.fst.snd.snd).bind fun r8 =>
      bif !r8 then
        some false
      else
        bif !r7.snd == r4.snd then
          some false
        else
          (w_toBox L_K L_Low L_High false).bind fun r9 =>
          (w_intactBox r5.fst r5.snd.fst.fst r5.snd.fst.snd r5.snd.snd.fst r5.snd.snd.snd r9.fst r9.snd.fst.fst r9.snd.fst.snd r9.snd.snd.fst r9.snd.snd.snd).bind fun r10 =>
          bif !r10 then
            some false
          else
            (w_toNodeS i false).bind fun r11 =>
            (w_intactNodeS r6.fst r6.snd r11.fst r11.snd).bind fun r12 =>
            bif !r12 then
              some false
            else
              (w_markBox r5.snd.fst.fst r5.snd.snd.fst r5.fst r5.snd.fst.snd r5.snd.snd.snd 101).bind fun r13 =>
              (w_markNodeS r6.fst r6.snd r13.snd).bind fun r14 =>
              bif decide (r14.snd < 0) then
                some false
              else
                (w_eqBox r7.fst.fst r7.fst.snd.fst r7.fst.snd.snd r4.fst.fst r4.fst.snd.fst r4.fst.snd.snd).bind fun r15 =>
                bif !r15 then
                  some false
                else
                  bif !r7.snd == r4.snd then
                    some false
                  else
                    (w_markBox_x0 r7.fst.snd.fst r7.fst.snd.snd r7.fst.fst 101).bind fun r16 =>
                    (w_heldBox r7.fst.fst r16.fst.fst (List.length r16.fst.fst) r16.fst.snd (List.length r16.fst.snd) 101).bind fun r17 =>
                    bif decide (r17 < 0) then
                      some false
                    else
                      bif !decide (r17 = r16.snd) then
                        some false
                      else
                        (w_toBox L_K L_Low L_High true).bind fun r18 =>
                        (w_toNodeS i true).bind fun r19 =>
                        (i_LargestOpen r18.fst (List.take r18.snd.fst.snd r18.snd.fst.fst) (List.take r18.snd.snd.snd r18.snd.snd.fst) (List.take r19.snd r19.fst)).bind fun r20 =>
                        (w_eqBox r20.fst.fst r20.fst.snd.fst r20.fst.snd.snd r4.fst.fst r4.fst.snd.fst r4.fst.snd.snd).bind fun r21 =>
                        bif !r21 then
                          some false
                        else
                          bif !r20.snd == r4.snd then
                            some false
                          else
                            (w_heldBox r7.fst.fst r16.fst.fst (List.length r16.fst.fst) r16.fst.snd (List.length r16.fst.snd) 101).bind fun r22 =>
                            bif decide (r22 < 0) then
                              some false
                            else
                              bif !decide (r22 = r16.snd) then
                                some false
                              else
                                some true
theorem Mw_FnExactLargestOpen (k : Nat) (L_K : Int) (L_Low : List (Int)) (L_High : List (Int)) (i : List (Int × Int)) : Le (f5 k L_K L_Low L_High i) (f5 (k + 1) L_K L_Low L_High i) := by
  unfold f5
  repeat' first | with_reducible exact Le.rfl _ | with_reducible exact Mw_toBox _ _ _ _ _ | with_reducible exact Mw_toNodeS _ _ _ | with_reducible exact Mw_intactBox _ _ _ _ _ _ _ _ _ _ _ | with_reducible exact Mw_intactNodeS _ _ _ _ _ | with_reducible exact Mw_markBox _ _ _ _ _ _ _ | with_reducible exact Mw_markBox_x0 _ _ _ _ _ | with_reducible exact Mw_markNodeS _ _ _ _ | with_reducible exact Ms_LargestOpen _ _ _ _ _ | with_reducible exact Mi_LargestOpen _ _ _ _ _ | with_reducible exact Mw_eqBox _ _ _ _ _ _ _ | with_reducible exact Mw_heldBox _ _ _ _ _ _ _ | with_reducible exact Mw_szBox _ _ _ _ _ | with_reducible exact Mw_szNodeS _ _ _ | with_reducible refine Le.cond ?_ ?_ | with_reducible refine Le.bind ?_ fun _ => ?_
theorem Rw_FnExactLargestOpen (L_K : Int) (L_Low : List (Int)) (L_High : List (Int)) (i : List (Int × Int)) : Lim (fun k => f5 k L_K L_Low L_High i) (w_FnExactLargestOpen L_K L_Low L_High i) := by
  unfold f5 w_FnExactLargestOpen
  repeat' first | with_reducible exact Lim.ret _ | with_reducible exact Rw_toBox _ _ _ _ | with_reducible exact Rw_toNodeS _ _ | with_reducible exact Rw_intactBox _ _ _ _ _ _ _ _ _ _ | with_reducible exact Rw_intactNodeS _ _ _ _ | with_reducible exact Rw_markBox _ _ _ _ _ _ | with_reducible exact Rw_markBox_x0 _ _ _ _ | with_reducible exact Rw_markNodeS _ _ _ | with_reducible exact Rs_LargestOpen _ _ _ _ | with_reducible exact Ri_LargestOpen _ _ _ _ | with_reducible exact Rw_eqBox _ _ _ _ _ _ | with_reducible exact Rw_heldBox _ _ _ _ _ _ | with_reducible exact Rw_szBox _ _ _ _ | with_reducible exact Rw_szNodeS _ _ | with_reducible refine Lim.cond ?_ ?_ | with_reducible refine Lim.bind ?_ fun _ => ?_

end Go.Proofs.YtchdegcfohegfaaE
