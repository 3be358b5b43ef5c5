/- Functions without a count of rounds; printed. -/
import Derived.Test.YtbaeikcfchiiaaaNH1
set_option maxRecDepth 100000
set_option maxHeartbeats 4000000
set_option linter.unusedVariables false
namespace Go.Proofs.YtbaeikcfchiiaaaE
-- laws.intactIntS
noncomputable def w_intactIntS (x : List (Int)) (x_n : Nat) (y : List (Int)) (y_n : Nat) : Option (Bool) :=
  (w_roomBehind (↑y_n : Int)).bind fun r0 =>
  bif decide ((↑x_n : Int) = (↑y_n : Int)) then
    bif boundE (IntKind.wrap IntKind.i64 ((↑y_n : Int) + r0)) (List.length x) then
      bif decide (0 ≤ 0) && decide (0 ≤ IntKind.wrap IntKind.i64 ((↑y_n : Int) + r0)) then
        bif boundE (IntKind.wrap IntKind.i64 ((↑y_n : Int) + r0)) (List.length y) then
          bif decide (0 ≤ 0) && decide (0 ≤ IntKind.wrap IntKind.i64 ((↑y_n : Int) + r0)) then
            (w_eqIntS (List.drop (Int.toNat 0) (List.take (Int.toNat (IntKind.wrap IntKind.i64 ((↑y_n : Int) + r0))) x)) (List.drop (Int.toNat 0) (List.take (Int.toNat (IntKind.wrap IntKind.i64 ((↑y_n : Int) + r0))) y))).bind fun r1 =>
            some r1
          else
            none
        else
          none
      else
        none
    else
      none
  else
    some false
theorem Mw_intactIntS (k : Nat) (x : List (Int)) (x_n : Nat) (y : List (Int)) (y_n : Nat) : Le (f19 k x x_n y y_n) (f19 (k + 1) x x_n y y_n) := by
  unfold f19
  repeat' first | with_reducible exact Le.rfl _ | with_reducible exact Mw_eqIntS _ _ _ | with_reducible exact Mw_roomBehind _ _ | with_reducible refine Le.cond ?_ ?_ | with_reducible refine Le.bind ?_ fun _ => ?_
theorem Rw_intactIntS (x : List (Int)) (x_n : Nat) (y : List (Int)) (y_n : Nat) : Lim (fun k => f19 k x x_n y y_n) (w_intactIntS x x_n y y_n) := by
  unfold f19 w_intactIntS
  repeat' first | with_reducible exact Lim.ret _ | with_reducible exact Rw_eqIntS _ _ | with_reducible exact Rw_roomBehind _ | with_reducible refine Lim.cond ?_ ?_ | with_reducible refine Lim.bind ?_ fun _ => ?_

-- laws.FnExactNarrowAt
noncomputable def w_FnExactNarrowAt (L : List (Int)) (i : List (Int)) (s_Low_N : Int) (s_Low_K : Int) (s_High_N : Int) (s_High_K : Int) (t : Int) (t4 : Int) : Option (Bool) :=
  bif decide (1000000 < IntKind.wrap IntKind.i64 ((↑(List.length L) : Int) + (↑(List.length i) : Int))) then
    some true
  else
    (w_toIntS L false).bind fun r0 =>
    (w_toIntS i false).bind fun r1 =>
    (s_NarrowAt (List.take r0.snd r0.fst) (List.take r1.snd r1.fst) s_Low_N s_Low_K s_High_N s_High_K t t4).bind fun r2 =>
    (w_toIntS L false).bind fun r3 =>
    (w_toIntS i false).bind fun r4 =>
    (i_NarrowAt (List.take r3.snd r3.fst) (List.take r4.snd r4.fst) s_Low_N s_Low_K s_High_N s_High_K t t4).bind fun r5 =>
    (w_eqInterval r5.fst.fst.fst r5.fst.fst.snd r5.fst.snd.fst r5.fst.snd.snd r2.fst.fst.fst r2.fst.fst.snd r2.fst.snd.fst r2.fst.snd.snd).bind fun r6 =>
    bif !r6 then
      some false
    else
      bif !r5.snd == r2.snd then
        some false
      else
        (w_toIntS L false).bind fun r7 =>
        (w_intactIntS r3.fst r3.snd r7.fst r7.snd).bind fun r8 =>
        bif !r8 then
          some false
        else
          (w_toIntS i false).bind fun r9 =>
          (w_intactIntS r4.fst r4.snd r9.fst r9.snd).bind fun r10 =>
          bif !r10 then
            some false
          else
            (w_toIntS L true).bind fun r11 =>
            (w_toIntS i true).bind fun r12 =>
            (i_NarrowAt (List.take r11.snd r11.fst) (List.take r12.snd r12.fst) s_Low_N s_Low_K s_High_N s_High_K t t4).bind fun r13 =>
            (w_eqInterval r13.fst.fst.fst r13.fst.fst.snd r13.fst.snd.fst r13.fst.snd.snd r2.fst.fst.fst r2.fst.fst.snd r2.fst.snd.fst r2.fst.snd.snd).bind fun r14 =>
            bif !r14 then
              some false
            else
              bif !r13.snd == r2.snd then
                some false
              else
                some true
theorem Mw_FnExactNarrowAt (k : Nat) (L : List (Int)) (i : List (Int)) (s_Low_N : Int) (s_Low_K : Int) (s_High_N : Int) (s_High_K : Int) (t : Int) (t4 : Int) : Le (f3 k L i s_Low_N s_Low_K s_High_N s_High_K t t4) (f3 (k + 1) L i s_Low_N s_Low_K s_High_N s_High_K t t4) := by
  unfold f3
  repeat' first | with_reducible exact Le.rfl _ | with_reducible exact Ms_NarrowAt _ _ _ _ _ _ _ _ _ | with_reducible exact Mw_toIntS _ _ _ | with_reducible exact Mi_NarrowAt _ _ _ _ _ _ _ _ _ | with_reducible exact Mw_eqInterval _ _ _ _ _ _ _ _ _ | with_reducible exact Mw_intactIntS _ _ _ _ _ | with_reducible refine Le.cond ?_ ?_ | with_reducible refine Le.bind ?_ fun _ => ?_
theorem Rw_FnExactNarrowAt (L : List (Int)) (i : List (Int)) (s_Low_N : Int) (s_Low_K : Int) (s_High_N : Int) (s_High_K : Int) (t : Int) (t4 : Int) : Lim (fun k => f3 k L i s_Low_N s_Low_K s_High_N s_High_K t t4) (w_FnExactNarrowAt L i s_Low_N s_Low_K s_High_N s_High_K t t4) := by
  unfold f3 w_FnExactNarrowAt
  repeat' first | with_reducible exact Lim.ret _ | with_reducible exact Rs_NarrowAt _ _ _ _ _ _ _ _ | with_reducible exact Rw_toIntS _ _ | with_reducible exact Ri_NarrowAt _ _ _ _ _ _ _ _ | with_reducible exact Rw_eqInterval _ _ _ _ _ _ _ _ | with_reducible exact Rw_intactIntS _ _ _ _ | with_reducible refine Lim.cond ?_ ?_ | with_reducible refine Lim.bind ?_ fun _ => ?_

-- spec.faStep
noncomputable def s_faStep (p : List (Int)) (q : List (Int)) (i : Int) (fine : Int) : Option (Bool) :=
  (s_faAsked p q fine).bind fun r0 =>
  bif r0 then
    (s_dyPower fine).bind fun r1 =>
    (s_l1In i 0 (IntKind.wrap IntKind.i64 (r1 - 1))).bind fun r2 =>
    some r2
  else
    some false
theorem Ms_faStep (k : Nat) (p : List (Int)) (q : List (Int)) (i : Int) (fine : Int) : Le (f79 k p q i fine) (f79 (k + 1) p q i fine) := by
  unfold f79
  repeat' first | with_reducible exact Le.rfl _ | with_reducible exact Ms_l1In _ _ _ _ | with_reducible exact Ms_faAsked _ _ _ _ | with_reducible exact Ms_dyPower _ _ | with_reducible refine Le.cond ?_ ?_ | with_reducible refine Le.bind ?_ fun _ => ?_
theorem Rs_faStep (p : List (Int)) (q : List (Int)) (i : Int) (fine : Int) : Lim (fun k => f79 k p q i fine) (s_faStep p q i fine) := by
  unfold f79 s_faStep
  repeat' first | with_reducible exact Lim.ret _ | with_reducible exact Rs_l1In _ _ _ | with_reducible exact Rs_faAsked _ _ _ | with_reducible exact Rs_dyPower _ | with_reducible refine Lim.cond ?_ ?_ | with_reducible refine Lim.bind ?_ fun _ => ?_

-- spec.faBoth
noncomputable def s_faBoth (p : List (Int)) (q : List (Int)) (x_N : Int) (x_K : Int) (i : Int) (k_ : Int) (fine : Int) : Option (Int) :=
  (s_faSign p q x_N x_K i fine).bind fun r0 =>
  (s_faSign p q x_N x_K k_ fine).bind fun r1 =>
  bif !decide (r1 = r0) then
    some (0)
  else
    some r0
theorem Ms_faBoth (k : Nat) (p : List (Int)) (q : List (Int)) (x_N : Int) (x_K : Int) (i : Int) (k_ : Int) (fine : Int) : Le (f135 k p q x_N x_K i k_ fine) (f135 (k + 1) p q x_N x_K i k_ fine) := by
  unfold f135
  repeat' first | with_reducible exact Le.rfl _ | with_reducible exact Ms_faSign _ _ _ _ _ _ _ | with_reducible refine Le.cond ?_ ?_ | with_reducible refine Le.bind ?_ fun _ => ?_
theorem Rs_faBoth (p : List (Int)) (q : List (Int)) (x_N : Int) (x_K : Int) (i : Int) (k_ : Int) (fine : Int) : Lim (fun k => f135 k p q x_N x_K i k_ fine) (s_faBoth p q x_N x_K i k_ fine) := by
  unfold f135 s_faBoth
  repeat' first | with_reducible exact Lim.ret _ | with_reducible exact Rs_faSign _ _ _ _ _ _ | with_reducible refine Lim.cond ?_ ?_ | with_reducible refine Lim.bind ?_ fun _ => ?_

-- spec.sgProduct
theorem MFs_sgProduct_1005 (k : Nat) {r1005 q1005 : List Int → List Int → List Int → Int → Int → Option (List (Int))} (h1005 : ∀ (q : List Int) (outs : List Int) (t25 : List Int) (t26 : Int) (t27 : Int), Le (r1005 q outs t25 t26 t27) (q1005 q outs t25 t26 t27)) {r1008 q1008 : List Int → List Int → Int → Int → List Int → Int → Int → List Int → Int → Int → Option (List (Int))} (h1008 : ∀ (q : List Int) (outs : List Int) (i : Int) (a : Int) (t25 : List Int) (t26 : Int) (t27 : Int) (t32 : List Int) (t33 : Int) (t34 : Int), Le (r1008 q outs i a t25 t26 t27 t32 t33 t34) (q1008 q outs i a t25 t26 t27 t32 t33 t34)) (q : List Int) (outs : List Int) (t25 : List Int) (t26 : Int) (t27 : Int) : Le (F248_1005 k r1005 r1008 q outs t25 t26 t27) (F248_1005 (k + 1) q1005 q1008 q outs t25 t26 t27) := by
  unfold F248_1005
  repeat' first | with_reducible exact Le.rfl _ | with_reducible exact h1005 _ _ _ _ _ | with_reducible exact h1008 _ _ _ _ _ _ _ _ _ _ | with_reducible refine Le.cond ?_ ?_ | with_reducible refine Le.bind ?_ fun _ => ?_
theorem MFs_sgProduct_1008 (k : Nat) {r1005 q1005 : List Int → List Int → List Int → Int → Int → Option (List (Int))} (h1005 : ∀ (q : List Int) (outs : List Int) (t25 : List Int) (t26 : Int) (t27 : Int), Le (r1005 q outs t25 t26 t27) (q1005 q outs t25 t26 t27)) {r1008 q1008 : List Int → List Int → Int → Int → List Int → Int → Int → List Int → Int → Int → Option (List (Int))} (h1008 : ∀ (q : List Int) (outs : List Int) (i : Int) (a : Int) (t25 : List Int) (t26 : Int) (t27 : Int) (t32 : List Int) (t33 : Int) (t34 : Int), Le (r1008 q outs i a t25 t26 t27 t32 t33 t34) (q1008 q outs i a t25 t26 t27 t32 t33 t34)) (q : List Int) (outs : List Int) (i : Int) (a : Int) (t25 : List Int) (t26 : Int) (t27 : Int) (t32 : List Int) (t33 : Int) (t34 : Int) : Le (F248_1008 k r1005 r1008 q outs i a t25 t26 t27 t32 t33 t34) (F248_1008 (k + 1) q1005 q1008 q outs i a t25 t26 t27 t32 t33 t34) := by
  unfold F248_1008
  repeat' first | with_reducible exact Le.rfl _ | with_reducible exact h1005 _ _ _ _ _ | with_reducible exact h1008 _ _ _ _ _ _ _ _ _ _ | with_reducible refine Le.cond ?_ ?_ | with_reducible refine Le.bind ?_ fun _ => ?_
theorem Mls_sgProduct : ∀ k : Nat, (∀ (q : List Int) (outs : List Int) (t25 : List Int) (t26 : Int) (t27 : Int), Le ((l248 k).1 q outs t25 t26 t27) ((l248 (k + 1)).1 q outs t25 t26 t27)) ∧ (∀ (q : List Int) (outs : List Int) (i : Int) (a : Int) (t25 : List Int) (t26 : Int) (t27 : Int) (t32 : List Int) (t33 : Int) (t34 : Int), Le ((l248 k).2 q outs i a t25 t26 t27 t32 t33 t34) ((l248 (k + 1)).2 q outs i a t25 t26 t27 t32 t33 t34))
  | 0 => ⟨fun q outs t25 t26 t27 => Le.no _, fun q outs i a t25 t26 t27 t32 t33 t34 => Le.no _⟩
  | k + 1 => by
    have h := Mls_sgProduct k
    exact ⟨fun q outs t25 t26 t27 => MFs_sgProduct_1005 k h.1 h.2 q outs t25 t26 t27, fun q outs i a t25 t26 t27 t32 t33 t34 => MFs_sgProduct_1008 k h.1 h.2 q outs i a t25 t26 t27 t32 t33 t34⟩
noncomputable def s_sgProduct_1005 (q : List Int) (outs : List Int) (t25 : List Int) (t26 : Int) (t27 : Int) : Option (List (Int)) := lim fun k => (l248 k).1 q outs t25 t26 t27
theorem Rls_sgProduct_1005 (q : List Int) (outs : List Int) (t25 : List Int) (t26 : Int) (t27 : Int) : Lim (fun k => (l248 k).1 q outs t25 t26 t27) (s_sgProduct_1005 q outs t25 t26 t27) := Lim.of_mono fun k => (Mls_sgProduct k).1 q outs t25 t26 t27
noncomputable def s_sgProduct_1008 (q : List Int) (outs : List Int) (i : Int) (a : Int) (t25 : List Int) (t26 : Int) (t27 : Int) (t32 : List Int) (t33 : Int) (t34 : Int) : Option (List (Int)) := lim fun k => (l248 k).2 q outs i a t25 t26 t27 t32 t33 t34
theorem Rls_sgProduct_1008 (q : List Int) (outs : List Int) (i : Int) (a : Int) (t25 : List Int) (t26 : Int) (t27 : Int) (t32 : List Int) (t33 : Int) (t34 : Int) : Lim (fun k => (l248 k).2 q outs i a t25 t26 t27 t32 t33 t34) (s_sgProduct_1008 q outs i a t25 t26 t27 t32 t33 t34) := Lim.of_mono fun k => (Mls_sgProduct k).2 q outs i a t25 t26 t27 t32 t33 t34
theorem Es_sgProduct_1005 (q : List Int) (outs : List Int) (t25 : List Int) (t26 : Int) (t27 : Int) : s_sgProduct_1005 q outs t25 t26 t27 =
  bif decide (t27 < t26) then
    bif boundA t27 (List.length t25) then
      s_sgProduct_1008 q outs t27 (List.getD t25 (Int.toNat t27) 0) t25 t26 t27 q ((↑(List.length q) : Int)) (0)
    else
      none
  else
    some outs := by
  refine Lim.uniq (Lim.shift (Rls_sgProduct_1005 q outs t25 t26 t27)) (?_ : Lim (fun k => F248_1005 k ((l248 k).1) ((l248 k).2) q outs t25 t26 t27) _)
  unfold F248_1005
  repeat' first | with_reducible exact Lim.ret _ | with_reducible exact Rls_sgProduct_1005 _ _ _ _ _ | with_reducible exact Rls_sgProduct_1008 _ _ _ _ _ _ _ _ _ _ | with_reducible refine Lim.cond ?_ ?_ | with_reducible refine Lim.bind ?_ fun _ => ?_
theorem Es_sgProduct_1008 (q : List Int) (outs : List Int) (i : Int) (a : Int) (t25 : List Int) (t26 : Int) (t27 : Int) (t32 : List Int) (t33 : Int) (t34 : Int) : s_sgProduct_1008 q outs i a t25 t26 t27 t32 t33 t34 =
  bif decide (t34 < t33) then
    bif boundA t34 (List.length t32) then
      bif boundA (IntKind.wrap IntKind.i64 (i + t34)) (List.length outs) then
        bif Nat.blt (Int.toNat (IntKind.wrap IntKind.i64 (i + t34))) (List.length outs) then
          bif boundA (IntKind.wrap IntKind.i64 (i + t34)) (List.length outs) then
            bif Nat.blt (Int.toNat (IntKind.wrap IntKind.i64 (i + t34))) (List.length outs) then
              s_sgProduct_1008 q (List.set outs (Int.toNat (IntKind.wrap IntKind.i64 (i + t34))) (IntKind.wrap IntKind.i64 (List.getD outs (Int.toNat (IntKind.wrap IntKind.i64 (i + t34))) 0 + IntKind.wrap IntKind.i64 (a * List.getD t32 (Int.toNat t34) 0)))) i a t25 t26 t27 t32 t33 (IntKind.wrap IntKind.i64 (t34 + 1))
            else
              none
          else
            none
        else
          none
      else
        none
    else
      none
  else
    s_sgProduct_1005 q outs t25 t26 (IntKind.wrap IntKind.i64 (t27 + 1)) := by
  refine Lim.uniq (Lim.shift (Rls_sgProduct_1008 q outs i a t25 t26 t27 t32 t33 t34)) (?_ : Lim (fun k => F248_1008 k ((l248 k).1) ((l248 k).2) q outs i a t25 t26 t27 t32 t33 t34) _)
  unfold F248_1008
  repeat' first | with_reducible exact Lim.ret _ | with_reducible exact Rls_sgProduct_1005 _ _ _ _ _ | with_reducible exact Rls_sgProduct_1008 _ _ _ _ _ _ _ _ _ _ | with_reducible refine Lim.cond ?_ ?_ | with_reducible refine Lim.bind ?_ fun _ => ?_
noncomputable def s_sgProduct (p : List (Int)) (q : List (Int)) : Option (List (Int)) :=
  bif decide ((↑(List.length p) : Int) = 0) then
    some ([])
  else
    bif decide ((↑(List.length q) : Int) = 0) then
      some ([])
    else
      bif decide (0 ≤ IntKind.wrap IntKind.i64 (IntKind.wrap IntKind.i64 ((↑(List.length p) : Int) + (↑(List.length q) : Int)) - 1)) then
        bif decide (IntKind.wrap IntKind.i64 (IntKind.wrap IntKind.i64 ((↑(List.length p) : Int) + (↑(List.length q) : Int)) - 1) ≤ IntKind.wrap IntKind.i64 (IntKind.wrap IntKind.i64 ((↑(List.length p) : Int) + (↑(List.length q) : Int)) - 1)) then
          bif decide (IntKind.wrap IntKind.i64 (IntKind.wrap IntKind.i64 ((↑(List.length p) : Int) + (↑(List.length q) : Int)) - 1) * (↑8 : Int) ≤ 140737488355328) then
            s_sgProduct_1005 q (List.replicate (Int.toNat (IntKind.wrap IntKind.i64 (IntKind.wrap IntKind.i64 ((↑(List.length p) : Int) + (↑(List.length q) : Int)) - 1))) (dflt (Ty.int IntKind.i64))) p ((↑(List.length p) : Int)) (0)
          else
            none
        else
          none
      else
        none
theorem Ms_sgProduct (k : Nat) (p : List (Int)) (q : List (Int)) : Le (f248 k p q) (f248 (k + 1) p q) := by
  have h := Mls_sgProduct k
  unfold f248 F248
  repeat' first | with_reducible exact Le.rfl _ | with_reducible exact h.1 _ _ _ _ _ | with_reducible exact h.2 _ _ _ _ _ _ _ _ _ _ | with_reducible refine Le.cond ?_ ?_ | with_reducible refine Le.bind ?_ fun _ => ?_
theorem Rs_sgProduct (p : List (Int)) (q : List (Int)) : Lim (fun k => f248 k p q) (s_sgProduct p q) := by
  unfold f248 F248 s_sgProduct
  repeat' first | with_reducible exact Lim.ret _ | with_reducible exact Rls_sgProduct_1005 _ _ _ _ _ | with_reducible exact Rls_sgProduct_1008 _ _ _ _ _ _ _ _ _ _ | with_reducible refine Lim.cond ?_ ?_ | with_reducible refine Lim.bind ?_ fun _ => ?_

-- spec.deOver
theorem MFs_deOver_1007 (k : Nat) {r1007 q1007 : Int → Int → Int → Int → List Int → List Int → Int → Int → Option (List (Int))} (h1007 : ∀ (t : Int) (o : Int) (r : Int) (a : Int) (ys : List Int) (t45 : List Int) (t46 : Int) (t47 : Int), Le (r1007 t o r a ys t45 t46 t47) (q1007 t o r a ys t45 t46 t47)) {r1011 q1011 : Int → Int → Int → Int → List Int → Int → List Int → Int → List Int → Int → Int → Option (List (Int))} (h1011 : ∀ (t : Int) (o : Int) (r : Int) (a : Int) (ys : List Int) (t12 : Int) (t14s : List Int) (t15 : Int) (t45 : List Int) (t46 : Int) (t47 : Int), Le (r1011 t o r a ys t12 t14s t15 t45 t46 t47) (q1011 t o r a ys t12 t14s t15 t45 t46 t47)) {r1017 q1017 : Int → Int → Int → Int → List Int → List Int → Int → Int → List Int → Int → Int → Option (List (Int))} (h1017 : ∀ (t : Int) (o : Int) (r : Int) (a : Int) (ys : List Int) (t45 : List Int) (t46 : Int) (t47 : Int) (t74s : List Int) (t75 : Int) (t76 : Int), Le (r1017 t o r a ys t45 t46 t47 t74s t75 t76) (q1017 t o r a ys t45 t46 t47 t74s t75 t76)) (t : Int) (o : Int) (r : Int) (a : Int) (ys : List Int) (t45 : List Int) (t46 : Int) (t47 : Int) : Le (F199_1007 k r1007 r1011 r1017 t o r a ys t45 t46 t47) (F199_1007 (k + 1) q1007 q1011 q1017 t o r a ys t45 t46 t47) := by
  unfold F199_1007
  repeat' first | with_reducible exact Le.rfl _ | with_reducible exact h1007 _ _ _ _ _ _ _ _ | with_reducible exact h1011 _ _ _ _ _ _ _ _ _ _ _ | with_reducible exact h1017 _ _ _ _ _ _ _ _ _ _ _ | with_reducible refine Le.cond ?_ ?_ | with_reducible refine Le.bind ?_ fun _ => ?_
theorem MFs_deOver_1011 (k : Nat) {r1007 q1007 : Int → Int → Int → Int → List Int → List Int → Int → Int → Option (List (Int))} (h1007 : ∀ (t : Int) (o : Int) (r : Int) (a : Int) (ys : List Int) (t45 : List Int) (t46 : Int) (t47 : Int), Le (r1007 t o r a ys t45 t46 t47) (q1007 t o r a ys t45 t46 t47)) {r1011 q1011 : Int → Int → Int → Int → List Int → Int → List Int → Int → List Int → Int → Int → Option (List (Int))} (h1011 : ∀ (t : Int) (o : Int) (r : Int) (a : Int) (ys : List Int) (t12 : Int) (t14s : List Int) (t15 : Int) (t45 : List Int) (t46 : Int) (t47 : Int), Le (r1011 t o r a ys t12 t14s t15 t45 t46 t47) (q1011 t o r a ys t12 t14s t15 t45 t46 t47)) {r1017 q1017 : Int → Int → Int → Int → List Int → List Int → Int → Int → List Int → Int → Int → Option (List (Int))} (h1017 : ∀ (t : Int) (o : Int) (r : Int) (a : Int) (ys : List Int) (t45 : List Int) (t46 : Int) (t47 : Int) (t74s : List Int) (t75 : Int) (t76 : Int), Le (r1017 t o r a ys t45 t46 t47 t74s t75 t76) (q1017 t o r a ys t45 t46 t47 t74s t75 t76)) (t : Int) (o : Int) (r : Int) (a : Int) (ys : List Int) (t12 : Int) (t14s : List Int) (t15 : Int) (t45 : List Int) (t46 : Int) (t47 : Int) : Le (F199_1011 k r1007 r1011 r1017 t o r a ys t12 t14s t15 t45 t46 t47) (F199_1011 (k + 1) q1007 q1011 q1017 t o r a ys t12 t14s t15 t45 t46 t47) := by
  unfold F199_1011
  repeat' first | with_reducible exact Le.rfl _ | with_reducible exact Ms_sgProduct _ _ _ | with_reducible exact Ms_dyPower _ _ | with_reducible exact h1007 _ _ _ _ _ _ _ _ | with_reducible exact h1011 _ _ _ _ _ _ _ _ _ _ _ | with_reducible exact h1017 _ _ _ _ _ _ _ _ _ _ _ | with_reducible refine Le.cond ?_ ?_ | with_reducible refine Le.bind ?_ fun _ => ?_
theorem MFs_deOver_1017 (k : Nat) {r1007 q1007 : Int → Int → Int → Int → List Int → List Int → Int → Int → Option (List (Int))} (h1007 : ∀ (t : Int) (o : Int) (r : Int) (a : Int) (ys : List Int) (t45 : List Int) (t46 : Int) (t47 : Int), Le (r1007 t o r a ys t45 t46 t47) (q1007 t o r a ys t45 t46 t47)) {r1011 q1011 : Int → Int → Int → Int → List Int → Int → List Int → Int → List Int → Int → Int → Option (List (Int))} (h1011 : ∀ (t : Int) (o : Int) (r : Int) (a : Int) (ys : List Int) (t12 : Int) (t14s : List Int) (t15 : Int) (t45 : List Int) (t46 : Int) (t47 : Int), Le (r1011 t o r a ys t12 t14s t15 t45 t46 t47) (q1011 t o r a ys t12 t14s t15 t45 t46 t47)) {r1017 q1017 : Int → Int → Int → Int → List Int → List Int → Int → Int → List Int → Int → Int → Option (List (Int))} (h1017 : ∀ (t : Int) (o : Int) (r : Int) (a : Int) (ys : List Int) (t45 : List Int) (t46 : Int) (t47 : Int) (t74s : List Int) (t75 : Int) (t76 : Int), Le (r1017 t o r a ys t45 t46 t47 t74s t75 t76) (q1017 t o r a ys t45 t46 t47 t74s t75 t76)) (t : Int) (o : Int) (r : Int) (a : Int) (ys : List Int) (t45 : List Int) (t46 : Int) (t47 : Int) (t74s : List Int) (t75 : Int) (t76 : Int) : Le (F199_1017 k r1007 r1011 r1017 t o r a ys t45 t46 t47 t74s t75 t76) (F199_1017 (k + 1) q1007 q1011 q1017 t o r a ys t45 t46 t47 t74s t75 t76) := by
  unfold F199_1017
  repeat' first | with_reducible exact Le.rfl _ | with_reducible exact h1007 _ _ _ _ _ _ _ _ | with_reducible exact h1011 _ _ _ _ _ _ _ _ _ _ _ | with_reducible exact h1017 _ _ _ _ _ _ _ _ _ _ _ | with_reducible refine Le.cond ?_ ?_ | with_reducible refine Le.bind ?_ fun _ => ?_
theorem Mls_deOver : ∀ k : Nat, (∀ (t : Int) (o : Int) (r : Int) (a : Int) (ys : List Int) (t45 : List Int) (t46 : Int) (t47 : Int), Le ((l199 k).1 t o r a ys t45 t46 t47) ((l199 (k + 1)).1 t o r a ys t45 t46 t47)) ∧ (∀ (t : Int) (o : Int) (r : Int) (a : Int) (ys : List Int) (t12 : Int) (t14s : List Int) (t15 : Int) (t45 : List Int) (t46 : Int) (t47 : Int), Le ((l199 k).2.1 t o r a ys t12 t14s t15 t45 t46 t47) ((l199 (k + 1)).2.1 t o r a ys t12 t14s t15 t45 t46 t47)) ∧ (∀ (t : Int) (o : Int) (r : Int) (a : Int) (ys : List Int) (t45 : List Int) (t46 : Int) (t47 : Int) (t74s : List Int) (t75 : Int) (t76 : Int), Le ((l199 k).2.2 t o r a ys t45 t46 t47 t74s t75 t76) ((l199 (k + 1)).2.2 t o r a ys t45 t46 t47 t74s t75 t76))
  | 0 => ⟨fun t o r a ys t45 t46 t47 => Le.no _, fun t o r a ys t12 t14s t15 t45 t46 t47 => Le.no _, fun t o r a ys t45 t46 t47 t74s t75 t76 => Le.no _⟩
  | k + 1 => by
    have h := Mls_deOver k
    exact ⟨fun t o r a ys t45 t46 t47 => MFs_deOver_1007 k h.1 h.2.1 h.2.2 t o r a ys t45 t46 t47, fun t o r a ys t12 t14s t15 t45 t46 t47 => MFs_deOver_1011 k h.1 h.2.1 h.2.2 t o r a ys t12 t14s t15 t45 t46 t47, fun t o r a ys t45 t46 t47 t74s t75 t76 => MFs_deOver_1017 k h.1 h.2.1 h.2.2 t o r a ys t45 t46 t47 t74s t75 t76⟩
noncomputable def s_deOver_1007 (t : Int) (o : Int) (r : Int) (a : Int) (ys : List Int) (t45 : List Int) (t46 : Int) (t47 : Int) : Option (List (Int)) := lim fun k => (l199 k).1 t o r a ys t45 t46 t47
theorem Rls_deOver_1007 (t : Int) (o : Int) (r : Int) (a : Int) (ys : List Int) (t45 : List Int) (t46 : Int) (t47 : Int) : Lim (fun k => (l199 k).1 t o r a ys t45 t46 t47) (s_deOver_1007 t o r a ys t45 t46 t47) := Lim.of_mono fun k => (Mls_deOver k).1 t o r a ys t45 t46 t47
noncomputable def s_deOver_1011 (t : Int) (o : Int) (r : Int) (a : Int) (ys : List Int) (t12 : Int) (t14s : List Int) (t15 : Int) (t45 : List Int) (t46 : Int) (t47 : Int) : Option (List (Int)) := lim fun k => (l199 k).2.1 t o r a ys t12 t14s t15 t45 t46 t47
theorem Rls_deOver_1011 (t : Int) (o : Int) (r : Int) (a : Int) (ys : List Int) (t12 : Int) (t14s : List Int) (t15 : Int) (t45 : List Int) (t46 : Int) (t47 : Int) : Lim (fun k => (l199 k).2.1 t o r a ys t12 t14s t15 t45 t46 t47) (s_deOver_1011 t o r a ys t12 t14s t15 t45 t46 t47) := Lim.of_mono fun k => (Mls_deOver k).2.1 t o r a ys t12 t14s t15 t45 t46 t47
noncomputable def s_deOver_1017 (t : Int) (o : Int) (r : Int) (a : Int) (ys : List Int) (t45 : List Int) (t46 : Int) (t47 : Int) (t74s : List Int) (t75 : Int) (t76 : Int) : Option (List (Int)) := lim fun k => (l199 k).2.2 t o r a ys t45 t46 t47 t74s t75 t76
theorem Rls_deOver_1017 (t : Int) (o : Int) (r : Int) (a : Int) (ys : List Int) (t45 : List Int) (t46 : Int) (t47 : Int) (t74s : List Int) (t75 : Int) (t76 : Int) : Lim (fun k => (l199 k).2.2 t o r a ys t45 t46 t47 t74s t75 t76) (s_deOver_1017 t o r a ys t45 t46 t47 t74s t75 t76) := Lim.of_mono fun k => (Mls_deOver k).2.2 t o r a ys t45 t46 t47 t74s t75 t76
theorem Es_deOver_1007 (t : Int) (o : Int) (r : Int) (a : Int) (ys : List Int) (t45 : List Int) (t46 : Int) (t47 : Int) : s_deOver_1007 t o r a ys t45 t46 t47 =
  bif decide (t47 < t46) then
    bif boundA t47 (List.length t45) then
      s_deOver_1011 t o r a ys t47 ([List.getD t45 (Int.toNat t47) 0]) (0) t45 t46 t47
    else
      none
  else
    some ys := by
  refine Lim.uniq (Lim.shift (Rls_deOver_1007 t o r a ys t45 t46 t47)) (?_ : Lim (fun k => F199_1007 k ((l199 k).1) ((l199 k).2.1) ((l199 k).2.2) t o r a ys t45 t46 t47) _)
  unfold F199_1007
  repeat' first | with_reducible exact Lim.ret _ | with_reducible exact Rls_deOver_1007 _ _ _ _ _ _ _ _ | with_reducible exact Rls_deOver_1011 _ _ _ _ _ _ _ _ _ _ _ | with_reducible exact Rls_deOver_1017 _ _ _ _ _ _ _ _ _ _ _ | with_reducible refine Lim.cond ?_ ?_ | with_reducible refine Lim.bind ?_ fun _ => ?_
theorem Es_deOver_1011 (t : Int) (o : Int) (r : Int) (a : Int) (ys : List Int) (t12 : Int) (t14s : List Int) (t15 : Int) (t45 : List Int) (t46 : Int) (t47 : Int) : s_deOver_1011 t o r a ys t12 t14s t15 t45 t46 t47 =
  bif decide (t15 < a) then
    bif decide (t15 < t12) then
      (s_sgProduct t14s [o, r]).bind fun r0 =>
      s_deOver_1011 t o r a ys t12 r0 (IntKind.wrap IntKind.i64 (t15 + 1)) t45 t46 t47
    else
      (s_dyPower t).bind fun r1 =>
      (s_dyPower t).bind fun r2 =>
      (s_sgProduct t14s [r1, r2]).bind fun r3 =>
      s_deOver_1011 t o r a ys t12 r3 (IntKind.wrap IntKind.i64 (t15 + 1)) t45 t46 t47
  else
    s_deOver_1017 t o r a ys t45 t46 t47 t14s ((↑(List.length t14s) : Int)) (0) := by
  refine Lim.uniq (Lim.shift (Rls_deOver_1011 t o r a ys t12 t14s t15 t45 t46 t47)) (?_ : Lim (fun k => F199_1011 k ((l199 k).1) ((l199 k).2.1) ((l199 k).2.2) t o r a ys t12 t14s t15 t45 t46 t47) _)
  unfold F199_1011
  repeat' first | with_reducible exact Lim.ret _ | with_reducible exact Rs_sgProduct _ _ | with_reducible exact Rs_dyPower _ | with_reducible exact Rls_deOver_1007 _ _ _ _ _ _ _ _ | with_reducible exact Rls_deOver_1011 _ _ _ _ _ _ _ _ _ _ _ | with_reducible exact Rls_deOver_1017 _ _ _ _ _ _ _ _ _ _ _ | with_reducible refine Lim.cond ?_ ?_ | with_reducible refine Lim.bind ?_ fun _ => ?_
theorem Es_deOver_1017 (t : Int) (o : Int) (r : Int) (a : Int) (ys : List Int) (t45 : List Int) (t46 : Int) (t47 : Int) (t74s : List Int) (t75 : Int) (t76 : Int) : s_deOver_1017 t o r a ys t45 t46 t47 t74s t75 t76 =
  bif decide (t76 < t75) then
    bif boundA t76 (List.length t74s) then
      bif Nat.blt (Int.toNat t76) (List.length t74s) then
        bif boundA t76 (List.length ys) then
          bif Nat.blt (Int.toNat t76) (List.length ys) then
            bif boundA t76 (List.length ys) then
              bif Nat.blt (Int.toNat t76) (List.length ys) then
                s_deOver_1017 t o r a (List.set ys (Int.toNat t76) (IntKind.wrap IntKind.i64 (List.getD ys (Int.toNat t76) 0 + List.getD t74s (Int.toNat t76) 0))) t45 t46 t47 t74s t75 (IntKind.wrap IntKind.i64 (t76 + 1))
              else
                none
            else
              none
          else
            none
        else
          none
      else
        none
    else
      none
  else
    s_deOver_1007 t o r a ys t45 t46 (IntKind.wrap IntKind.i64 (t47 + 1)) := by
  refine Lim.uniq (Lim.shift (Rls_deOver_1017 t o r a ys t45 t46 t47 t74s t75 t76)) (?_ : Lim (fun k => F199_1017 k ((l199 k).1) ((l199 k).2.1) ((l199 k).2.2) t o r a ys t45 t46 t47 t74s t75 t76) _)
  unfold F199_1017
  repeat' first | with_reducible exact Lim.ret _ | with_reducible exact Rls_deOver_1007 _ _ _ _ _ _ _ _ | with_reducible exact Rls_deOver_1011 _ _ _ _ _ _ _ _ _ _ _ | with_reducible exact Rls_deOver_1017 _ _ _ _ _ _ _ _ _ _ _ | with_reducible refine Lim.cond ?_ ?_ | with_reducible refine Lim.bind ?_ fun _ => ?_
noncomputable def s_deOver (L : List (Int)) (i_Low_N : Int) (i_Low_K : Int) (i_High_N : Int) (i_High_K : Int) : Option (List (Int)) :=
  (s_l1Most i_Low_K i_High_K).bind fun r0 =>
  (s_dyAt i_Low_N i_Low_K r0).bind fun r1 =>
  (s_dyAt i_High_N i_High_K r0).bind fun r2 =>
  bif decide (0 ≤ IntKind.wrap IntKind.i64 (IntKind.wrap IntKind.i64 ((↑(List.length L) : Int) - 1) + 1)) then
    bif decide (IntKind.wrap IntKind.i64 (IntKind.wrap IntKind.i64 ((↑(List.length L) : Int) - 1) + 1) ≤ IntKind.wrap IntKind.i64 (IntKind.wrap IntKind.i64 ((↑(List.length L) : Int) - 1) + 1)) then
      bif decide (IntKind.wrap IntKind.i64 (IntKind.wrap IntKind.i64 ((↑(List.length L) : Int) - 1) + 1) * (↑8 : Int) ≤ 140737488355328) then
        s_deOver_1007 r0 (r1.fst) (r2.fst) (IntKind.wrap IntKind.i64 ((↑(List.length L) : Int) - 1)) (List.replicate (Int.toNat (IntKind.wrap IntKind.i64 (IntKind.wrap IntKind.i64 ((↑(List.length L) : Int) - 1) + 1))) (dflt (Ty.int IntKind.i64))) L ((↑(List.length L) : Int)) (0)
      else
        none
    else
      none
  else
    none
theorem Ms_deOver (k : Nat) (L : List (Int)) (i_Low_N : Int) (i_Low_K : Int) (i_High_N : Int) (i_High_K : Int) : Le (f199 k L i_Low_N i_Low_K i_High_N i_High_K) (f199 (k + 1) L i_Low_N i_Low_K i_High_N i_High_K) := by
  have h := Mls_deOver k
  unfold f199 F199
  repeat' first | with_reducible exact Le.rfl _ | with_reducible exact Ms_l1Most _ _ _ | with_reducible exact Ms_dyAt _ _ _ _ | with_reducible exact h.1 _ _ _ _ _ _ _ _ | with_reducible exact h.2.1 _ _ _ _ _ _ _ _ _ _ _ | with_reducible exact h.2.2 _ _ _ _ _ _ _ _ _ _ _ | with_reducible refine Le.cond ?_ ?_ | with_reducible refine Le.bind ?_ fun _ => ?_
theorem Rs_deOver (L : List (Int)) (i_Low_N : Int) (i_Low_K : Int) (i_High_N : Int) (i_High_K : Int) : Lim (fun k => f199 k L i_Low_N i_Low_K i_High_N i_High_K) (s_deOver L i_Low_N i_Low_K i_High_N i_High_K) := by
  unfold f199 F199 s_deOver
  repeat' first | with_reducible exact Lim.ret _ | with_reducible exact Rs_l1Most _ _ | with_reducible exact Rs_dyAt _ _ _ | with_reducible exact Rls_deOver_1007 _ _ _ _ _ _ _ _ | with_reducible exact Rls_deOver_1011 _ _ _ _ _ _ _ _ _ _ _ | with_reducible exact Rls_deOver_1017 _ _ _ _ _ _ _ _ _ _ _ | with_reducible refine Lim.cond ?_ ?_ | with_reducible refine Lim.bind ?_ fun _ => ?_

-- spec.sgDerive
theorem MFs_sgDerive_1003 (k : Nat) {r1003 q1003 : List Int → List Int → Int → Int → Option (List (Int))} (h1003 : ∀ (outs : List Int) (t6 : List Int) (t7 : Int) (t8 : Int), Le (r1003 outs t6 t7 t8) (q1003 outs t6 t7 t8)) (outs : List Int) (t6 : List Int) (t7 : Int) (t8 : Int) : Le (F200_1003 k r1003 outs t6 t7 t8) (F200_1003 (k + 1) q1003 outs t6 t7 t8) := by
  unfold F200_1003
  repeat' first | with_reducible exact Le.rfl _ | with_reducible exact h1003 _ _ _ _ | with_reducible refine Le.cond ?_ ?_ | with_reducible refine Le.bind ?_ fun _ => ?_
theorem Mls_sgDerive : ∀ k : Nat, ∀ (outs : List Int) (t6 : List Int) (t7 : Int) (t8 : Int), Le ((l200 k) outs t6 t7 t8) ((l200 (k + 1)) outs t6 t7 t8)
  | 0 => fun outs t6 t7 t8 => Le.no _
  | k + 1 => by
    have h := Mls_sgDerive k
    exact fun outs t6 t7 t8 => MFs_sgDerive_1003 k h outs t6 t7 t8
noncomputable def s_sgDerive_1003 (outs : List Int) (t6 : List Int) (t7 : Int) (t8 : Int) : Option (List (Int)) := lim fun k => (l200 k) outs t6 t7 t8
theorem Rls_sgDerive_1003 (outs : List Int) (t6 : List Int) (t7 : Int) (t8 : Int) : Lim (fun k => (l200 k) outs t6 t7 t8) (s_sgDerive_1003 outs t6 t7 t8) := Lim.of_mono fun k => Mls_sgDerive k outs t6 t7 t8
theorem Es_sgDerive_1003 (outs : List Int) (t6 : List Int) (t7 : Int) (t8 : Int) : s_sgDerive_1003 outs t6 t7 t8 =
  bif decide (t8 < t7) then
    bif boundA t8 (List.length t6) then
      bif decide (0 < t8) then
        bif decide ((List.length outs + List.length [IntKind.wrap IntKind.i64 (t8 * List.getD t6 (Int.toNat t8) 0)]) * 8 ≤ 140737488355328) then
          s_sgDerive_1003 (outs ++ [IntKind.wrap IntKind.i64 (t8 * List.getD t6 (Int.toNat t8) 0)]) t6 t7 (IntKind.wrap IntKind.i64 (t8 + 1))
        else
          none
      else
        s_sgDerive_1003 outs t6 t7 (IntKind.wrap IntKind.i64 (t8 + 1))
    else
      none
  else
    some outs := by
  refine Lim.uniq (Lim.shift (Rls_sgDerive_1003 outs t6 t7 t8)) (?_ : Lim (fun k => F200_1003 k ((l200 k)) outs t6 t7 t8) _)
  unfold F200_1003
  repeat' first | with_reducible exact Lim.ret _ | with_reducible exact Rls_sgDerive_1003 _ _ _ _ | with_reducible refine Lim.cond ?_ ?_ | with_reducible refine Lim.bind ?_ fun _ => ?_
noncomputable def s_sgDerive (p : List (Int)) : Option (List (Int)) :=
  s_sgDerive_1003 ([]) p ((↑(List.length p) : Int)) (0)
theorem Ms_sgDerive (k : Nat) (p : List (Int)) : Le (f200 k p) (f200 (k + 1) p) := by
  have h := Mls_sgDerive k
  unfold f200 F200
  repeat' first | with_reducible exact Le.rfl _ | with_reducible exact h _ _ _ _ | with_reducible refine Le.cond ?_ ?_ | with_reducible refine Le.bind ?_ fun _ => ?_
theorem Rs_sgDerive (p : List (Int)) : Lim (fun k => f200 k p) (s_sgDerive p) := by
  unfold f200 F200 s_sgDerive
  repeat' first | with_reducible exact Lim.ret _ | with_reducible exact Rls_sgDerive_1003 _ _ _ _ | with_reducible refine Lim.cond ?_ ?_ | with_reducible refine Lim.bind ?_ fun _ => ?_

-- spec.beSign
theorem MFs_beSign_1003 (k : Nat) {r1003 q1003 : Int → List Int → Int → Int → Option (Int)} (h1003 : ∀ (sign : Int) (t10 : List Int) (t11 : Int) (t12 : Int), Le (r1003 sign t10 t11 t12) (q1003 sign t10 t11 t12)) (sign : Int) (t10 : List Int) (t11 : Int) (t12 : Int) : Le (F201_1003 k r1003 sign t10 t11 t12) (F201_1003 (k + 1) q1003 sign t10 t11 t12) := by
  unfold F201_1003
  repeat' first | with_reducible exact Le.rfl _ | with_reducible exact Ms_l1Sign _ _ | with_reducible exact h1003 _ _ _ _ | with_reducible refine Le.cond ?_ ?_ | with_reducible refine Le.bind ?_ fun _ => ?_
theorem Mls_beSign : ∀ k : Nat, ∀ (sign : Int) (t10 : List Int) (t11 : Int) (t12 : Int), Le ((l201 k) sign t10 t11 t12) ((l201 (k + 1)) sign t10 t11 t12)
  | 0 => fun sign t10 t11 t12 => Le.no _
  | k + 1 => by
    have h := Mls_beSign k
    exact fun sign t10 t11 t12 => MFs_beSign_1003 k h sign t10 t11 t12
noncomputable def s_beSign_1003 (sign : Int) (t10 : List Int) (t11 : Int) (t12 : Int) : Option (Int) := lim fun k => (l201 k) sign t10 t11 t12
theorem Rls_beSign_1003 (sign : Int) (t10 : List Int) (t11 : Int) (t12 : Int) : Lim (fun k => (l201 k) sign t10 t11 t12) (s_beSign_1003 sign t10 t11 t12) := Lim.of_mono fun k => Mls_beSign k sign t10 t11 t12
theorem Es_beSign_1003 (sign : Int) (t10 : List Int) (t11 : Int) (t12 : Int) : s_beSign_1003 sign t10 t11 t12 =
  bif decide (t12 < t11) then
    bif boundA t12 (List.length t10) then
      (s_l1Sign (List.getD t10 (Int.toNat t12) 0)).bind fun r0 =>
      bif !decide (r0 = sign) then
        some (0)
      else
        s_beSign_1003 sign t10 t11 (IntKind.wrap IntKind.i64 (t12 + 1))
    else
      none
  else
    some sign := by
  refine Lim.uniq (Lim.shift (Rls_beSign_1003 sign t10 t11 t12)) (?_ : Lim (fun k => F201_1003 k ((l201 k)) sign t10 t11 t12) _)
  unfold F201_1003
  repeat' first | with_reducible exact Lim.ret _ | with_reducible exact Rs_l1Sign _ | with_reducible exact Rls_beSign_1003 _ _ _ _ | with_reducible refine Lim.cond ?_ ?_ | with_reducible refine Lim.bind ?_ fun _ => ?_
noncomputable def s_beSign (l : List (Int)) : Option (Int) :=
  bif boundA 0 (List.length l) then
    (s_l1Sign (List.getD l (Int.toNat 0) 0)).bind fun r0 =>
    s_beSign_1003 r0 l ((↑(List.length l) : Int)) (0)
  else
    none
theorem Ms_beSign (k : Nat) (l : List (Int)) : Le (f201 k l) (f201 (k + 1) l) := by
  have h := Mls_beSign k
  unfold f201 F201
  repeat' first | with_reducible exact Le.rfl _ | with_reducible exact Ms_l1Sign _ _ | with_reducible exact h _ _ _ _ | with_reducible refine Le.cond ?_ ?_ | with_reducible refine Le.bind ?_ fun _ => ?_
theorem Rs_beSign (l : List (Int)) : Lim (fun k => f201 k l) (s_beSign l) := by
  unfold f201 F201 s_beSign
  repeat' first | with_reducible exact Lim.ret _ | with_reducible exact Rs_l1Sign _ | with_reducible exact Rls_beSign_1003 _ _ _ _ | with_reducible refine Lim.cond ?_ ?_ | with_reducible refine Lim.bind ?_ fun _ => ?_

-- spec.faSlope
noncomputable def s_faSlope (p : List (Int)) (q : List (Int)) (x_Low_N : Int) (x_Low_K : Int) (x_High_N : Int) (x_High_K : Int) (i : Int) (fine : Int) : Option (Int) :=
  (s_faAt p q i fine).bind fun r0 =>
  (s_sgDerive r0).bind fun r1 =>
  (s_deOver r1 x_Low_N x_Low_K x_High_N x_High_K).bind fun r2 =>
  (s_faAt p q (IntKind.wrap IntKind.i64 (i + 1)) fine).bind fun r3 =>
  (s_sgDerive r3).bind fun r4 =>
  (s_deOver r4 x_Low_N x_Low_K x_High_N x_High_K).bind fun r5 =>
  bif decide ((List.length r2 + List.length r5) * 8 ≤ 140737488355328) then
    (s_beSign (r2 ++ r5)).bind fun r6 =>
    some r6
  else
    none
theorem Ms_faSlope (k : Nat) (p : List (Int)) (q : List (Int)) (x_Low_N : Int) (x_Low_K : Int) (x_High_N : Int) (x_High_K : Int) (i : Int) (fine : Int) : Le (f136 k p q x_Low_N x_Low_K x_High_N x_High_K i fine) (f136 (k + 1) p q x_Low_N x_Low_K x_High_N x_High_K i fine) := by
  unfold f136
  repeat' first | with_reducible exact Le.rfl _ | with_reducible exact Ms_deOver _ _ _ _ _ _ | with_reducible exact Ms_sgDerive _ _ | with_reducible exact Ms_beSign _ _ | with_reducible exact Ms_faAt _ _ _ _ _ | with_reducible refine Le.cond ?_ ?_ | with_reducible refine Le.bind ?_ fun _ => ?_
theorem Rs_faSlope (p : List (Int)) (q : List (Int)) (x_Low_N : Int) (x_Low_K : Int) (x_High_N : Int) (x_High_K : Int) (i : Int) (fine : Int) : Lim (fun k => f136 k p q x_Low_N x_Low_K x_High_N x_High_K i fine) (s_faSlope p q x_Low_N x_Low_K x_High_N x_High_K i fine) := by
  unfold f136 s_faSlope
  repeat' first | with_reducible exact Lim.ret _ | with_reducible exact Rs_deOver _ _ _ _ _ | with_reducible exact Rs_sgDerive _ | with_reducible exact Rs_beSign _ | with_reducible exact Rs_faAt _ _ _ _ | with_reducible refine Lim.cond ?_ ?_ | with_reducible refine Lim.bind ?_ fun _ => ?_

-- spec.faHolds
noncomputable def s_faHolds (p : List (Int)) (q : List (Int)) (x_Low_N : Int) (x_Low_K : Int) (x_High_N : Int) (x_High_K : Int) (i : Int) (fine : Int) : Option (Bool) :=
  (s_faBoth p q x_Low_N x_Low_K i (IntKind.wrap IntKind.i64 (i + 1)) fine).bind fun r0 =>
  (s_faBoth p q x_High_N x_High_K i (IntKind.wrap IntKind.i64 (i + 1)) fine).bind fun r1 =>
  bif decide (IntKind.wrap IntKind.i64 (r0 * r1) < 0) then
    (s_faSlope p q x_Low_N x_Low_K x_High_N x_High_K i fine).bind fun r2 =>
    some (!decide (r2 = 0))
  else
    some false
theorem Ms_faHolds (k : Nat) (p : List (Int)) (q : List (Int)) (x_Low_N : Int) (x_Low_K : Int) (x_High_N : Int) (x_High_K : Int) (i : Int) (fine : Int) : Le (f80 k p q x_Low_N x_Low_K x_High_N x_High_K i fine) (f80 (k + 1) p q x_Low_N x_Low_K x_High_N x_High_K i fine) := by
  unfold f80
  repeat' first | with_reducible exact Le.rfl _ | with_reducible exact Ms_faBoth _ _ _ _ _ _ _ _ | with_reducible exact Ms_faSlope _ _ _ _ _ _ _ _ _ | with_reducible refine Le.cond ?_ ?_ | with_reducible refine Le.bind ?_ fun _ => ?_
theorem Rs_faHolds (p : List (Int)) (q : List (Int)) (x_Low_N : Int) (x_Low_K : Int) (x_High_N : Int) (x_High_K : Int) (i : Int) (fine : Int) : Lim (fun k => f80 k p q x_Low_N x_Low_K x_High_N x_High_K i fine) (s_faHolds p q x_Low_N x_Low_K x_High_N x_High_K i fine) := by
  unfold f80 s_faHolds
  repeat' first | with_reducible exact Lim.ret _ | with_reducible exact Rs_faBoth _ _ _ _ _ _ _ | with_reducible exact Rs_faSlope _ _ _ _ _ _ _ _ | with_reducible refine Lim.cond ?_ ?_ | with_reducible refine Lim.bind ?_ fun _ => ?_

-- spec.l1Least
noncomputable def s_l1Least (a : Int) (b : Int) : Option (Int) :=
  bif decide (a < b) then
    some a
  else
    some b
theorem Ms_l1Least (k : Nat) (a : Int) (b : Int) : Le (f166 k a b) (f166 (k + 1) a b) := by
  unfold f166
  repeat' first | with_reducible exact Le.rfl _ | with_reducible refine Le.cond ?_ ?_ | with_reducible refine Le.bind ?_ fun _ => ?_
theorem Rs_l1Least (a : Int) (b : Int) : Lim (fun k => f166 k a b) (s_l1Least a b) := by
  unfold f166 s_l1Least
  repeat' first | with_reducible exact Lim.ret _ | with_reducible refine Lim.cond ?_ ?_ | with_reducible refine Lim.bind ?_ fun _ => ?_

-- spec.bxNumber
noncomputable def s_bxNumber (n : Int) (k_ : Int) : Option (Int × Int) :=
  (s_dyMake n k_).bind fun r0 =>
  some ((r0.fst.fst, r0.fst.snd))
theorem Ms_bxNumber (k : Nat) (n : Int) (k_ : Int) : Le (f172 k n k_) (f172 (k + 1) n k_) := by
  unfold f172
  repeat' first | with_reducible exact Le.rfl _ | with_reducible exact Ms_dyMake _ _ _ | with_reducible refine Le.cond ?_ ?_ | with_reducible refine Le.bind ?_ fun _ => ?_
theorem Rs_bxNumber (n : Int) (k_ : Int) : Lim (fun k => f172 k n k_) (s_bxNumber n k_) := by
  unfold f172 s_bxNumber
  repeat' first | with_reducible exact Lim.ret _ | with_reducible exact Rs_dyMake _ _ | with_reducible refine Lim.cond ?_ ?_ | with_reducible refine Lim.bind ?_ fun _ => ?_

-- spec.faFind
theorem MFs_faFind_1005 (k : Nat) {r1005 q1005 : List Int → List Int → Int → Int → Int → Int → Int → Int → Int → Int → Int → Int → Option (((Int × Int) × Int × Int) × Bool)} (h1005 : ∀ (p : List Int) (q : List Int) (i : Int) (fine : Int) (t10s_0 : Int) (t10s_1 : Int) (t10s_2 : Int) (t10s_3 : Int) (low : Int) (high : Int) (most : Int) (k_ : Int), Le (r1005 p q i fine t10s_0 t10s_1 t10s_2 t10s_3 low high most k_) (q1005 p q i fine t10s_0 t10s_1 t10s_2 t10s_3 low high most k_)) (p : List Int) (q : List Int) (i : Int) (fine : Int) (t10s_0 : Int) (t10s_1 : Int) (t10s_2 : Int) (t10s_3 : Int) (low : Int) (high : Int) (most : Int) (k_ : Int) : Le (F115_1005 k r1005 p q i fine t10s_0 t10s_1 t10s_2 t10s_3 low high most k_) (F115_1005 (k + 1) q1005 p q i fine t10s_0 t10s_1 t10s_2 t10s_3 low high most k_) := by
  unfold F115_1005
  repeat' first | with_reducible exact Le.rfl _ | with_reducible exact Ms_l1Most _ _ _ | with_reducible exact Ms_l1Least _ _ _ | with_reducible exact Ms_bxNumber _ _ _ | with_reducible exact Ms_faHolds _ _ _ _ _ _ _ _ _ | with_reducible exact Ms_dyPower _ _ | with_reducible exact h1005 _ _ _ _ _ _ _ _ _ _ _ _ | with_reducible refine Le.cond ?_ ?_ | with_reducible refine Le.bind ?_ fun _ => ?_
theorem Mls_faFind : ∀ k : Nat, ∀ (p : List Int) (q : List Int) (i : Int) (fine : Int) (t10s_0 : Int) (t10s_1 : Int) (t10s_2 : Int) (t10s_3 : Int) (low : Int) (high : Int) (most : Int) (k_ : Int), Le ((l115 k) p q i fine t10s_0 t10s_1 t10s_2 t10s_3 low high most k_) ((l115 (k + 1)) p q i fine t10s_0 t10s_1 t10s_2 t10s_3 low high most k_)
  | 0 => fun p q i fine t10s_0 t10s_1 t10s_2 t10s_3 low high most k_ => Le.no _
  | k + 1 => by
    have h := Mls_faFind k
    exact fun p q i fine t10s_0 t10s_1 t10s_2 t10s_3 low high most k_ => MFs_faFind_1005 k h p q i fine t10s_0 t10s_1 t10s_2 t10s_3 low high most k_
noncomputable def s_faFind_1005 (p : List Int) (q : List Int) (i : Int) (fine : Int) (t10s_0 : Int) (t10s_1 : Int) (t10s_2 : Int) (t10s_3 : Int) (low : Int) (high : Int) (most : Int) (k_ : Int) : Option (((Int × Int) × Int × Int) × Bool) := lim fun k => (l115 k) p q i fine t10s_0 t10s_1 t10s_2 t10s_3 low high most k_
theorem Rls_faFind_1005 (p : List Int) (q : List Int) (i : Int) (fine : Int) (t10s_0 : Int) (t10s_1 : Int) (t10s_2 : Int) (t10s_3 : Int) (low : Int) (high : Int) (most : Int) (k_ : Int) : Lim (fun k => (l115 k) p q i fine t10s_0 t10s_1 t10s_2 t10s_3 low high most k_) (s_faFind_1005 p q i fine t10s_0 t10s_1 t10s_2 t10s_3 low high most k_) := Lim.of_mono fun k => Mls_faFind k p q i fine t10s_0 t10s_1 t10s_2 t10s_3 low high most k_
theorem Es_faFind_1005 (p : List Int) (q : List Int) (i : Int) (fine : Int) (t10s_0 : Int) (t10s_1 : Int) (t10s_2 : Int) (t10s_3 : Int) (low : Int) (high : Int) (most : Int) (k_ : Int) : s_faFind_1005 p q i fine t10s_0 t10s_1 t10s_2 t10s_3 low high most k_ =
  bif decide (k_ ≤ 6) then
    (s_bxNumber low 5).bind fun r0 =>
    (s_bxNumber high 5).bind fun r1 =>
    (s_faHolds p q r0.fst r0.snd r1.fst r1.snd i fine).bind fun r2 =>
    bif r2 then
      some ((((r0.fst, r0.snd), r1.fst, r1.snd), true))
    else
      (s_dyPower k_).bind fun r3 =>
      (s_l1Most (IntKind.wrap IntKind.i64 (0 - most)) (IntKind.wrap IntKind.i64 (low - r3))).bind fun r4 =>
      (s_dyPower k_).bind fun r5 =>
      (s_l1Least most (IntKind.wrap IntKind.i64 (high + r5))).bind fun r6 =>
      s_faFind_1005 p q i fine t10s_0 t10s_1 t10s_2 t10s_3 r4 r6 most (IntKind.wrap IntKind.i64 (k_ + 1))
  else
    some ((((0, 0), 0, 0), false)) := by
  refine Lim.uniq (Lim.shift (Rls_faFind_1005 p q i fine t10s_0 t10s_1 t10s_2 t10s_3 low high most k_)) (?_ : Lim (fun k => F115_1005 k ((l115 k)) p q i fine t10s_0 t10s_1 t10s_2 t10s_3 low high most k_) _)
  unfold F115_1005
  repeat' first | with_reducible exact Lim.ret _ | with_reducible exact Rs_l1Most _ _ | with_reducible exact Rs_l1Least _ _ | with_reducible exact Rs_bxNumber _ _ | with_reducible exact Rs_faHolds _ _ _ _ _ _ _ _ | with_reducible exact Rs_dyPower _ | with_reducible exact Rls_faFind_1005 _ _ _ _ _ _ _ _ _ _ _ _ | with_reducible refine Lim.cond ?_ ?_ | with_reducible refine Lim.bind ?_ fun _ => ?_
noncomputable def s_faFind (p : List (Int)) (q : List (Int)) (x_Low_N : Int) (x_Low_K : Int) (x_High_N : Int) (x_High_K : Int) (i : Int) (fine : Int) : Option (((Int × Int) × Int × Int) × Bool) :=
  (s_dyAt x_Low_N x_Low_K 5).bind fun r0 =>
  (s_dyAt x_High_N x_High_K 5).bind fun r1 =>
  s_faFind_1005 p q i fine (0) (0) (0) (0) (r0.fst) (r1.fst) (IntKind.wrap IntKind.i64 (8 * IntKind.wrap IntKind.i64 (1 * 2 ^ min (Int.toNat (IntKind.wrap IntKind.u64 5)) (IntKind.bits IntKind.i64)))) (0)
theorem Ms_faFind (k : Nat) (p : List (Int)) (q : List (Int)) (x_Low_N : Int) (x_Low_K : Int) (x_High_N : Int) (x_High_K : Int) (i : Int) (fine : Int) : Le (f115 k p q x_Low_N x_Low_K x_High_N x_High_K i fine) (f115 (k + 1) p q x_Low_N x_Low_K x_High_N x_High_K i fine) := by
  have h := Mls_faFind k
  unfold f115 F115
  repeat' first | with_reducible exact Le.rfl _ | with_reducible exact Ms_dyAt _ _ _ _ | with_reducible exact h _ _ _ _ _ _ _ _ _ _ _ _ | with_reducible refine Le.cond ?_ ?_ | with_reducible refine Le.bind ?_ fun _ => ?_
theorem Rs_faFind (p : List (Int)) (q : List (Int)) (x_Low_N : Int) (x_Low_K : Int) (x_High_N : Int) (x_High_K : Int) (i : Int) (fine : Int) : Lim (fun k => f115 k p q x_Low_N x_Low_K x_High_N x_High_K i fine) (s_faFind p q x_Low_N x_Low_K x_High_N x_High_K i fine) := by
  unfold f115 F115 s_faFind
  repeat' first | with_reducible exact Lim.ret _ | with_reducible exact Rs_dyAt _ _ _ | with_reducible exact Rls_faFind_1005 _ _ _ _ _ _ _ _ _ _ _ _ | with_reducible refine Lim.cond ?_ ?_ | with_reducible refine Lim.bind ?_ fun _ => ?_

-- spec.FindStep
noncomputable def s_FindStep (p : List (Int)) (q : List (Int)) (x_Low_N : Int) (x_Low_K : Int) (x_High_N : Int) (x_High_K : Int) (i : Int) (fine : Int) : Option (((Int × Int) × Int × Int) × Bool) :=
  (s_faStep p q i fine).bind fun r0 =>
  bif !r0 then
    some ((((0, 0), 0, 0), false))
  else
    (s_deFit x_Low_N x_Low_K x_High_N x_High_K).bind fun r1 =>
    bif !r1 then
      some ((((0, 0), 0, 0), false))
    else
      (s_faFind p q x_Low_N x_Low_K x_High_N x_High_K i fine).bind fun r2 =>
      some ((((r2.fst.fst.fst, r2.fst.fst.snd), r2.fst.snd.fst, r2.fst.snd.snd), r2.snd))
theorem Ms_FindStep (k : Nat) (p : List (Int)) (q : List (Int)) (x_Low_N : Int) (x_Low_K : Int) (x_High_N : Int) (x_High_K : Int) (i : Int) (fine : Int) : Le (f60 k p q x_Low_N x_Low_K x_High_N x_High_K i fine) (f60 (k + 1) p q x_Low_N x_Low_K x_High_N x_High_K i fine) := by
  unfold f60
  repeat' first | with_reducible exact Le.rfl _ | with_reducible exact Ms_faFind _ _ _ _ _ _ _ _ _ | with_reducible exact Ms_deFit _ _ _ _ _ | with_reducible exact Ms_faStep _ _ _ _ _ | with_reducible refine Le.cond ?_ ?_ | with_reducible refine Le.bind ?_ fun _ => ?_
theorem Rs_FindStep (p : List (Int)) (q : List (Int)) (x_Low_N : Int) (x_Low_K : Int) (x_High_N : Int) (x_High_K : Int) (i : Int) (fine : Int) : Lim (fun k => f60 k p q x_Low_N x_Low_K x_High_N x_High_K i fine) (s_FindStep p q x_Low_N x_Low_K x_High_N x_High_K i fine) := by
  unfold f60 s_FindStep
  repeat' first | with_reducible exact Lim.ret _ | with_reducible exact Rs_faFind _ _ _ _ _ _ _ _ | with_reducible exact Rs_deFit _ _ _ _ | with_reducible exact Rs_faStep _ _ _ _ | with_reducible refine Lim.cond ?_ ?_ | with_reducible refine Lim.bind ?_ fun _ => ?_

-- impl.familySign
noncomputable def i_familySign (p : List (Int)) (q : List (Int)) (x_N : Int) (x_K : Int) (i : Int) (k_ : Int) (fine : Int) : Option (Int) :=
  (i_familyAt p q i fine).bind fun r0 =>
  (i_signAt r0 x_N x_K).bind fun r1 =>
  (i_familyAt p q k_ fine).bind fun r2 =>
  (i_signAt r2 x_N x_K).bind fun r3 =>
  bif !decide (r3 = r1) then
    some (0)
  else
    some r1
theorem Mi_familySign (k : Nat) (p : List (Int)) (q : List (Int)) (x_N : Int) (x_K : Int) (i : Int) (k_ : Int) (fine : Int) : Le (f137 k p q x_N x_K i k_ fine) (f137 (k + 1) p q x_N x_K i k_ fine) := by
  unfold f137
  repeat' first | with_reducible exact Le.rfl _ | with_reducible exact Mi_signAt _ _ _ _ | with_reducible exact Mi_familyAt _ _ _ _ _ | with_reducible refine Le.cond ?_ ?_ | with_reducible refine Le.bind ?_ fun _ => ?_
theorem Ri_familySign (p : List (Int)) (q : List (Int)) (x_N : Int) (x_K : Int) (i : Int) (k_ : Int) (fine : Int) : Lim (fun k => f137 k p q x_N x_K i k_ fine) (i_familySign p q x_N x_K i k_ fine) := by
  unfold f137 i_familySign
  repeat' first | with_reducible exact Lim.ret _ | with_reducible exact Ri_signAt _ _ _ | with_reducible exact Ri_familyAt _ _ _ _ | with_reducible refine Lim.cond ?_ ?_ | with_reducible refine Lim.bind ?_ fun _ => ?_

-- impl.deriveSingle
theorem MFi_deriveSingle_1003 (k : Nat) {r1003 q1003 : List Int → List Int → Int → Option (List (Int))} (h1003 : ∀ (p : List Int) (outs : List Int) (i : Int), Le (r1003 p outs i) (q1003 p outs i)) (p : List Int) (outs : List Int) (i : Int) : Le (F202_1003 k r1003 p outs i) (F202_1003 (k + 1) q1003 p outs i) := by
  unfold F202_1003
  repeat' first | with_reducible exact Le.rfl _ | with_reducible exact Mi_stripped _ _ | with_reducible exact h1003 _ _ _ | with_reducible refine Le.cond ?_ ?_ | with_reducible refine Le.bind ?_ fun _ => ?_
theorem Mli_deriveSingle : ∀ k : Nat, ∀ (p : List Int) (outs : List Int) (i : Int), Le ((l202 k) p outs i) ((l202 (k + 1)) p outs i)
  | 0 => fun p outs i => Le.no _
  | k + 1 => by
    have h := Mli_deriveSingle k
    exact fun p outs i => MFi_deriveSingle_1003 k h p outs i
noncomputable def i_deriveSingle_1003 (p : List Int) (outs : List Int) (i : Int) : Option (List (Int)) := lim fun k => (l202 k) p outs i
theorem Rli_deriveSingle_1003 (p : List Int) (outs : List Int) (i : Int) : Lim (fun k => (l202 k) p outs i) (i_deriveSingle_1003 p outs i) := Lim.of_mono fun k => Mli_deriveSingle k p outs i
theorem Ei_deriveSingle_1003 (p : List Int) (outs : List Int) (i : Int) : i_deriveSingle_1003 p outs i =
  bif decide (i < (↑(List.length p) : Int)) then
    bif boundA i (List.length p) then
      bif decide ((List.length outs + List.length [IntKind.wrap IntKind.i64 (i * List.getD p (Int.toNat i) 0)]) * 8 ≤ 140737488355328) then
        i_deriveSingle_1003 p (outs ++ [IntKind.wrap IntKind.i64 (i * List.getD p (Int.toNat i) 0)]) (IntKind.wrap IntKind.i64 (i + 1))
      else
        none
    else
      none
  else
    (i_stripped outs).bind fun r0 =>
    some r0 := by
  refine Lim.uniq (Lim.shift (Rli_deriveSingle_1003 p outs i)) (?_ : Lim (fun k => F202_1003 k ((l202 k)) p outs i) _)
  unfold F202_1003
  repeat' first | with_reducible exact Lim.ret _ | with_reducible exact Ri_stripped _ | with_reducible exact Rli_deriveSingle_1003 _ _ _ | with_reducible refine Lim.cond ?_ ?_ | with_reducible refine Lim.bind ?_ fun _ => ?_
noncomputable def i_deriveSingle (p : List (Int)) : Option (List (Int)) :=
  i_deriveSingle_1003 p ([]) (1)
theorem Mi_deriveSingle (k : Nat) (p : List (Int)) : Le (f202 k p) (f202 (k + 1) p) := by
  have h := Mli_deriveSingle k
  unfold f202 F202
  repeat' first | with_reducible exact Le.rfl _ | with_reducible exact h _ _ _ | with_reducible refine Le.cond ?_ ?_ | with_reducible refine Le.bind ?_ fun _ => ?_
theorem Ri_deriveSingle (p : List (Int)) : Lim (fun k => f202 k p) (i_deriveSingle p) := by
  unfold f202 F202 i_deriveSingle
  repeat' first | with_reducible exact Lim.ret _ | with_reducible exact Rli_deriveSingle_1003 _ _ _ | with_reducible refine Lim.cond ?_ ?_ | with_reducible refine Lim.bind ?_ fun _ => ?_

-- impl.powerSingle
theorem MFi_powerSingle_1003 (k : Nat) {r1003 q1003 : List Int → List Int → Int → Int → Option (List (Int))} (h1003 : ∀ (p : List Int) (outs : List Int) (t7 : Int) (t8 : Int), Le (r1003 p outs t7 t8) (q1003 p outs t7 t8)) (p : List Int) (outs : List Int) (t7 : Int) (t8 : Int) : Le (F249_1003 k r1003 p outs t7 t8) (F249_1003 (k + 1) q1003 p outs t7 t8) := by
  unfold F249_1003
  repeat' first | with_reducible exact Le.rfl _ | with_reducible exact Mi_multiplySingle _ _ _ | with_reducible exact h1003 _ _ _ _ | with_reducible refine Le.cond ?_ ?_ | with_reducible refine Le.bind ?_ fun _ => ?_
theorem Mli_powerSingle : ∀ k : Nat, ∀ (p : List Int) (outs : List Int) (t7 : Int) (t8 : Int), Le ((l249 k) p outs t7 t8) ((l249 (k + 1)) p outs t7 t8)
  | 0 => fun p outs t7 t8 => Le.no _
  | k + 1 => by
    have h := Mli_powerSingle k
    exact fun p outs t7 t8 => MFi_powerSingle_1003 k h p outs t7 t8
noncomputable def i_powerSingle_1003 (p : List Int) (outs : List Int) (t7 : Int) (t8 : Int) : Option (List (Int)) := lim fun k => (l249 k) p outs t7 t8
theorem Rli_powerSingle_1003 (p : List Int) (outs : List Int) (t7 : Int) (t8 : Int) : Lim (fun k => (l249 k) p outs t7 t8) (i_powerSingle_1003 p outs t7 t8) := Lim.of_mono fun k => Mli_powerSingle k p outs t7 t8
theorem Ei_powerSingle_1003 (p : List Int) (outs : List Int) (t7 : Int) (t8 : Int) : i_powerSingle_1003 p outs t7 t8 =
  bif decide (t8 < t7) then
    (i_multiplySingle outs p).bind fun r0 =>
    i_powerSingle_1003 p r0 t7 (IntKind.wrap IntKind.i64 (t8 + 1))
  else
    some outs := by
  refine Lim.uniq (Lim.shift (Rli_powerSingle_1003 p outs t7 t8)) (?_ : Lim (fun k => F249_1003 k ((l249 k)) p outs t7 t8) _)
  unfold F249_1003
  repeat' first | with_reducible exact Lim.ret _ | with_reducible exact Ri_multiplySingle _ _ | with_reducible exact Rli_powerSingle_1003 _ _ _ _ | with_reducible refine Lim.cond ?_ ?_ | with_reducible refine Lim.bind ?_ fun _ => ?_
noncomputable def i_powerSingle (p : List (Int)) (n : Int) : Option (List (Int)) :=
  i_powerSingle_1003 p ([1]) n (0)
theorem Mi_powerSingle (k : Nat) (p : List (Int)) (n : Int) : Le (f249 k p n) (f249 (k + 1) p n) := by
  have h := Mli_powerSingle k
  unfold f249 F249
  repeat' first | with_reducible exact Le.rfl _ | with_reducible exact h _ _ _ _ | with_reducible refine Le.cond ?_ ?_ | with_reducible refine Le.bind ?_ fun _ => ?_
theorem Ri_powerSingle (p : List (Int)) (n : Int) : Lim (fun k => f249 k p n) (i_powerSingle p n) := by
  unfold f249 F249 i_powerSingle
  repeat' first | with_reducible exact Lim.ret _ | with_reducible exact Rli_powerSingle_1003 _ _ _ _ | with_reducible refine Lim.cond ?_ ?_ | with_reducible refine Lim.bind ?_ fun _ => ?_

-- impl.overInterval
theorem MFi_overInterval_1005 (k : Nat) {r1005 q1005 : List Int → Int → Int → Int → List Int → List Int → Int → Int → Option (List (Int))} (h1005 : ∀ (L : List Int) (o : Int) (A : Int) (r : Int) (r_9s : List Int) (t40 : List Int) (t41 : Int) (t42 : Int), Le (r1005 L o A r r_9s t40 t41 t42) (q1005 L o A r r_9s t40 t41 t42)) {r1010 q1010 : List Int → List Int → Option (List (Int))} (h1010 : ∀ (L : List Int) (rs : List Int), Le (r1010 L rs) (q1010 L rs)) (L : List Int) (o : Int) (A : Int) (r : Int) (r_9s : List Int) (t40 : List Int) (t41 : Int) (t42 : Int) : Le (F203_1005 k r1005 r1010 L o A r r_9s t40 t41 t42) (F203_1005 (k + 1) q1005 q1010 L o A r r_9s t40 t41 t42) := by
  unfold F203_1005
  repeat' first | with_reducible exact Le.rfl _ | with_reducible exact Mi_addSingle _ _ _ | with_reducible exact Mi_multiplySingle _ _ _ | with_reducible exact Mi_powerSingle _ _ _ | with_reducible exact h1005 _ _ _ _ _ _ _ _ | with_reducible exact h1010 _ _ | with_reducible refine Le.cond ?_ ?_ | with_reducible refine Le.bind ?_ fun _ => ?_
theorem MFi_overInterval_1010 (k : Nat) {r1005 q1005 : List Int → Int → Int → Int → List Int → List Int → Int → Int → Option (List (Int))} (h1005 : ∀ (L : List Int) (o : Int) (A : Int) (r : Int) (r_9s : List Int) (t40 : List Int) (t41 : Int) (t42 : Int), Le (r1005 L o A r r_9s t40 t41 t42) (q1005 L o A r r_9s t40 t41 t42)) {r1010 q1010 : List Int → List Int → Option (List (Int))} (h1010 : ∀ (L : List Int) (rs : List Int), Le (r1010 L rs) (q1010 L rs)) (L : List Int) (rs : List Int) : Le (F203_1010 k r1005 r1010 L rs) (F203_1010 (k + 1) q1005 q1010 L rs) := by
  unfold F203_1010
  repeat' first | with_reducible exact Le.rfl _ | with_reducible exact h1005 _ _ _ _ _ _ _ _ | with_reducible exact h1010 _ _ | with_reducible refine Le.cond ?_ ?_ | with_reducible refine Le.bind ?_ fun _ => ?_
theorem Mli_overInterval : ∀ k : Nat, (∀ (L : List Int) (o : Int) (A : Int) (r : Int) (r_9s : List Int) (t40 : List Int) (t41 : Int) (t42 : Int), Le ((l203 k).1 L o A r r_9s t40 t41 t42) ((l203 (k + 1)).1 L o A r r_9s t40 t41 t42)) ∧ (∀ (L : List Int) (rs : List Int), Le ((l203 k).2 L rs) ((l203 (k + 1)).2 L rs))
  | 0 => ⟨fun L o A r r_9s t40 t41 t42 => Le.no _, fun L rs => Le.no _⟩
  | k + 1 => by
    have h := Mli_overInterval k
    exact ⟨fun L o A r r_9s t40 t41 t42 => MFi_overInterval_1005 k h.1 h.2 L o A r r_9s t40 t41 t42, fun L rs => MFi_overInterval_1010 k h.1 h.2 L rs⟩
noncomputable def i_overInterval_1005 (L : List Int) (o : Int) (A : Int) (r : Int) (r_9s : List Int) (t40 : List Int) (t41 : Int) (t42 : Int) : Option (List (Int)) := lim fun k => (l203 k).1 L o A r r_9s t40 t41 t42
theorem Rli_overInterval_1005 (L : List Int) (o : Int) (A : Int) (r : Int) (r_9s : List Int) (t40 : List Int) (t41 : Int) (t42 : Int) : Lim (fun k => (l203 k).1 L o A r r_9s t40 t41 t42) (i_overInterval_1005 L o A r r_9s t40 t41 t42) := Lim.of_mono fun k => (Mli_overInterval k).1 L o A r r_9s t40 t41 t42
noncomputable def i_overInterval_1010 (L : List Int) (rs : List Int) : Option (List (Int)) := lim fun k => (l203 k).2 L rs
theorem Rli_overInterval_1010 (L : List Int) (rs : List Int) : Lim (fun k => (l203 k).2 L rs) (i_overInterval_1010 L rs) := Lim.of_mono fun k => (Mli_overInterval k).2 L rs
theorem Ei_overInterval_1005 (L : List Int) (o : Int) (A : Int) (r : Int) (r_9s : List Int) (t40 : List Int) (t41 : Int) (t42 : Int) : i_overInterval_1005 L o A r r_9s t40 t41 t42 =
  bif decide (t42 < t41) then
    bif boundA t42 (List.length t40) then
      (i_powerSingle [o, A] t42).bind fun r0 =>
      (i_powerSingle [r, r] (IntKind.wrap IntKind.i64 (IntKind.wrap IntKind.i64 ((↑(List.length L) : Int) - 1) - t42))).bind fun r1 =>
      (i_multiplySingle r0 r1).bind fun r2 =>
      (i_multiplySingle r2 [List.getD t40 (Int.toNat t42) 0]).bind fun r3 =>
      (i_addSingle r_9s r3).bind fun r4 =>
      i_overInterval_1005 L o A r r4 t40 t41 (IntKind.wrap IntKind.i64 (t42 + 1))
    else
      none
  else
    i_overInterval_1010 L r_9s := by
  refine Lim.uniq (Lim.shift (Rli_overInterval_1005 L o A r r_9s t40 t41 t42)) (?_ : Lim (fun k => F203_1005 k ((l203 k).1) ((l203 k).2) L o A r r_9s t40 t41 t42) _)
  unfold F203_1005
  repeat' first | with_reducible exact Lim.ret _ | with_reducible exact Ri_addSingle _ _ | with_reducible exact Ri_multiplySingle _ _ | with_reducible exact Ri_powerSingle _ _ | with_reducible exact Rli_overInterval_1005 _ _ _ _ _ _ _ _ | with_reducible exact Rli_overInterval_1010 _ _ | with_reducible refine Lim.cond ?_ ?_ | with_reducible refine Lim.bind ?_ fun _ => ?_
theorem Ei_overInterval_1010 (L : List Int) (rs : List Int) : i_overInterval_1010 L rs =
  bif decide ((↑(List.length rs) : Int) < (↑(List.length L) : Int)) then
    bif decide ((List.length rs + List.length [0]) * 8 ≤ 140737488355328) then
      i_overInterval_1010 L (rs ++ [0])
    else
      none
  else
    some rs := by
  refine Lim.uniq (Lim.shift (Rli_overInterval_1010 L rs)) (?_ : Lim (fun k => F203_1010 k ((l203 k).1) ((l203 k).2) L rs) _)
  unfold F203_1010
  repeat' first | with_reducible exact Lim.ret _ | with_reducible exact Rli_overInterval_1005 _ _ _ _ _ _ _ _ | with_reducible exact Rli_overInterval_1010 _ _ | with_reducible refine Lim.cond ?_ ?_ | with_reducible refine Lim.bind ?_ fun _ => ?_
noncomputable def i_overInterval (L : List (Int)) (i_Low_N : Int) (i_Low_K : Int) (i_High_N : Int) (i_High_K : Int) : Option (List (Int)) :=
  bif !decide (IntKind.wrap IntKind.i64 ((bif decide (i_Low_K < i_High_K) then i_High_K else i_Low_K) - i_Low_K) < 0) then
    bif !decide (IntKind.wrap IntKind.i64 ((bif decide (i_Low_K < i_High_K) then i_High_K else i_Low_K) - i_High_K) < 0) then
      bif !decide ((bif decide (i_Low_K < i_High_K) then i_High_K else i_Low_K) < 0) then
        i_overInterval_1005 L (IntKind.wrap IntKind.i64 (i_Low_N * 2 ^ min (Int.toNat (IntKind.wrap IntKind.i64 ((bif decide (i_Low_K < i_High_K) then i_High_K else i_Low_K) - i_Low_K))) (IntKind.bits IntKind.i64))) (IntKind.wrap IntKind.i64 (i_High_N * 2 ^ min (Int.toNat (IntKind.wrap IntKind.i64 ((bif decide (i_Low_K < i_High_K) then i_High_K else i_Low_K) - i_High_K))) (IntKind.bits IntKind.i64))) (IntKind.wrap IntKind.i64 (1 * 2 ^ min (Int.toNat (bif decide (i_Low_K < i_High_K) then i_High_K else i_Low_K)) (IntKind.bits IntKind.i64))) ([]) L ((↑(List.length L) : Int)) (0)
      else
        none
    else
      none
  else
    none
theorem Mi_overInterval (k : Nat) (L : List (Int)) (i_Low_N : Int) (i_Low_K : Int) (i_High_N : Int) (i_High_K : Int) : Le (f203 k L i_Low_N i_Low_K i_High_N i_High_K) (f203 (k + 1) L i_Low_N i_Low_K i_High_N i_High_K) := by
  have h := Mli_overInterval k
  unfold f203 F203
  repeat' first | with_reducible exact Le.rfl _ | with_reducible exact h.1 _ _ _ _ _ _ _ _ | with_reducible exact h.2 _ _ | with_reducible refine Le.cond ?_ ?_ | with_reducible refine Le.bind ?_ fun _ => ?_
theorem Ri_overInterval (L : List (Int)) (i_Low_N : Int) (i_Low_K : Int) (i_High_N : Int) (i_High_K : Int) : Lim (fun k => f203 k L i_Low_N i_Low_K i_High_N i_High_K) (i_overInterval L i_Low_N i_Low_K i_High_N i_High_K) := by
  unfold f203 F203 i_overInterval
  repeat' first | with_reducible exact Lim.ret _ | with_reducible exact Rli_overInterval_1005 _ _ _ _ _ _ _ _ | with_reducible exact Rli_overInterval_1010 _ _ | with_reducible refine Lim.cond ?_ ?_ | with_reducible refine Lim.bind ?_ fun _ => ?_

-- slices.Min[[]int,int]
theorem MFslices_Min_int_int_1005 (k : Nat) {r1005 q1005 : List Int → Int → Int → Option (Int)} (h1005 : ∀ (x : List Int) (m : Int) (i : Int), Le (r1005 x m i) (q1005 x m i)) (x : List Int) (m : Int) (i : Int) : Le (F250_1005 k r1005 x m i) (F250_1005 (k + 1) q1005 x m i) := by
  unfold F250_1005
  repeat' first | with_reducible exact Le.rfl _ | with_reducible exact h1005 _ _ _ | with_reducible refine Le.cond ?_ ?_ | with_reducible refine Le.bind ?_ fun _ => ?_
theorem Mlslices_Min_int_int : ∀ k : Nat, ∀ (x : List Int) (m : Int) (i : Int), Le ((l250 k) x m i) ((l250 (k + 1)) x m i)
  | 0 => fun x m i => Le.no _
  | k + 1 => by
    have h := Mlslices_Min_int_int k
    exact fun x m i => MFslices_Min_int_int_1005 k h x m i
noncomputable def slices_Min_int_int_1005 (x : List Int) (m : Int) (i : Int) : Option (Int) := lim fun k => (l250 k) x m i
theorem Rlslices_Min_int_int_1005 (x : List Int) (m : Int) (i : Int) : Lim (fun k => (l250 k) x m i) (slices_Min_int_int_1005 x m i) := Lim.of_mono fun k => Mlslices_Min_int_int k x m i
theorem Eslices_Min_int_int_1005 (x : List Int) (m : Int) (i : Int) : slices_Min_int_int_1005 x m i =
  bif decide (i < (↑(List.length x) : Int)) then
    bif boundA i (List.length x) then
      slices_Min_int_int_1005 x (bif decide (List.getD x (Int.toNat i) 0 < m) then List.getD x (Int.toNat i) 0 else m) (IntKind.wrap IntKind.i64 (i + 1))
    else
      none
  else
    some m := by
  refine Lim.uniq (Lim.shift (Rlslices_Min_int_int_1005 x m i)) (?_ : Lim (fun k => F250_1005 k ((l250 k)) x m i) _)
  unfold F250_1005
  repeat' first | with_reducible exact Lim.ret _ | with_reducible exact Rlslices_Min_int_int_1005 _ _ _ | with_reducible refine Lim.cond ?_ ?_ | with_reducible refine Lim.bind ?_ fun _ => ?_
noncomputable def slices_Min_int_int (x : List (Int)) : Option (Int) :=
  bif decide ((↑(List.length x) : Int) < 1) then
    none
  else
    bif boundA 0 (List.length x) then
      slices_Min_int_int_1005 x (List.getD x (Int.toNat 0) 0) (1)
    else
      none
theorem Mslices_Min_int_int (k : Nat) (x : List (Int)) : Le (f250 k x) (f250 (k + 1) x) := by
  have h := Mlslices_Min_int_int k
  unfold f250 F250
  repeat' first | with_reducible exact Le.rfl _ | with_reducible exact h _ _ _ | with_reducible refine Le.cond ?_ ?_ | with_reducible refine Le.bind ?_ fun _ => ?_
theorem Rslices_Min_int_int (x : List (Int)) : Lim (fun k => f250 k x) (slices_Min_int_int x) := by
  unfold f250 F250 slices_Min_int_int
  repeat' first | with_reducible exact Lim.ret _ | with_reducible exact Rlslices_Min_int_int_1005 _ _ _ | with_reducible refine Lim.cond ?_ ?_ | with_reducible refine Lim.bind ?_ fun _ => ?_

-- slices.Max[[]int,int]
theorem MFslices_Max_int_int_1005 (k : Nat) {r1005 q1005 : List Int → Int → Int → Option (Int)} (h1005 : ∀ (x : List Int) (m : Int) (i : Int), Le (r1005 x m i) (q1005 x m i)) (x : List Int) (m : Int) (i : Int) : Le (F251_1005 k r1005 x m i) (F251_1005 (k + 1) q1005 x m i) := by
  unfold F251_1005
  repeat' first | with_reducible exact Le.rfl _ | with_reducible exact h1005 _ _ _ | with_reducible refine Le.cond ?_ ?_ | with_reducible refine Le.bind ?_ fun _ => ?_
theorem Mlslices_Max_int_int : ∀ k : Nat, ∀ (x : List Int) (m : Int) (i : Int), Le ((l251 k) x m i) ((l251 (k + 1)) x m i)
  | 0 => fun x m i => Le.no _
  | k + 1 => by
    have h := Mlslices_Max_int_int k
    exact fun x m i => MFslices_Max_int_int_1005 k h x m i
noncomputable def slices_Max_int_int_1005 (x : List Int) (m : Int) (i : Int) : Option (Int) := lim fun k => (l251 k) x m i
theorem Rlslices_Max_int_int_1005 (x : List Int) (m : Int) (i : Int) : Lim (fun k => (l251 k) x m i) (slices_Max_int_int_1005 x m i) := Lim.of_mono fun k => Mlslices_Max_int_int k x m i
theorem Eslices_Max_int_int_1005 (x : List Int) (m : Int) (i : Int) : slices_Max_int_int_1005 x m i =
  bif decide (i < (↑(List.length x) : Int)) then
    bif boundA i (List.length x) then
      slices_Max_int_int_1005 x (bif decide (m < List.getD x (Int.toNat i) 0) then List.getD x (Int.toNat i) 0 else m) (IntKind.wrap IntKind.i64 (i + 1))
    else
      none
  else
    some m := by
  refine Lim.uniq (Lim.shift (Rlslices_Max_int_int_1005 x m i)) (?_ : Lim (fun k => F251_1005 k ((l251 k)) x m i) _)
  unfold F251_1005
  repeat' first | with_reducible exact Lim.ret _ | with_reducible exact Rlslices_Max_int_int_1005 _ _ _ | with_reducible refine Lim.cond ?_ ?_ | with_reducible refine Lim.bind ?_ fun _ => ?_
noncomputable def slices_Max_int_int (x : List (Int)) : Option (Int) :=
  bif decide ((↑(List.length x) : Int) < 1) then
    none
  else
    bif boundA 0 (List.length x) then
      slices_Max_int_int_1005 x (List.getD x (Int.toNat 0) 0) (1)
    else
      none
theorem Mslices_Max_int_int (k : Nat) (x : List (Int)) : Le (f251 k x) (f251 (k + 1) x) := by
  have h := Mlslices_Max_int_int k
  unfold f251 F251
  repeat' first | with_reducible exact Le.rfl _ | with_reducible exact h _ _ _ | with_reducible refine Le.cond ?_ ?_ | with_reducible refine Le.bind ?_ fun _ => ?_
theorem Rslices_Max_int_int (x : List (Int)) : Lim (fun k => f251 k x) (slices_Max_int_int x) := by
  unfold f251 F251 slices_Max_int_int
  repeat' first | with_reducible exact Lim.ret _ | with_reducible exact Rlslices_Max_int_int_1005 _ _ _ | with_reducible refine Lim.cond ?_ ?_ | with_reducible refine Lim.bind ?_ fun _ => ?_

-- impl.commonSign
noncomputable def i_commonSign (list : List (Int)) : Option (Int) :=
  (slices_Min_int_int list).bind fun r0 =>
  bif decide (0 < r0) then
    some (1)
  else
    (slices_Max_int_int list).bind fun r1 =>
    bif decide (r1 < 0) then
      some (-1)
    else
      some (0)
theorem Mi_commonSign (k : Nat) (list : List (Int)) : Le (f204 k list) (f204 (k + 1) list) := by
  unfold f204
  repeat' first | with_reducible exact Le.rfl _ | with_reducible exact Mslices_Min_int_int _ _ | with_reducible exact Mslices_Max_int_int _ _ | with_reducible refine Le.cond ?_ ?_ | with_reducible refine Le.bind ?_ fun _ => ?_
theorem Ri_commonSign (list : List (Int)) : Lim (fun k => f204 k list) (i_commonSign list) := by
  unfold f204 i_commonSign
  repeat' first | with_reducible exact Lim.ret _ | with_reducible exact Rslices_Min_int_int _ | with_reducible exact Rslices_Max_int_int _ | with_reducible refine Lim.cond ?_ ?_ | with_reducible refine Lim.bind ?_ fun _ => ?_

-- impl.slopeSign
theorem MFi_slopeSign_1003 (k : Nat) {r1003 q1003 : List Int → List Int → Int → Int → Int → Int → Int → Int → List Int → Int → Option (Int)} (h1003 : ∀ (p : List Int) (q : List Int) (i : Int) (fine : Int) (xs_0 : Int) (xs_1 : Int) (xs_2 : Int) (xs_3 : Int) (alls : List Int) (moment : Int), Le (r1003 p q i fine xs_0 xs_1 xs_2 xs_3 alls moment) (q1003 p q i fine xs_0 xs_1 xs_2 xs_3 alls moment)) {r1006 q1006 : List Int → List Int → Int → Int → Int → Int → Int → Int → List Int → Int → List Int → Option (Int)} (h1006 : ∀ (p : List Int) (q : List Int) (i : Int) (fine : Int) (xs_0 : Int) (xs_1 : Int) (xs_2 : Int) (xs_3 : Int) (alls : List Int) (moment : Int) (ds : List Int), Le (r1006 p q i fine xs_0 xs_1 xs_2 xs_3 alls moment ds) (q1006 p q i fine xs_0 xs_1 xs_2 xs_3 alls moment ds)) (p : List Int) (q : List Int) (i : Int) (fine : Int) (xs_0 : Int) (xs_1 : Int) (xs_2 : Int) (xs_3 : Int) (alls : List Int) (moment : Int) : Le (F138_1003 k r1003 r1006 p q i fine xs_0 xs_1 xs_2 xs_3 alls moment) (F138_1003 (k + 1) q1003 q1006 p q i fine xs_0 xs_1 xs_2 xs_3 alls moment) := by
  unfold F138_1003
  repeat' first | with_reducible exact Le.rfl _ | with_reducible exact Mi_deriveSingle _ _ | with_reducible exact Mi_commonSign _ _ | with_reducible exact Mi_familyAt _ _ _ _ _ | with_reducible exact h1003 _ _ _ _ _ _ _ _ _ _ | with_reducible exact h1006 _ _ _ _ _ _ _ _ _ _ _ | with_reducible refine Le.cond ?_ ?_ | with_reducible refine Le.bind ?_ fun _ => ?_
theorem MFi_slopeSign_1006 (k : Nat) {r1003 q1003 : List Int → List Int → Int → Int → Int → Int → Int → Int → List Int → Int → Option (Int)} (h1003 : ∀ (p : List Int) (q : List Int) (i : Int) (fine : Int) (xs_0 : Int) (xs_1 : Int) (xs_2 : Int) (xs_3 : Int) (alls : List Int) (moment : Int), Le (r1003 p q i fine xs_0 xs_1 xs_2 xs_3 alls moment) (q1003 p q i fine xs_0 xs_1 xs_2 xs_3 alls moment)) {r1006 q1006 : List Int → List Int → Int → Int → Int → Int → Int → Int → List Int → Int → List Int → Option (Int)} (h1006 : ∀ (p : List Int) (q : List Int) (i : Int) (fine : Int) (xs_0 : Int) (xs_1 : Int) (xs_2 : Int) (xs_3 : Int) (alls : List Int) (moment : Int) (ds : List Int), Le (r1006 p q i fine xs_0 xs_1 xs_2 xs_3 alls moment ds) (q1006 p q i fine xs_0 xs_1 xs_2 xs_3 alls moment ds)) (p : List Int) (q : List Int) (i : Int) (fine : Int) (xs_0 : Int) (xs_1 : Int) (xs_2 : Int) (xs_3 : Int) (alls : List Int) (moment : Int) (ds : List Int) : Le (F138_1006 k r1003 r1006 p q i fine xs_0 xs_1 xs_2 xs_3 alls moment ds) (F138_1006 (k + 1) q1003 q1006 p q i fine xs_0 xs_1 xs_2 xs_3 alls moment ds) := by
  unfold F138_1006
  repeat' first | with_reducible exact Le.rfl _ | with_reducible exact Mi_overInterval _ _ _ _ _ _ | with_reducible exact h1003 _ _ _ _ _ _ _ _ _ _ | with_reducible exact h1006 _ _ _ _ _ _ _ _ _ _ _ | with_reducible refine Le.cond ?_ ?_ | with_reducible refine Le.bind ?_ fun _ => ?_
theorem Mli_slopeSign : ∀ k : Nat, (∀ (p : List Int) (q : List Int) (i : Int) (fine : Int) (xs_0 : Int) (xs_1 : Int) (xs_2 : Int) (xs_3 : Int) (alls : List Int) (moment : Int), Le ((l138 k).1 p q i fine xs_0 xs_1 xs_2 xs_3 alls moment) ((l138 (k + 1)).1 p q i fine xs_0 xs_1 xs_2 xs_3 alls moment)) ∧ (∀ (p : List Int) (q : List Int) (i : Int) (fine : Int) (xs_0 : Int) (xs_1 : Int) (xs_2 : Int) (xs_3 : Int) (alls : List Int) (moment : Int) (ds : List Int), Le ((l138 k).2 p q i fine xs_0 xs_1 xs_2 xs_3 alls moment ds) ((l138 (k + 1)).2 p q i fine xs_0 xs_1 xs_2 xs_3 alls moment ds))
  | 0 => ⟨fun p q i fine xs_0 xs_1 xs_2 xs_3 alls moment => Le.no _, fun p q i fine xs_0 xs_1 xs_2 xs_3 alls moment ds => Le.no _⟩
  | k + 1 => by
    have h := Mli_slopeSign k
    exact ⟨fun p q i fine xs_0 xs_1 xs_2 xs_3 alls moment => MFi_slopeSign_1003 k h.1 h.2 p q i fine xs_0 xs_1 xs_2 xs_3 alls moment, fun p q i fine xs_0 xs_1 xs_2 xs_3 alls moment ds => MFi_slopeSign_1006 k h.1 h.2 p q i fine xs_0 xs_1 xs_2 xs_3 alls moment ds⟩
noncomputable def i_slopeSign_1003 (p : List Int) (q : List Int) (i : Int) (fine : Int) (xs_0 : Int) (xs_1 : Int) (xs_2 : Int) (xs_3 : Int) (alls : List Int) (moment : Int) : Option (Int) := lim fun k => (l138 k).1 p q i fine xs_0 xs_1 xs_2 xs_3 alls moment
theorem Rli_slopeSign_1003 (p : List Int) (q : List Int) (i : Int) (fine : Int) (xs_0 : Int) (xs_1 : Int) (xs_2 : Int) (xs_3 : Int) (alls : List Int) (moment : Int) : Lim (fun k => (l138 k).1 p q i fine xs_0 xs_1 xs_2 xs_3 alls moment) (i_slopeSign_1003 p q i fine xs_0 xs_1 xs_2 xs_3 alls moment) := Lim.of_mono fun k => (Mli_slopeSign k).1 p q i fine xs_0 xs_1 xs_2 xs_3 alls moment
noncomputable def i_slopeSign_1006 (p : List Int) (q : List Int) (i : Int) (fine : Int) (xs_0 : Int) (xs_1 : Int) (xs_2 : Int) (xs_3 : Int) (alls : List Int) (moment : Int) (ds : List Int) : Option (Int) := lim fun k => (l138 k).2 p q i fine xs_0 xs_1 xs_2 xs_3 alls moment ds
theorem Rli_slopeSign_1006 (p : List Int) (q : List Int) (i : Int) (fine : Int) (xs_0 : Int) (xs_1 : Int) (xs_2 : Int) (xs_3 : Int) (alls : List Int) (moment : Int) (ds : List Int) : Lim (fun k => (l138 k).2 p q i fine xs_0 xs_1 xs_2 xs_3 alls moment ds) (i_slopeSign_1006 p q i fine xs_0 xs_1 xs_2 xs_3 alls moment ds) := Lim.of_mono fun k => (Mli_slopeSign k).2 p q i fine xs_0 xs_1 xs_2 xs_3 alls moment ds
theorem Ei_slopeSign_1003 (p : List Int) (q : List Int) (i : Int) (fine : Int) (xs_0 : Int) (xs_1 : Int) (xs_2 : Int) (xs_3 : Int) (alls : List Int) (moment : Int) : i_slopeSign_1003 p q i fine xs_0 xs_1 xs_2 xs_3 alls moment =
  bif decide (moment ≤ IntKind.wrap IntKind.i64 (i + 1)) then
    (i_familyAt p q moment fine).bind fun r0 =>
    (i_deriveSingle r0).bind fun r1 =>
    i_slopeSign_1006 p q i fine xs_0 xs_1 xs_2 xs_3 alls moment r1
  else
    (i_commonSign alls).bind fun r2 =>
    some r2 := by
  refine Lim.uniq (Lim.shift (Rli_slopeSign_1003 p q i fine xs_0 xs_1 xs_2 xs_3 alls moment)) (?_ : Lim (fun k => F138_1003 k ((l138 k).1) ((l138 k).2) p q i fine xs_0 xs_1 xs_2 xs_3 alls moment) _)
  unfold F138_1003
  repeat' first | with_reducible exact Lim.ret _ | with_reducible exact Ri_deriveSingle _ | with_reducible exact Ri_commonSign _ | with_reducible exact Ri_familyAt _ _ _ _ | with_reducible exact Rli_slopeSign_1003 _ _ _ _ _ _ _ _ _ _ | with_reducible exact Rli_slopeSign_1006 _ _ _ _ _ _ _ _ _ _ _ | with_reducible refine Lim.cond ?_ ?_ | with_reducible refine Lim.bind ?_ fun _ => ?_
theorem Ei_slopeSign_1006 (p : List Int) (q : List Int) (i : Int) (fine : Int) (xs_0 : Int) (xs_1 : Int) (xs_2 : Int) (xs_3 : Int) (alls : List Int) (moment : Int) (ds : List Int) : i_slopeSign_1006 p q i fine xs_0 xs_1 xs_2 xs_3 alls moment ds =
  bif decide ((↑(List.length ds) : Int) < 5) then
    bif decide ((List.length ds + List.length [0]) * 8 ≤ 140737488355328) then
      i_slopeSign_1006 p q i fine xs_0 xs_1 xs_2 xs_3 alls moment (ds ++ [0])
    else
      none
  else
    (i_overInterval ds xs_0 xs_1 xs_2 xs_3).bind fun r0 =>
    bif decide ((List.length alls + List.length r0) * 8 ≤ 140737488355328) then
      i_slopeSign_1003 p q i fine xs_0 xs_1 xs_2 xs_3 (alls ++ r0) (IntKind.wrap IntKind.i64 (moment + 1))
    else
      none := by
  refine Lim.uniq (Lim.shift (Rli_slopeSign_1006 p q i fine xs_0 xs_1 xs_2 xs_3 alls moment ds)) (?_ : Lim (fun k => F138_1006 k ((l138 k).1) ((l138 k).2) p q i fine xs_0 xs_1 xs_2 xs_3 alls moment ds) _)
  unfold F138_1006
  repeat' first | with_reducible exact Lim.ret _ | with_reducible exact Ri_overInterval _ _ _ _ _ | with_reducible exact Rli_slopeSign_1003 _ _ _ _ _ _ _ _ _ _ | with_reducible exact Rli_slopeSign_1006 _ _ _ _ _ _ _ _ _ _ _ | with_reducible refine Lim.cond ?_ ?_ | with_reducible refine Lim.bind ?_ fun _ => ?_
noncomputable def i_slopeSign (p : List (Int)) (q : List (Int)) (x_Low_N : Int) (x_Low_K : Int) (x_High_N : Int) (x_High_K : Int) (i : Int) (fine : Int) : Option (Int) :=
  i_slopeSign_1003 p q i fine x_Low_N x_Low_K x_High_N x_High_K ([]) i
theorem Mi_slopeSign (k : Nat) (p : List (Int)) (q : List (Int)) (x_Low_N : Int) (x_Low_K : Int) (x_High_N : Int) (x_High_K : Int) (i : Int) (fine : Int) : Le (f138 k p q x_Low_N x_Low_K x_High_N x_High_K i fine) (f138 (k + 1) p q x_Low_N x_Low_K x_High_N x_High_K i fine) := by
  have h := Mli_slopeSign k
  unfold f138 F138
  repeat' first | with_reducible exact Le.rfl _ | with_reducible exact h.1 _ _ _ _ _ _ _ _ _ _ | with_reducible exact h.2 _ _ _ _ _ _ _ _ _ _ _ | with_reducible refine Le.cond ?_ ?_ | with_reducible refine Le.bind ?_ fun _ => ?_
theorem Ri_slopeSign (p : List (Int)) (q : List (Int)) (x_Low_N : Int) (x_Low_K : Int) (x_High_N : Int) (x_High_K : Int) (i : Int) (fine : Int) : Lim (fun k => f138 k p q x_Low_N x_Low_K x_High_N x_High_K i fine) (i_slopeSign p q x_Low_N x_Low_K x_High_N x_High_K i fine) := by
  unfold f138 F138 i_slopeSign
  repeat' first | with_reducible exact Lim.ret _ | with_reducible exact Rli_slopeSign_1003 _ _ _ _ _ _ _ _ _ _ | with_reducible exact Rli_slopeSign_1006 _ _ _ _ _ _ _ _ _ _ _ | with_reducible refine Lim.cond ?_ ?_ | with_reducible refine Lim.bind ?_ fun _ => ?_

-- impl.stepHolds
noncomputable def i_stepHolds (p : List (Int)) (q : List (Int)) (x_Low_N : Int) (x_Low_K : Int) (x_High_N : Int) (x_High_K : Int) (i : Int) (fine : Int) : Option (Bool) :=
  (i_familySign p q x_Low_N x_Low_K i (IntKind.wrap IntKind.i64 (i + 1)) fine).bind fun r0 =>
  (i_familySign p q x_High_N x_High_K i (IntKind.wrap IntKind.i64 (i + 1)) fine).bind fun r1 =>
  bif decide (IntKind.wrap IntKind.i64 (r0 * r1) < 0) then
    (i_slopeSign p q x_Low_N x_Low_K x_High_N x_High_K i fine).bind fun r2 =>
    some (!decide (r2 = 0))
  else
    some false
theorem Mi_stepHolds (k : Nat) (p : List (Int)) (q : List (Int)) (x_Low_N : Int) (x_Low_K : Int) (x_High_N : Int) (x_High_K : Int) (i : Int) (fine : Int) : Le (f81 k p q x_Low_N x_Low_K x_High_N x_High_K i fine) (f81 (k + 1) p q x_Low_N x_Low_K x_High_N x_High_K i fine) := by
  unfold f81
  repeat' first | with_reducible exact Le.rfl _ | with_reducible exact Mi_familySign _ _ _ _ _ _ _ _ | with_reducible exact Mi_slopeSign _ _ _ _ _ _ _ _ _ | with_reducible refine Le.cond ?_ ?_ | with_reducible refine Le.bind ?_ fun _ => ?_
theorem Ri_stepHolds (p : List (Int)) (q : List (Int)) (x_Low_N : Int) (x_Low_K : Int) (x_High_N : Int) (x_High_K : Int) (i : Int) (fine : Int) : Lim (fun k => f81 k p q x_Low_N x_Low_K x_High_N x_High_K i fine) (i_stepHolds p q x_Low_N x_Low_K x_High_N x_High_K i fine) := by
  unfold f81 i_stepHolds
  repeat' first | with_reducible exact Lim.ret _ | with_reducible exact Ri_familySign _ _ _ _ _ _ _ | with_reducible exact Ri_slopeSign _ _ _ _ _ _ _ _ | with_reducible refine Lim.cond ?_ ?_ | with_reducible refine Lim.bind ?_ fun _ => ?_

-- impl.sumOf
noncomputable def i_sumOf (a_N : Int) (a_K : Int) (b_N : Int) (b_K : Int) : Option ((Int × Int) × Bool) :=
  (i_wideOf a_N).bind fun r0 =>
  (i_wide_shift r0.fst r0.snd.fst r0.snd.snd (IntKind.wrap IntKind.i64 ((bif decide (a_K < b_K) then b_K else a_K) - a_K))).bind fun r1 =>
  (i_wideOf b_N).bind fun r2 =>
  (i_wide_shift r2.fst r2.snd.fst r2.snd.snd (IntKind.wrap IntKind.i64 ((bif decide (a_K < b_K) then b_K else a_K) - b_K))).bind fun r3 =>
  (i_wide_add r1.fst r1.snd.fst r1.snd.snd r3.fst r3.snd.fst r3.snd.snd).bind fun r4 =>
  (i_wide_fit r4.fst r4.snd.fst r4.snd.snd (bif decide (a_K < b_K) then b_K else a_K)).bind fun r5 =>
  some (((r5.fst.fst, r5.fst.snd), r5.snd))
theorem Mi_sumOf (k : Nat) (a_N : Int) (a_K : Int) (b_N : Int) (b_K : Int) : Le (f175 k a_N a_K b_N b_K) (f175 (k + 1) a_N a_K b_N b_K) := by
  unfold f175
  repeat' first | with_reducible exact Le.rfl _ | with_reducible exact Mi_wideOf _ _ | with_reducible exact Mi_wide_fit _ _ _ _ _ | with_reducible exact Mi_wide_shift _ _ _ _ _ | with_reducible exact Mi_wide_add _ _ _ _ _ _ _ | with_reducible refine Le.cond ?_ ?_ | with_reducible refine Le.bind ?_ fun _ => ?_
theorem Ri_sumOf (a_N : Int) (a_K : Int) (b_N : Int) (b_K : Int) : Lim (fun k => f175 k a_N a_K b_N b_K) (i_sumOf a_N a_K b_N b_K) := by
  unfold f175 i_sumOf
  repeat' first | with_reducible exact Lim.ret _ | with_reducible exact Ri_wideOf _ | with_reducible exact Ri_wide_fit _ _ _ _ | with_reducible exact Ri_wide_shift _ _ _ _ | with_reducible exact Ri_wide_add _ _ _ _ _ _ | with_reducible refine Lim.cond ?_ ?_ | with_reducible refine Lim.bind ?_ fun _ => ?_

-- impl.minus
noncomputable def i_minus (a_N : Int) (a_K : Int) : Option (Int × Int) :=
  some ((IntKind.wrap IntKind.i64 (0 - a_N), a_K))
theorem Mi_minus (k : Nat) (a_N : Int) (a_K : Int) : Le (f176 k a_N a_K) (f176 (k + 1) a_N a_K) := by
  unfold f176
  repeat' first | with_reducible exact Le.rfl _ | with_reducible refine Le.cond ?_ ?_ | with_reducible refine Le.bind ?_ fun _ => ?_
theorem Ri_minus (a_N : Int) (a_K : Int) : Lim (fun k => f176 k a_N a_K) (i_minus a_N a_K) := by
  unfold f176 i_minus
  repeat' first | with_reducible exact Lim.ret _ | with_reducible refine Lim.cond ?_ ?_ | with_reducible refine Lim.bind ?_ fun _ => ?_

-- impl.greater
noncomputable def i_greater (a_N : Int) (a_K : Int) (b_N : Int) (b_K : Int) : Option (Int × Int) :=
  (i_compareD b_N b_K a_N a_K).bind fun r0 =>
  bif decide (0 < r0) then
    some ((b_N, b_K))
  else
    some ((a_N, a_K))
theorem Mi_greater (k : Nat) (a_N : Int) (a_K : Int) (b_N : Int) (b_K : Int) : Le (f177 k a_N a_K b_N b_K) (f177 (k + 1) a_N a_K b_N b_K) := by
  unfold f177
  repeat' first | with_reducible exact Le.rfl _ | with_reducible exact Mi_compareD _ _ _ _ _ | with_reducible refine Le.cond ?_ ?_ | with_reducible refine Le.bind ?_ fun _ => ?_
theorem Ri_greater (a_N : Int) (a_K : Int) (b_N : Int) (b_K : Int) : Lim (fun k => f177 k a_N a_K b_N b_K) (i_greater a_N a_K b_N b_K) := by
  unfold f177 i_greater
  repeat' first | with_reducible exact Lim.ret _ | with_reducible exact Ri_compareD _ _ _ _ | with_reducible refine Lim.cond ?_ ?_ | with_reducible refine Lim.bind ?_ fun _ => ?_

-- impl.lesser
noncomputable def i_lesser (a_N : Int) (a_K : Int) (b_N : Int) (b_K : Int) : Option (Int × Int) :=
  (i_compareD b_N b_K a_N a_K).bind fun r0 =>
  bif decide (r0 < 0) then
    some ((b_N, b_K))
  else
    some ((a_N, a_K))
theorem Mi_lesser (k : Nat) (a_N : Int) (a_K : Int) (b_N : Int) (b_K : Int) : Le (f179 k a_N a_K b_N b_K) (f179 (k + 1) a_N a_K b_N b_K) := by
  unfold f179
  repeat' first | with_reducible exact Le.rfl _ | with_reducible exact Mi_compareD _ _ _ _ _ | with_reducible refine Le.cond ?_ ?_ | with_reducible refine Le.bind ?_ fun _ => ?_
theorem Ri_lesser (a_N : Int) (a_K : Int) (b_N : Int) (b_K : Int) : Lim (fun k => f179 k a_N a_K b_N b_K) (i_lesser a_N a_K b_N b_K) := by
  unfold f179 i_lesser
  repeat' first | with_reducible exact Lim.ret _ | with_reducible exact Ri_compareD _ _ _ _ | with_reducible refine Lim.cond ?_ ?_ | with_reducible refine Lim.bind ?_ fun _ => ?_

-- impl.findStep
theorem MFi_findStep_1002 (k : Nat) {r1002 q1002 : List Int → List Int → Int → Int → Int → Int → Int → Int → Int → Int → Int → Int → Int → Option (((Int × Int) × Int × Int) × Bool)} (h1002 : ∀ (L : List Int) (i : List Int) (t : Int) (t4 : Int) (As_0 : Int) (As_1 : Int) (As_2 : Int) (As_3 : Int) (as_0 : Int) (as_1 : Int) (as_2 : Int) (as_3 : Int) (t18 : Int), Le (r1002 L i t t4 As_0 As_1 As_2 As_3 as_0 as_1 as_2 as_3 t18) (q1002 L i t t4 As_0 As_1 As_2 As_3 as_0 as_1 as_2 as_3 t18)) (L : List Int) (i : List Int) (t : Int) (t4 : Int) (As_0 : Int) (As_1 : Int) (As_2 : Int) (As_3 : Int) (as_0 : Int) (as_1 : Int) (as_2 : Int) (as_3 : Int) (t18 : Int) : Le (F116_1002 k r1002 L i t t4 As_0 As_1 As_2 As_3 as_0 as_1 as_2 as_3 t18) (F116_1002 (k + 1) q1002 L i t t4 As_0 As_1 As_2 As_3 as_0 as_1 as_2 as_3 t18) := by
  unfold F116_1002
  repeat' first | with_reducible exact Le.rfl _ | with_reducible exact Mi_wideOf _ _ | with_reducible exact Mi_wide_fit _ _ _ _ _ | with_reducible exact Mi_sumOf _ _ _ _ _ | with_reducible exact Mi_greater _ _ _ _ _ | with_reducible exact Mi_lesser _ _ _ _ _ | with_reducible exact Mi_stepHolds _ _ _ _ _ _ _ _ _ | with_reducible exact h1002 _ _ _ _ _ _ _ _ _ _ _ _ _ | with_reducible refine Le.cond ?_ ?_ | with_reducible refine Le.bind ?_ fun _ => ?_
theorem Mli_findStep : ∀ k : Nat, ∀ (L : List Int) (i : List Int) (t : Int) (t4 : Int) (As_0 : Int) (As_1 : Int) (As_2 : Int) (As_3 : Int) (as_0 : Int) (as_1 : Int) (as_2 : Int) (as_3 : Int) (t18 : Int), Le ((l116 k) L i t t4 As_0 As_1 As_2 As_3 as_0 as_1 as_2 as_3 t18) ((l116 (k + 1)) L i t t4 As_0 As_1 As_2 As_3 as_0 as_1 as_2 as_3 t18)
  | 0 => fun L i t t4 As_0 As_1 As_2 As_3 as_0 as_1 as_2 as_3 t18 => Le.no _
  | k + 1 => by
    have h := Mli_findStep k
    exact fun L i t t4 As_0 As_1 As_2 As_3 as_0 as_1 as_2 as_3 t18 => MFi_findStep_1002 k h L i t t4 As_0 As_1 As_2 As_3 as_0 as_1 as_2 as_3 t18
noncomputable def i_findStep_1002 (L : List Int) (i : List Int) (t : Int) (t4 : Int) (As_0 : Int) (As_1 : Int) (As_2 : Int) (As_3 : Int) (as_0 : Int) (as_1 : Int) (as_2 : Int) (as_3 : Int) (t18 : Int) : Option (((Int × Int) × Int × Int) × Bool) := lim fun k => (l116 k) L i t t4 As_0 As_1 As_2 As_3 as_0 as_1 as_2 as_3 t18
theorem Rli_findStep_1002 (L : List Int) (i : List Int) (t : Int) (t4 : Int) (As_0 : Int) (As_1 : Int) (As_2 : Int) (As_3 : Int) (as_0 : Int) (as_1 : Int) (as_2 : Int) (as_3 : Int) (t18 : Int) : Lim (fun k => (l116 k) L i t t4 As_0 As_1 As_2 As_3 as_0 as_1 as_2 as_3 t18) (i_findStep_1002 L i t t4 As_0 As_1 As_2 As_3 as_0 as_1 as_2 as_3 t18) := Lim.of_mono fun k => Mli_findStep k L i t t4 As_0 As_1 As_2 As_3 as_0 as_1 as_2 as_3 t18
theorem Ei_findStep_1002 (L : List Int) (i : List Int) (t : Int) (t4 : Int) (As_0 : Int) (As_1 : Int) (As_2 : Int) (As_3 : Int) (as_0 : Int) (as_1 : Int) (as_2 : Int) (as_3 : Int) (t18 : Int) : i_findStep_1002 L i t t4 As_0 As_1 As_2 As_3 as_0 as_1 as_2 as_3 t18 =
  bif decide (t18 < 7) then
    bif decide (0 < t18) then
      bif !decide (IntKind.wrap IntKind.i64 (t18 - 1) < 0) then
        (i_wideOf (IntKind.wrap IntKind.i64 (1 * 2 ^ min (Int.toNat (IntKind.wrap IntKind.i64 (t18 - 1))) (IntKind.bits IntKind.i64)))).bind fun r0 =>
        (i_wide_fit r0.fst r0.snd.fst r0.snd.snd 5).bind fun r1 =>
        (i_sumOf As_0 As_1 (IntKind.wrap IntKind.i64 (0 - r1.fst.fst)) r1.fst.snd).bind fun r2 =>
        (i_sumOf As_2 As_3 r1.fst.fst r1.fst.snd).bind fun r3 =>
        (i_greater r2.fst.fst r2.fst.snd (-8) 0).bind fun r4 =>
        (i_lesser r3.fst.fst r3.fst.snd 8 0).bind fun r5 =>
        (i_stepHolds L i r4.fst r4.snd r5.fst r5.snd t t4).bind fun r6 =>
        bif r6 then
          some ((((r4.fst, r4.snd), r5.fst, r5.snd), true))
        else
          i_findStep_1002 L i t t4 (r4.fst) (r4.snd) (r5.fst) (r5.snd) as_0 as_1 as_2 as_3 (IntKind.wrap IntKind.i64 (t18 + 1))
      else
        none
    else
      (i_stepHolds L i As_0 As_1 As_2 As_3 t t4).bind fun r7 =>
      bif r7 then
        some ((((As_0, As_1), As_2, As_3), true))
      else
        i_findStep_1002 L i t t4 As_0 As_1 As_2 As_3 as_0 as_1 as_2 as_3 (IntKind.wrap IntKind.i64 (t18 + 1))
  else
    some ((((0, 0), 0, 0), false)) := by
  refine Lim.uniq (Lim.shift (Rli_findStep_1002 L i t t4 As_0 As_1 As_2 As_3 as_0 as_1 as_2 as_3 t18)) (?_ : Lim (fun k => F116_1002 k ((l116 k)) L i t t4 As_0 As_1 As_2 As_3 as_0 as_1 as_2 as_3 t18) _)
  unfold F116_1002
  repeat' first | with_reducible exact Lim.ret _ | with_reducible exact Ri_wideOf _ | with_reducible exact Ri_wide_fit _ _ _ _ | with_reducible exact Ri_sumOf _ _ _ _ | with_reducible exact Ri_greater _ _ _ _ | with_reducible exact Ri_lesser _ _ _ _ | with_reducible exact Ri_stepHolds _ _ _ _ _ _ _ _ | with_reducible exact Rli_findStep_1002 _ _ _ _ _ _ _ _ _ _ _ _ _ | with_reducible refine Lim.cond ?_ ?_ | with_reducible refine Lim.bind ?_ fun _ => ?_
noncomputable def i_findStep (L : List (Int)) (i : List (Int)) (s_Low_N : Int) (s_Low_K : Int) (s_High_N : Int) (s_High_K : Int) (t : Int) (t4 : Int) : Option (((Int × Int) × Int × Int) × Bool) :=
  i_findStep_1002 L i t t4 s_Low_N s_Low_K s_High_N s_High_K (0) (0) (0) (0) (0)
theorem Mi_findStep (k : Nat) (L : List (Int)) (i : List (Int)) (s_Low_N : Int) (s_Low_K : Int) (s_High_N : Int) (s_High_K : Int) (t : Int) (t4 : Int) : Le (f116 k L i s_Low_N s_Low_K s_High_N s_High_K t t4) (f116 (k + 1) L i s_Low_N s_Low_K s_High_N s_High_K t t4) := by
  have h := Mli_findStep k
  unfold f116 F116
  repeat' first | with_reducible exact Le.rfl _ | with_reducible exact h _ _ _ _ _ _ _ _ _ _ _ _ _ | with_reducible refine Le.cond ?_ ?_ | with_reducible refine Le.bind ?_ fun _ => ?_
theorem Ri_findStep (L : List (Int)) (i : List (Int)) (s_Low_N : Int) (s_Low_K : Int) (s_High_N : Int) (s_High_K : Int) (t : Int) (t4 : Int) : Lim (fun k => f116 k L i s_Low_N s_Low_K s_High_N s_High_K t t4) (i_findStep L i s_Low_N s_Low_K s_High_N s_High_K t t4) := by
  unfold f116 F116 i_findStep
  repeat' first | with_reducible exact Lim.ret _ | with_reducible exact Rli_findStep_1002 _ _ _ _ _ _ _ _ _ _ _ _ _ | with_reducible refine Lim.cond ?_ ?_ | with_reducible refine Lim.bind ?_ fun _ => ?_

-- impl.FindStep
noncomputable def i_FindStep (p : List (Int)) (q : List (Int)) (x_Low_N : Int) (x_Low_K : Int) (x_High_N : Int) (x_High_K : Int) (i : Int) (fine : Int) : Option (((Int × Int) × Int × Int) × Bool) :=
  (i_isFamily p q fine).bind fun r0 =>
  bif !r0 then
    some ((((0, 0), 0, 0), false))
  else
    (i_isFit x_Low_N x_Low_K x_High_N x_High_K).bind fun r1 =>
    bif !r1 then
      some ((((0, 0), 0, 0), false))
    else
      (i_isMoment (IntKind.wrap IntKind.i64 (i + 1)) fine).bind fun r2 =>
      bif !r2 then
        some ((((0, 0), 0, 0), false))
      else
        bif decide (i < 0) then
          some ((((0, 0), 0, 0), false))
        else
          (i_findStep p q x_Low_N x_Low_K x_High_N x_High_K i fine).bind fun r3 =>
          some ((((r3.fst.fst.fst, r3.fst.fst.snd), r3.fst.snd.fst, r3.fst.snd.snd), r3.snd))
theorem Mi_FindStep (k : Nat) (p : List (Int)) (q : List (Int)) (x_Low_N : Int) (x_Low_K : Int) (x_High_N : Int) (x_High_K : Int) (i : Int) (fine : Int) : Le (f61 k p q x_Low_N x_Low_K x_High_N x_High_K i fine) (f61 (k + 1) p q x_Low_N x_Low_K x_High_N x_High_K i fine) := by
  unfold f61
  repeat' first | with_reducible exact Le.rfl _ | with_reducible exact Mi_findStep _ _ _ _ _ _ _ _ _ | with_reducible exact Mi_isFamily _ _ _ _ | with_reducible exact Mi_isFit _ _ _ _ _ | with_reducible exact Mi_isMoment _ _ _ | with_reducible refine Le.cond ?_ ?_ | with_reducible refine Le.bind ?_ fun _ => ?_
theorem Ri_FindStep (p : List (Int)) (q : List (Int)) (x_Low_N : Int) (x_Low_K : Int) (x_High_N : Int) (x_High_K : Int) (i : Int) (fine : Int) : Lim (fun k => f61 k p q x_Low_N x_Low_K x_High_N x_High_K i fine) (i_FindStep p q x_Low_N x_Low_K x_High_N x_High_K i fine) := by
  unfold f61 i_FindStep
  repeat' first | with_reducible exact Lim.ret _ | with_reducible exact Ri_findStep _ _ _ _ _ _ _ _ | with_reducible exact Ri_isFamily _ _ _ | with_reducible exact Ri_isFit _ _ _ _ | with_reducible exact Ri_isMoment _ _ | with_reducible refine Lim.cond ?_ ?_ | with_reducible refine Lim.bind ?_ fun _ => ?_

-- laws.FnExactFindStep
noncomputable def w_FnExactFindStep (L : List (Int)) (i : List (Int)) (s_Low_N : Int) (s_Low_K : Int) (s_High_N : Int) (s_High_K : Int) (t : Int) (t4 : Int) : Option (Bool) :=
  bif decide (1000000 < IntKind.wrap IntKind.i64 ((↑(List.length L) : Int) + (↑(List.length i) : Int))) then
    some true
  else
    (w_toIntS L false).bind fun r0 =>
    (w_toIntS i false).bind fun r1 =>
    (s_FindStep (List.take r0.snd r0.fst) (List.take r1.snd r1.fst) s_Low_N s_Low_K s_High_N s_High_K t t4).bind fun r2 =>
    (w_toIntS L false).bind fun r3 =>
    (w_toIntS i false).bind fun r4 =>
    (i_FindStep (List.take r3.snd r3.fst) (List.take r4.snd r4.fst) s_Low_N s_Low_K s_High_N s_High_K t t4).bind fun r5 =>
    (w_eqInterval r5.fst.fst.fst r5.fst.fst.snd r5.fst.snd.fst r5.fst.snd.snd r2.fst.fst.fst r2.fst.fst.snd r2.fst.snd.fst r2.fst.snd.snd).bind fun r6 =>
    bif !r6 then
      some false
    else
      bif !r5.snd == r2.snd then
        some false
      else
        (w_toIntS L false).bind fun r7 =>
        (w_intactIntS r3.fst r3.snd r7.fst r7.snd).bind fun r8 =>
        bif !r8 then
          some false
        else
          (w_toIntS i false).bind fun r9 =>
          (w_intactIntS r4.fst r4.snd r9.fst r9.snd).bind fun r10 =>
          bif !r10 then
            some false
          else
            (w_toIntS L true).bind fun r11 =>
            (w_toIntS i true).bind fun r12 =>
            (i_FindStep (List.take r11.snd r11.fst) (List.take r12.snd r12.fst) s_Low_N s_Low_K s_High_N s_High_K t t4).bind fun r13 =>
            (w_eqInterval r13.fst.fst.fst r13.fst.fst.snd r13.fst.snd.fst r13.fst.snd.snd r2.fst.fst.fst r2.fst.fst.snd r2.fst.snd.fst r2.fst.snd.snd).bind fun r14 =>
            bif !r14 then
              some false
            else
              bif !r13.snd == r2.snd then
                some false
              else
                some true
theorem Mw_FnExactFindStep (k : Nat) (L : List (Int)) (i : List (Int)) (s_Low_N : Int) (s_Low_K : Int) (s_High_N : Int) (s_High_K : Int) (t : Int) (t4 : Int) : Le (f12 k L i s_Low_N s_Low_K s_High_N s_High_K t t4) (f12 (k + 1) L i s_Low_N s_Low_K s_High_N s_High_K t t4) := by
  unfold f12
  repeat' first | with_reducible exact Le.rfl _ | with_reducible exact Mw_toIntS _ _ _ | with_reducible exact Mw_eqInterval _ _ _ _ _ _ _ _ _ | with_reducible exact Mw_intactIntS _ _ _ _ _ | with_reducible exact Ms_FindStep _ _ _ _ _ _ _ _ _ | with_reducible exact Mi_FindStep _ _ _ _ _ _ _ _ _ | with_reducible refine Le.cond ?_ ?_ | with_reducible refine Le.bind ?_ fun _ => ?_
theorem Rw_FnExactFindStep (L : List (Int)) (i : List (Int)) (s_Low_N : Int) (s_Low_K : Int) (s_High_N : Int) (s_High_K : Int) (t : Int) (t4 : Int) : Lim (fun k => f12 k L i s_Low_N s_Low_K s_High_N s_High_K t t4) (w_FnExactFindStep L i s_Low_N s_Low_K s_High_N s_High_K t t4) := by
  unfold f12 w_FnExactFindStep
  repeat' first | with_reducible exact Lim.ret _ | with_reducible exact Rw_toIntS _ _ | with_reducible exact Rw_eqInterval _ _ _ _ _ _ _ _ | with_reducible exact Rw_intactIntS _ _ _ _ | with_reducible exact Rs_FindStep _ _ _ _ _ _ _ _ | with_reducible exact Ri_FindStep _ _ _ _ _ _ _ _ | with_reducible refine Lim.cond ?_ ?_ | with_reducible refine Lim.bind ?_ fun _ => ?_

end Go.Proofs.YtbaeikcfchiiaaaE
