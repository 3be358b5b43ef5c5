/- Functions without a count of rounds; printed. -/
import Derived.Test.YtbaeikcfchiiaaaTH1
set_option maxRecDepth 100000
set_option maxHeartbeats 4000000
set_option linter.unusedVariables false
namespace Go.Proofs.YtbaeikcfchiiaaaE
-- slices.Max[[]int,int]
theorem MFslices_Max_int_int_1005 (k : Nat) {r1005 q1005 : List Int → Int → Int → Option (Int)} (h1005 : ∀ (x : List Int) (m : Int) (i : Int), Le (r1005 x m i) (q1005 x m i)) (x : List Int) (m : Int) (i : Int) : Le (F251_1005 k r1005 x m i) (F251_1005 (k + 1) q1005 x m i) := by
  unfold F251_1005
  repeat' first | with_reducible exact Le.rfl _ | with_reducible exact h1005 _ _ _ | with_reducible refine Le.cond ?_ ?_ | with_reducible refine Le.bind ?_ fun _ => ?_
theorem Mlslices_Max_int_int : ∀ k : Nat, ∀ (x : List Int) (m : Int) (i : Int), Le ((l251 k) x m i) ((l251 (k + 1)) x m i)
  | 0 => fun x m i => Le.no _
  | k + 1 => by
    have h := Mlslices_Max_int_int k
    exact fun x m i => MFslices_Max_int_int_1005 k h x m i
noncomputable def slices_Max_int_int_1005 (x : List Int) (m : Int) (i : Int) : Option (Int) := lim fun k => (l251 k) x m i
theorem Rlslices_Max_int_int_1005 (x : List Int) (m : Int) (i : Int) : Lim (fun k => (l251 k) x m i) (slices_Max_int_int_1005 x m i) := Lim.of_mono fun k => Mlslices_Max_int_int k x m i
theorem Eslices_Max_int_int_1005 (x : List Int) (m : Int) (i : Int) : slices_Max_int_int_1005 x m i =
  bif decide (i < (↑(List.length x) : Int)) then
    bif boundA i (List.length x) then
      slices_Max_int_int_1005 x (bif decide (m < List.getD x (Int.toNat i) 0) then List.getD x (Int.toNat i) 0 else m) (IntKind.wrap IntKind.i64 (i + 1))
    else
      none
  else
    some m := by
  refine Lim.uniq (Lim.shift (Rlslices_Max_int_int_1005 x m i)) (?_ : Lim (fun k => F251_1005 k ((l251 k)) x m i) _)
  unfold F251_1005
  repeat' first | with_reducible exact Lim.ret _ | with_reducible exact Rlslices_Max_int_int_1005 _ _ _ | with_reducible refine Lim.cond ?_ ?_ | with_reducible refine Lim.bind ?_ fun _ => ?_
noncomputable def slices_Max_int_int (x : List (Int)) : Option (Int) :=
  bif decide ((↑(List.length x) : Int) < 1) then
    none
  else
    bif boundA 0 (List.length x) then
      slices_Max_int_int_1005 x (List.getD x (Int.toNat 0) 0) (1)
    else
      none
theorem Mslices_Max_int_int (k : Nat) (x : List (Int)) : Le (f251 k x) (f251 (k + 1) x) := by
  have h := Mlslices_Max_int_int k
  unfold f251 F251
  repeat' first | with_reducible exact Le.rfl _ | with_reducible exact h _ _ _ | with_reducible refine Le.cond ?_ ?_ | with_reducible refine Le.bind ?_ fun _ => ?_
theorem Rslices_Max_int_int (x : List (Int)) : Lim (fun k => f251 k x) (slices_Max_int_int x) := by
  unfold f251 F251 slices_Max_int_int
  repeat' first | with_reducible exact Lim.ret _ | with_reducible exact Rlslices_Max_int_int_1005 _ _ _ | with_reducible refine Lim.cond ?_ ?_ | with_reducible refine Lim.bind ?_ fun _ => ?_

-- impl.commonSign
noncomputable def i_commonSign (list : List (Int)) : Option (Int) :=
  (slices_Min_int_int list).bind fun r0 =>
  bif decide (0 < r0) then
    some (1)
  else
    (slices_Max_int_int list).bind fun r1 =>
    bif decide (r1 < 0) then
      some (-1)
    else
      some (0)
theorem Mi_commonSign (k : Nat) (list : List (Int)) : Le (f204 k list) (f204 (k + 1) list) := by
  unfold f204
  repeat' first | with_reducible exact Le.rfl _ | with_reducible exact Mslices_Min_int_int _ _ | with_reducible exact Mslices_Max_int_int _ _ | with_reducible refine Le.cond ?_ ?_ | with_reducible refine Le.bind ?_ fun _ => ?_
theorem Ri_commonSign (list : List (Int)) : Lim (fun k => f204 k list) (i_commonSign list) := by
  unfold f204 i_commonSign
  repeat' first | with_reducible exact Lim.ret _ | with_reducible exact Rslices_Min_int_int _ | with_reducible exact Rslices_Max_int_int _ | with_reducible refine Lim.cond ?_ ?_ | with_reducible refine Lim.bind ?_ fun _ => ?_

-- impl.slopeSign
theorem MFi_slopeSign_1003 (k : Nat) {r1003 q1003 : List Int → List Int → Int → Int → Int → Int → Int → Int → List Int → Int → Option (Int)} (h1003 : ∀ (p : List Int) (q : List Int) (i : Int) (fine : Int) (xs_0 : Int) (xs_1 : Int) (xs_2 : Int) (xs_3 : Int) (alls : List Int) (moment : Int), Le (r1003 p q i fine xs_0 xs_1 xs_2 xs_3 alls moment) (q1003 p q i fine xs_0 xs_1 xs_2 xs_3 alls moment)) {r1006 q1006 : List Int → List Int → Int → Int → Int → Int → Int → Int → List Int → Int → List Int → Option (Int)} (h1006 : ∀ (p : List Int) (q : List Int) (i : Int) (fine : Int) (xs_0 : Int) (xs_1 : Int) (xs_2 : Int) (xs_3 : Int) (alls : List Int) (moment : Int) (ds : List Int), Le (r1006 p q i fine xs_0 xs_1 xs_2 xs_3 alls moment ds) (q1006 p q i fine xs_0 xs_1 xs_2 xs_3 alls moment ds)) (p : List Int) (q : List Int) (i : Int) (fine : Int) (xs_0 : Int) (xs_1 : Int) (xs_2 : Int) (xs_3 : Int) (alls : List Int) (moment : Int) : Le (F138_1003 k r1003 r1006 p q i fine xs_0 xs_1 xs_2 xs_3 alls moment) (F138_1003 (k + 1) q1003 q1006 p q i fine xs_0 xs_1 xs_2 xs_3 alls moment) := by
  unfold F138_1003
  repeat' first | with_reducible exact Le.rfl _ | with_reducible exact Mi_deriveSingle _ _ | with_reducible exact Mi_commonSign _ _ | with_reducible exact Mi_familyAt _ _ _ _ _ | with_reducible exact h1003 _ _ _ _ _ _ _ _ _ _ | with_reducible exact h1006 _ _ _ _ _ _ _ _ _ _ _ | with_reducible refine Le.cond ?_ ?_ | with_reducible refine Le.bind ?_ fun _ => ?_
theorem MFi_slopeSign_1006 (k : Nat) {r1003 q1003 : List Int → List Int → Int → Int → Int → Int → Int → Int → List Int → Int → Option (Int)} (h1003 : ∀ (p : List Int) (q : List Int) (i : Int) (fine : Int) (xs_0 : Int) (xs_1 : Int) (xs_2 : Int) (xs_3 : Int) (alls : List Int) (moment : Int), Le (r1003 p q i fine xs_0 xs_1 xs_2 xs_3 alls moment) (q1003 p q i fine xs_0 xs_1 xs_2 xs_3 alls moment)) {r1006 q1006 : List Int → List Int → Int → Int → Int → Int → Int → Int → List Int → Int → List Int → Option (Int)} (h1006 : ∀ (p : List Int) (q : List Int) (i : Int) (fine : Int) (xs_0 : Int) (xs_1 : Int) (xs_2 : Int) (xs_3 : Int) (alls : List Int) (moment : Int) (ds : List Int), Le (r1006 p q i fine xs_0 xs_1 xs_2 xs_3 alls moment ds) (q1006 p q i fine xs_0 xs_1 xs_2 xs_3 alls moment ds)) (p : List Int) (q : List Int) (i : Int) (fine : Int) (xs_0 : Int) (xs_1 : Int) (xs_2 : Int) (xs_3 : Int) (alls : List Int) (moment : Int) (ds : List Int) : Le (F138_1006 k r1003 r1006 p q i fine xs_0 xs_1 xs_2 xs_3 alls moment ds) (F138_1006 (k + 1) q1003 q1006 p q i fine xs_0 xs_1 xs_2 xs_3 alls moment ds) := by
  unfold F138_1006
  repeat' first | with_reducible exact Le.rfl _ | with_reducible exact Mi_overInterval _ _ _ _ _ _ | with_reducible exact h1003 _ _ _ _ _ _ _ _ _ _ | with_reducible exact h1006 _ _ _ _ _ _ _ _ _ _ _ | with_reducible refine Le.cond ?_ ?_ | with_reducible refine Le.bind ?_ fun _ => ?_
theorem Mli_slopeSign : ∀ k : Nat, (∀ (p : List Int) (q : List Int) (i : Int) (fine : Int) (xs_0 : Int) (xs_1 : Int) (xs_2 : Int) (xs_3 : Int) (alls : List Int) (moment : Int), Le ((l138 k).1 p q i fine xs_0 xs_1 xs_2 xs_3 alls moment) ((l138 (k + 1)).1 p q i fine xs_0 xs_1 xs_2 xs_3 alls moment)) ∧ (∀ (p : List Int) (q : List Int) (i : Int) (fine : Int) (xs_0 : Int) (xs_1 : Int) (xs_2 : Int) (xs_3 : Int) (alls : List Int) (moment : Int) (ds : List Int), Le ((l138 k).2 p q i fine xs_0 xs_1 xs_2 xs_3 alls moment ds) ((l138 (k + 1)).2 p q i fine xs_0 xs_1 xs_2 xs_3 alls moment ds))
  | 0 => ⟨fun p q i fine xs_0 xs_1 xs_2 xs_3 alls moment => Le.no _, fun p q i fine xs_0 xs_1 xs_2 xs_3 alls moment ds => Le.no _⟩
  | k + 1 => by
    have h := Mli_slopeSign k
    exact ⟨fun p q i fine xs_0 xs_1 xs_2 xs_3 alls moment => MFi_slopeSign_1003 k h.1 h.2 p q i fine xs_0 xs_1 xs_2 xs_3 alls moment, fun p q i fine xs_0 xs_1 xs_2 xs_3 alls moment ds => MFi_slopeSign_1006 k h.1 h.2 p q i fine xs_0 xs_1 xs_2 xs_3 alls moment ds⟩
noncomputable def i_slopeSign_1003 (p : List Int) (q : List Int) (i : Int) (fine : Int) (xs_0 : Int) (xs_1 : Int) (xs_2 : Int) (xs_3 : Int) (alls : List Int) (moment : Int) : Option (Int) := lim fun k => (l138 k).1 p q i fine xs_0 xs_1 xs_2 xs_3 alls moment
theorem Rli_slopeSign_1003 (p : List Int) (q : List Int) (i : Int) (fine : Int) (xs_0 : Int) (xs_1 : Int) (xs_2 : Int) (xs_3 : Int) (alls : List Int) (moment : Int) : Lim (fun k => (l138 k).1 p q i fine xs_0 xs_1 xs_2 xs_3 alls moment) (i_slopeSign_1003 p q i fine xs_0 xs_1 xs_2 xs_3 alls moment) := Lim.of_mono fun k => (Mli_slopeSign k).1 p q i fine xs_0 xs_1 xs_2 xs_3 alls moment
noncomputable def i_slopeSign_1006 (p : List Int) (q : List Int) (i : Int) (fine : Int) (xs_0 : Int) (xs_1 : Int) (xs_2 : Int) (xs_3 : Int) (alls : List Int) (moment : Int) (ds : List Int) : Option (Int) := lim fun k => (l138 k).2 p q i fine xs_0 xs_1 xs_2 xs_3 alls moment ds
theorem Rli_slopeSign_1006 (p : List Int) (q : List Int) (i : Int) (fine : Int) (xs_0 : Int) (xs_1 : Int) (xs_2 : Int) (xs_3 : Int) (alls : List Int) (moment : Int) (ds : List Int) : Lim (fun k => (l138 k).2 p q i fine xs_0 xs_1 xs_2 xs_3 alls moment ds) (i_slopeSign_1006 p q i fine xs_0 xs_1 xs_2 xs_3 alls moment ds) := Lim.of_mono fun k => (Mli_slopeSign k).2 p q i fine xs_0 xs_1 xs_2 xs_3 alls moment ds
theorem Ei_slopeSign_1003 (p : List Int) (q : List Int) (i : Int) (fine : Int) (xs_0 : Int) (xs_1 : Int) (xs_2 : Int) (xs_3 : Int) (alls : List Int) (moment : Int) : i_slopeSign_1003 p q i fine xs_0 xs_1 xs_2 xs_3 alls moment =
  bif decide (moment ≤ IntKind.wrap IntKind.i64 (i + 1)) then
    (i_familyAt p q moment fine).bind fun r0 =>
    (i_deriveSingle r0).bind fun r1 =>
    i_slopeSign_1006 p q i fine xs_0 xs_1 xs_2 xs_3 alls moment r1
  else
    (i_commonSign alls).bind fun r2 =>
    some r2 := by
  refine Lim.uniq (Lim.shift (Rli_slopeSign_1003 p q i fine xs_0 xs_1 xs_2 xs_3 alls moment)) (?_ : Lim (fun k => F138_1003 k ((l138 k).1) ((l138 k).2) p q i fine xs_0 xs_1 xs_2 xs_3 alls moment) _)
  unfold F138_1003
  repeat' first | with_reducible exact Lim.ret _ | with_reducible exact Ri_deriveSingle _ | with_reducible exact Ri_commonSign _ | with_reducible exact Ri_familyAt _ _ _ _ | with_reducible exact Rli_slopeSign_1003 _ _ _ _ _ _ _ _ _ _ | with_reducible exact Rli_slopeSign_1006 _ _ _ _ _ _ _ _ _ _ _ | with_reducible refine Lim.cond ?_ ?_ | with_reducible refine Lim.bind ?_ fun _ => ?_
theorem Ei_slopeSign_1006 (p : List Int) (q : List Int) (i : Int) (fine : Int) (xs_0 : Int) (xs_1 : Int) (xs_2 : Int) (xs_3 : Int) (alls : List Int) (moment : Int) (ds : List Int) : i_slopeSign_1006 p q i fine xs_0 xs_1 xs_2 xs_3 alls moment ds =
  bif decide ((↑(List.length ds) : Int) < 5) then
    bif decide ((List.length ds + List.length [0]) * 8 ≤ 140737488355328) then
      i_slopeSign_1006 p q i fine xs_0 xs_1 xs_2 xs_3 alls moment (ds ++ [0])
    else
      none
  else
    (i_overInterval ds xs_0 xs_1 xs_2 xs_3).bind fun r0 =>
    bif decide ((List.length alls + List.length r0) * 8 ≤ 140737488355328) then
      i_slopeSign_1003 p q i fine xs_0 xs_1 xs_2 xs_3 (alls ++ r0) (IntKind.wrap IntKind.i64 (moment + 1))
    else
      none := by
  refine Lim.uniq (Lim.shift (Rli_slopeSign_1006 p q i fine xs_0 xs_1 xs_2 xs_3 alls moment ds)) (?_ : Lim (fun k => F138_1006 k ((l138 k).1) ((l138 k).2) p q i fine xs_0 xs_1 xs_2 xs_3 alls moment ds) _)
  unfold F138_1006
  repeat' first | with_reducible exact Lim.ret _ | with_reducible exact Ri_overInterval _ _ _ _ _ | with_reducible exact Rli_slopeSign_1003 _ _ _ _ _ _ _ _ _ _ | with_reducible exact Rli_slopeSign_1006 _ _ _ _ _ _ _ _ _ _ _ | with_reducible refine Lim.cond ?_ ?_ | with_reducible refine Lim.bind ?_ fun _ => ?_
noncomputable def i_slopeSign (p : List (Int)) (q : List (Int)) (x_Low_N : Int) (x_Low_K : Int) (x_High_N : Int) (x_High_K : Int) (i : Int) (fine : Int) : Option (Int) :=
  i_slopeSign_1003 p q i fine x_Low_N x_Low_K x_High_N x_High_K ([]) i
theorem Mi_slopeSign (k : Nat) (p : List (Int)) (q : List (Int)) (x_Low_N : Int) (x_Low_K : Int) (x_High_N : Int) (x_High_K : Int) (i : Int) (fine : Int) : Le (f138 k p q x_Low_N x_Low_K x_High_N x_High_K i fine) (f138 (k + 1) p q x_Low_N x_Low_K x_High_N x_High_K i fine) := by
  have h := Mli_slopeSign k
  unfold f138 F138
  repeat' first | with_reducible exact Le.rfl _ | with_reducible exact h.1 _ _ _ _ _ _ _ _ _ _ | with_reducible exact h.2 _ _ _ _ _ _ _ _ _ _ _ | with_reducible refine Le.cond ?_ ?_ | with_reducible refine Le.bind ?_ fun _ => ?_
theorem Ri_slopeSign (p : List (Int)) (q : List (Int)) (x_Low_N : Int) (x_Low_K : Int) (x_High_N : Int) (x_High_K : Int) (i : Int) (fine : Int) : Lim (fun k => f138 k p q x_Low_N x_Low_K x_High_N x_High_K i fine) (i_slopeSign p q x_Low_N x_Low_K x_High_N x_High_K i fine) := by
  unfold f138 F138 i_slopeSign
  repeat' first | with_reducible exact Lim.ret _ | with_reducible exact Rli_slopeSign_1003 _ _ _ _ _ _ _ _ _ _ | with_reducible exact Rli_slopeSign_1006 _ _ _ _ _ _ _ _ _ _ _ | with_reducible refine Lim.cond ?_ ?_ | with_reducible refine Lim.bind ?_ fun _ => ?_

-- impl.stepHolds
noncomputable def i_stepHolds (p : List (Int)) (q : List (Int)) (x_Low_N : Int) (x_Low_K : Int) (x_High_N : Int) (x_High_K : Int) (i : Int) (fine : Int) : Option (Bool) :=
  (i_familySign p q x_Low_N x_Low_K i (IntKind.wrap IntKind.i64 (i + 1)) fine).bind fun r0 =>
  (i_familySign p q x_High_N x_High_K i (IntKind.wrap IntKind.i64 (i + 1)) fine).bind fun r1 =>
  bif decide (IntKind.wrap IntKind.i64 (r0 * r1) < 0) then
    (i_slopeSign p q x_Low_N x_Low_K x_High_N x_High_K i fine).bind fun r2 =>
    some (!decide (r2 = 0))
  else
    some false
theorem Mi_stepHolds (k : Nat) (p : List (Int)) (q : List (Int)) (x_Low_N : Int) (x_Low_K : Int) (x_High_N : Int) (x_High_K : Int) (i : Int) (fine : Int) : Le (f81 k p q x_Low_N x_Low_K x_High_N x_High_K i fine) (f81 (k + 1) p q x_Low_N x_Low_K x_High_N x_High_K i fine) := by
  unfold f81
  repeat' first | with_reducible exact Le.rfl _ | with_reducible exact Mi_familySign _ _ _ _ _ _ _ _ | with_reducible exact Mi_slopeSign _ _ _ _ _ _ _ _ _ | with_reducible refine Le.cond ?_ ?_ | with_reducible refine Le.bind ?_ fun _ => ?_
theorem Ri_stepHolds (p : List (Int)) (q : List (Int)) (x_Low_N : Int) (x_Low_K : Int) (x_High_N : Int) (x_High_K : Int) (i : Int) (fine : Int) : Lim (fun k => f81 k p q x_Low_N x_Low_K x_High_N x_High_K i fine) (i_stepHolds p q x_Low_N x_Low_K x_High_N x_High_K i fine) := by
  unfold f81 i_stepHolds
  repeat' first | with_reducible exact Lim.ret _ | with_reducible exact Ri_familySign _ _ _ _ _ _ _ | with_reducible exact Ri_slopeSign _ _ _ _ _ _ _ _ | with_reducible refine Lim.cond ?_ ?_ | with_reducible refine Lim.bind ?_ fun _ => ?_

-- impl.StepHolds
noncomputable def i_StepHolds (p : List (Int)) (q : List (Int)) (x_Low_N : Int) (x_Low_K : Int) (x_High_N : Int) (x_High_K : Int) (i : Int) (fine : Int) : Option (Bool × Bool) :=
  (i_isFamily p q fine).bind fun r0 =>
  bif !r0 then
    some ((false, false))
  else
    (i_isFit x_Low_N x_Low_K x_High_N x_High_K).bind fun r1 =>
    bif !r1 then
      some ((false, false))
    else
      (i_isMoment (IntKind.wrap IntKind.i64 (i + 1)) fine).bind fun r2 =>
      bif !r2 then
        some ((false, false))
      else
        bif decide (i < 0) then
          some ((false, false))
        else
          (i_stepHolds p q x_Low_N x_Low_K x_High_N x_High_K i fine).bind fun r3 =>
          some ((r3, true))
theorem Mi_StepHolds (k : Nat) (p : List (Int)) (q : List (Int)) (x_Low_N : Int) (x_Low_K : Int) (x_High_N : Int) (x_High_K : Int) (i : Int) (fine : Int) : Le (f21 k p q x_Low_N x_Low_K x_High_N x_High_K i fine) (f21 (k + 1) p q x_Low_N x_Low_K x_High_N x_High_K i fine) := by
  unfold f21
  repeat' first | with_reducible exact Le.rfl _ | with_reducible exact Mi_isFamily _ _ _ _ | with_reducible exact Mi_isFit _ _ _ _ _ | with_reducible exact Mi_isMoment _ _ _ | with_reducible exact Mi_stepHolds _ _ _ _ _ _ _ _ _ | with_reducible refine Le.cond ?_ ?_ | with_reducible refine Le.bind ?_ fun _ => ?_
theorem Ri_StepHolds (p : List (Int)) (q : List (Int)) (x_Low_N : Int) (x_Low_K : Int) (x_High_N : Int) (x_High_K : Int) (i : Int) (fine : Int) : Lim (fun k => f21 k p q x_Low_N x_Low_K x_High_N x_High_K i fine) (i_StepHolds p q x_Low_N x_Low_K x_High_N x_High_K i fine) := by
  unfold f21 i_StepHolds
  repeat' first | with_reducible exact Lim.ret _ | with_reducible exact Ri_isFamily _ _ _ | with_reducible exact Ri_isFit _ _ _ _ | with_reducible exact Ri_isMoment _ _ | with_reducible exact Ri_stepHolds _ _ _ _ _ _ _ _ | with_reducible refine Lim.cond ?_ ?_ | with_reducible refine Lim.bind ?_ fun _ => ?_

-- laws.FnExactStepHolds
noncomputable def w_FnExactStepHolds (L : List (Int)) (i : List (Int)) (s_Low_N : Int) (s_Low_K : Int) (s_High_N : Int) (s_High_K : Int) (t : Int) (t4 : Int) : Option (Bool) :=
  bif decide (1000000 < IntKind.wrap IntKind.i64 ((↑(List.length L) : Int) + (↑(List.length i) : Int))) then
    some true
  else
    (w_toIntS L false).bind fun r0 =>
    (w_toIntS i false).bind fun r1 =>
    (s_StepHolds (List.take r0.snd r0.fst) (List.take r1.snd r1.fst) s_Low_N s_Low_K s_High_N s_High_K t t4).bind fun r2 =>
    (w_toIntS L false).bind fun r3 =>
    (w_toIntS i false).bind fun r4 =>
    (i_StepHolds (List.take r3.snd r3.fst) (List.take r4.snd r4.fst) s_Low_N s_Low_K s_High_N s_High_K t t4).bind fun r5 =>
    bif !r5.fst == r2.fst then
      some false
    else
      bif !r5.snd == r2.snd then
        some false
      else
        (w_toIntS L false).bind fun r6 =>
        (w_intactIntS r3.fst r3.snd r6.fst r6.snd).bind fun r7 =>
        bif !r7 then
          some false
        else
          (w_toIntS i false).bind fun r8 =>
          (w_intactIntS r4.fst r4.snd r8.fst r8.snd).bind fun r9 =>
          bif !r9 then
            some false
          else
            (w_toIntS L true).bind fun r10 =>
            (w_toIntS i true).bind fun r11 =>
            (i_StepHolds (List.take r10.snd r10.fst) (List.take r11.snd r11.fst) s_Low_N s_Low_K s_High_N s_High_K t t4).bind fun r12 =>
            bif !r12.fst == r2.fst then
              some false
            else
              bif !r12.snd == r2.snd then
                some false
              else
                some true
theorem Mw_FnExactStepHolds (k : Nat) (L : List (Int)) (i : List (Int)) (s_Low_N : Int) (s_Low_K : Int) (s_High_N : Int) (s_High_K : Int) (t : Int) (t4 : Int) : Le (f4 k L i s_Low_N s_Low_K s_High_N s_High_K t t4) (f4 (k + 1) L i s_Low_N s_Low_K s_High_N s_High_K t t4) := by
  unfold f4
  repeat' first | with_reducible exact Le.rfl _ | with_reducible exact Mw_toIntS _ _ _ | with_reducible exact Mw_intactIntS _ _ _ _ _ | with_reducible exact Ms_StepHolds _ _ _ _ _ _ _ _ _ | with_reducible exact Mi_StepHolds _ _ _ _ _ _ _ _ _ | with_reducible refine Le.cond ?_ ?_ | with_reducible refine Le.bind ?_ fun _ => ?_
theorem Rw_FnExactStepHolds (L : List (Int)) (i : List (Int)) (s_Low_N : Int) (s_Low_K : Int) (s_High_N : Int) (s_High_K : Int) (t : Int) (t4 : Int) : Lim (fun k => f4 k L i s_Low_N s_Low_K s_High_N s_High_K t t4) (w_FnExactStepHolds L i s_Low_N s_Low_K s_High_N s_High_K t t4) := by
  unfold f4 w_FnExactStepHolds
  repeat' first | with_reducible exact Lim.ret _ | with_reducible exact Rw_toIntS _ _ | with_reducible exact Rw_intactIntS _ _ _ _ | with_reducible exact Rs_StepHolds _ _ _ _ _ _ _ _ | with_reducible exact Ri_StepHolds _ _ _ _ _ _ _ _ | with_reducible refine Lim.cond ?_ ?_ | with_reducible refine Lim.bind ?_ fun _ => ?_

end Go.Proofs.YtbaeikcfchiiaaaE
